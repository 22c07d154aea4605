-- Made by a program of this session (wip/tools/pr2.sh) out of the translation, by way of the printer: shared by the seat's laws.
import Derived.Test.YtlobnnakikgcnaaPAx0
import Derived.Test.YtlobnnakikgcnaaPAx48
import Derived.Test.YtlobnnakikgcnaaPAx49
import Derived.Test.YtlobnnakikgcnaaPsz
import Derived.Test.YtlobnnakikgcnaaPto
import Derived.Test.YtlobnnakikgcnaaPeq
import Derived.Test.YtlobnnakikgcnaaPmark
import Derived.Test.YtlobnnakikgcnaaPheld
namespace Go.Proofs.Ytlobnnakikgcnaa.PA
open Go.RowKit Go.Proofs.YtlobnnakikgcnaaW.PrintWords Go.Proofs.YtlobnnakikgcnaaW.PrintLast Go.Proofs.YtlobnnakikgcnaaW.PrintMore
attribute [local go_sem] max2_int min2_int max_two min_two max_three min_three max_four min_four   -- for this text's walks alone
set_option linter.unusedVariables false
set_option linter.unusedSimpArgs false

/-! ### laws_FnExactTopJoin: function 5 -/
mutual
def laws_FnExactTopJoin.j0 : Nat → Bool → Bool → Bool → List (S70) → Int → Int → List (S70) → Int → Int → List (S54) → Int → Int → List (S54) → Int → Int → List (S54) → Int → Int → List (S54) → Int → Int → Option (Bool)
  | 0, _, _, _, _, _, _, _, _, _, _, _, _, _, _, _, _, _, _, _, _, _ => none
  | k + 1, x7, x11, x53, x517000, x517001, x517002, x518000, x518001, x518002, x537000, x537001, x537002, x543000, x543001, x543002, x549000, x549001, x549002, x556000, x556001, x556002 => if x53 = true then (some false) else ((laws_toTop.f k x517000 x517001 x517002).bind fun bt557 => ((laws_eqTop.f k x543000 x543001 x543002 bt557.1 bt557.2.1 bt557.2.2).bind fun t562 => (if t562 = true then ((laws_toTop.f k x518000 x518001 x518002).bind fun bt563 => ((laws_eqTop.f k x549000 x549001 x549002 bt563.1 bt563.2.1 bt563.2.2).bind fun t568 => (if t568 = true then ((laws_markTop.f k x543000 x543001 x543002 1).bind fun bt569 => ((laws_markTop.f k x549000 x549001 x549002 bt569.1).bind fun bt571 => (if bt571.1 < 0 then (laws_FnExactTopJoin.j1 k x7 true x517000 x517001 x517002 x518000 x518001 x518002 x537000 x537001 x537002 x556000 x556001 x556002) else ((laws_eqTop.f k x556000 x556001 x556002 x537000 x537001 x537002).bind fun t573 => (if t573 = true then (laws_FnExactTopJoin.j1 k x7 (x11 != x7) x517000 x517001 x517002 x518000 x518001 x518002 x537000 x537001 x537002 x556000 x556001 x556002) else (laws_FnExactTopJoin.j1 k x7 true x517000 x517001 x517002 x518000 x518001 x518002 x537000 x537001 x537002 x556000 x556001 x556002)))))) else (some false)))) else (some false))))
def laws_FnExactTopJoin.j1 : Nat → Bool → Bool → List (S70) → Int → Int → List (S70) → Int → Int → List (S54) → Int → Int → List (S54) → Int → Int → Option (Bool)
  | 0, _, _, _, _, _, _, _, _, _, _, _, _, _, _ => none
  | k + 1, x7, x82, x517000, x517001, x517002, x518000, x518001, x518002, x537000, x537001, x537002, x556000, x556001, x556002 => if x82 = true then (some false) else ((laws_markTop.f k x556000 x556001 x556002 1).bind fun bt574 => ((laws_heldTop.f k bt574.2 x556001 x556002 1).bind fun t576 => (if t576 < 0 then (some false) else (if t576 = bt574.1 then ((laws_toTop.f k x517000 x517001 x517002).bind fun bt577 => ((laws_toTop.f k x518000 x518001 x518002).bind fun bt582 => ((impl_TopJoin.f k bt577.1 bt577.2.1 bt577.2.2 bt582.1 bt582.2.1 bt582.2.2).bind fun bt587 => ((laws_eqTop.f k bt587.1 bt587.2.1 bt587.2.2.1 x537000 x537001 x537002).bind fun t594 => (if t594 = true then (laws_FnExactTopJoin.j2 k bt574.1 (bt587.2.2.2 != x7) bt574.2 x556001 x556002) else (laws_FnExactTopJoin.j2 k bt574.1 true bt574.2 x556001 x556002)))))) else (some false)))))
def laws_FnExactTopJoin.j2 : Nat → Int → Bool → List (S54) → Int → Int → Option (Bool)
  | 0, _, _, _, _, _ => none
  | k + 1, x13, x110, x556000, x556001, x556002 => if x110 = true then (some false) else ((laws_heldTop.f k x556000 x556001 x556002 1).bind fun t595 => (if t595 < 0 then (some false) else (if t595 = x13 then (some true) else (some false))))
end
def laws_FnExactTopJoin.f (k : Nat) (l0_0 : List (S70)) (a0_1 : Int) (a0_2 : Int) (l1_0 : List (S70)) (a1_1 : Int) (a1_2 : Int) : Option (Bool) := (laws_szTop.f l0_0 a0_1 a0_2 1048576).bind fun t518 => (if t518 < 0 then (some true) else ((laws_szTop.f l1_0 a1_1 a1_2 t518).bind fun t519 => (if t519 < 0 then (some true) else ((laws_toTop.f k l0_0 a0_1 a0_2).bind fun bt520 => ((laws_toTop.f k l1_0 a1_1 a1_2).bind fun bt525 => ((spec_TopJoin.f k bt520.1 bt520.2.1 bt520.2.2 bt525.1 bt525.2.1 bt525.2.2).bind fun bt530 => ((laws_toTop.f k l0_0 a0_1 a0_2).bind fun bt537 => ((laws_toTop.f k l1_0 a1_1 a1_2).bind fun bt543 => ((impl_TopJoin.f k bt537.1 bt537.2.1 bt537.2.2 bt543.1 bt543.2.1 bt543.2.2).bind fun bt549 => ((laws_eqTop.f k bt549.1 bt549.2.1 bt549.2.2.1 bt530.1 bt530.2.1 bt530.2.2.1).bind fun t556 => (if t556 = true then (laws_FnExactTopJoin.j0 k bt530.2.2.2 bt549.2.2.2 (bt549.2.2.2 != bt530.2.2.2) l0_0 a0_1 a0_2 l1_0 a1_1 a1_2 bt530.1 bt530.2.1 bt530.2.2.1 bt537.1 bt537.2.1 bt537.2.2 bt543.1 bt543.2.1 bt543.2.2 bt549.1 bt549.2.1 bt549.2.2.1) else (laws_FnExactTopJoin.j0 k bt530.2.2.2 bt549.2.2.2 true l0_0 a0_1 a0_2 l1_0 a1_1 a1_2 bt530.1 bt530.2.1 bt530.2.2.1 bt537.1 bt537.2.1 bt537.2.2 bt543.1 bt543.2.1 bt543.2.2 bt549.1 bt549.2.1 bt549.2.2.1))))))))))))
theorem laws_FnExactTopJoin.mono_l : ∀ k, (∀ y0 y1 y2 y3 y4 y5 y6 y7 y8 y9 y10 y11 y12 y13 y14 y15 y16 y17 y18 y19 y20, LeO (laws_FnExactTopJoin.j0 k y0 y1 y2 y3 y4 y5 y6 y7 y8 y9 y10 y11 y12 y13 y14 y15 y16 y17 y18 y19 y20) (laws_FnExactTopJoin.j0 (k + 1) y0 y1 y2 y3 y4 y5 y6 y7 y8 y9 y10 y11 y12 y13 y14 y15 y16 y17 y18 y19 y20)) ∧ (∀ y0 y1 y2 y3 y4 y5 y6 y7 y8 y9 y10 y11 y12 y13, LeO (laws_FnExactTopJoin.j1 k y0 y1 y2 y3 y4 y5 y6 y7 y8 y9 y10 y11 y12 y13) (laws_FnExactTopJoin.j1 (k + 1) y0 y1 y2 y3 y4 y5 y6 y7 y8 y9 y10 y11 y12 y13)) ∧ (∀ y0 y1 y2 y3 y4, LeO (laws_FnExactTopJoin.j2 k y0 y1 y2 y3 y4) (laws_FnExactTopJoin.j2 (k + 1) y0 y1 y2 y3 y4))
  | 0 => ⟨fun _ _ _ _ _ _ _ _ _ _ _ _ _ _ _ _ _ _ _ _ _ r h => by simp [laws_FnExactTopJoin.j0] at h, fun _ _ _ _ _ _ _ _ _ _ _ _ _ _ r h => by simp [laws_FnExactTopJoin.j1] at h, fun _ _ _ _ _ r h => by simp [laws_FnExactTopJoin.j2] at h⟩
  | k + 1 => by
    obtain ⟨ih0, ih1, ih2⟩ := laws_FnExactTopJoin.mono_l k
    refine ⟨?_, ?_, ?_⟩
    · intro y0 y1 y2 y3 y4 y5 y6 y7 y8 y9 y10 y11 y12 y13 y14 y15 y16 y17 y18 y19 y20
      unfold laws_FnExactTopJoin.j0
      repeat' first
      | (with_reducible exact ih0 _ _ _ _ _ _ _ _ _ _ _ _ _ _ _ _ _ _ _ _ _)
      | (with_reducible exact ih1 _ _ _ _ _ _ _ _ _ _ _ _ _ _)
      | (with_reducible exact ih2 _ _ _ _ _)
      | (with_reducible exact impl_TopJoin.mono _ _ _ _ _ _ _)
      | (with_reducible exact laws_eqTop.mono _ _ _ _ _ _ _)
      | (with_reducible exact laws_heldTop.mono _ _ _ _ _)
      | (with_reducible exact laws_markTop.mono _ _ _ _ _)
      | (with_reducible exact laws_toTop.mono _ _ _ _)
      | (with_reducible exact spec_TopJoin.mono _ _ _ _ _ _ _)
      | (with_reducible exact LeO.refl _)
      | (with_reducible exact LeO.none _)
      | (with_reducible refine LeO.ite ?_ ?_)
      | (with_reducible refine LeO.bind ?_ (fun _ => ?_))
      | exact ih0 _ _ _ _ _ _ _ _ _ _ _ _ _ _ _ _ _ _ _ _ _
      | exact ih1 _ _ _ _ _ _ _ _ _ _ _ _ _ _
      | exact ih2 _ _ _ _ _
      | exact impl_TopJoin.mono _ _ _ _ _ _ _
      | exact laws_eqTop.mono _ _ _ _ _ _ _
      | exact laws_heldTop.mono _ _ _ _ _
      | exact laws_markTop.mono _ _ _ _ _
      | exact laws_toTop.mono _ _ _ _
      | exact spec_TopJoin.mono _ _ _ _ _ _ _
      | exact LeO.none _
      | refine LeO.ite ?_ ?_
      | refine LeO.bind ?_ (fun _ => ?_)
    · intro y0 y1 y2 y3 y4 y5 y6 y7 y8 y9 y10 y11 y12 y13
      unfold laws_FnExactTopJoin.j1
      repeat' first
      | (with_reducible exact ih0 _ _ _ _ _ _ _ _ _ _ _ _ _ _ _ _ _ _ _ _ _)
      | (with_reducible exact ih1 _ _ _ _ _ _ _ _ _ _ _ _ _ _)
      | (with_reducible exact ih2 _ _ _ _ _)
      | (with_reducible exact impl_TopJoin.mono _ _ _ _ _ _ _)
      | (with_reducible exact laws_eqTop.mono _ _ _ _ _ _ _)
      | (with_reducible exact laws_heldTop.mono _ _ _ _ _)
      | (with_reducible exact laws_markTop.mono _ _ _ _ _)
      | (with_reducible exact laws_toTop.mono _ _ _ _)
      | (with_reducible exact spec_TopJoin.mono _ _ _ _ _ _ _)
      | (with_reducible exact LeO.refl _)
      | (with_reducible exact LeO.none _)
      | (with_reducible refine LeO.ite ?_ ?_)
      | (with_reducible refine LeO.bind ?_ (fun _ => ?_))
      | exact ih0 _ _ _ _ _ _ _ _ _ _ _ _ _ _ _ _ _ _ _ _ _
      | exact ih1 _ _ _ _ _ _ _ _ _ _ _ _ _ _
      | exact ih2 _ _ _ _ _
      | exact impl_TopJoin.mono _ _ _ _ _ _ _
      | exact laws_eqTop.mono _ _ _ _ _ _ _
      | exact laws_heldTop.mono _ _ _ _ _
      | exact laws_markTop.mono _ _ _ _ _
      | exact laws_toTop.mono _ _ _ _
      | exact spec_TopJoin.mono _ _ _ _ _ _ _
      | exact LeO.none _
      | refine LeO.ite ?_ ?_
      | refine LeO.bind ?_ (fun _ => ?_)
    · intro y0 y1 y2 y3 y4
      unfold laws_FnExactTopJoin.j2
      repeat' first
      | (with_reducible exact ih0 _ _ _ _ _ _ _ _ _ _ _ _ _ _ _ _ _ _ _ _ _)
      | (with_reducible exact ih1 _ _ _ _ _ _ _ _ _ _ _ _ _ _)
      | (with_reducible exact ih2 _ _ _ _ _)
      | (with_reducible exact impl_TopJoin.mono _ _ _ _ _ _ _)
      | (with_reducible exact laws_eqTop.mono _ _ _ _ _ _ _)
      | (with_reducible exact laws_heldTop.mono _ _ _ _ _)
      | (with_reducible exact laws_markTop.mono _ _ _ _ _)
      | (with_reducible exact laws_toTop.mono _ _ _ _)
      | (with_reducible exact spec_TopJoin.mono _ _ _ _ _ _ _)
      | (with_reducible exact LeO.refl _)
      | (with_reducible exact LeO.none _)
      | (with_reducible refine LeO.ite ?_ ?_)
      | (with_reducible refine LeO.bind ?_ (fun _ => ?_))
      | exact ih0 _ _ _ _ _ _ _ _ _ _ _ _ _ _ _ _ _ _ _ _ _
      | exact ih1 _ _ _ _ _ _ _ _ _ _ _ _ _ _
      | exact ih2 _ _ _ _ _
      | exact impl_TopJoin.mono _ _ _ _ _ _ _
      | exact laws_eqTop.mono _ _ _ _ _ _ _
      | exact laws_heldTop.mono _ _ _ _ _
      | exact laws_markTop.mono _ _ _ _ _
      | exact laws_toTop.mono _ _ _ _
      | exact spec_TopJoin.mono _ _ _ _ _ _ _
      | exact LeO.none _
      | refine LeO.ite ?_ ?_
      | refine LeO.bind ?_ (fun _ => ?_)
theorem laws_FnExactTopJoin.mono : ∀ a0 a1 a2 a3 a4 a5 k, LeO (laws_FnExactTopJoin.f k a0 a1 a2 a3 a4 a5) (laws_FnExactTopJoin.f (k + 1) a0 a1 a2 a3 a4 a5) := by
  intro a0 a1 a2 a3 a4 a5 k
  obtain ⟨ih0, ih1, ih2⟩ := laws_FnExactTopJoin.mono_l k
  unfold laws_FnExactTopJoin.f
  repeat' first
      | (with_reducible exact ih0 _ _ _ _ _ _ _ _ _ _ _ _ _ _ _ _ _ _ _ _ _)
      | (with_reducible exact ih1 _ _ _ _ _ _ _ _ _ _ _ _ _ _)
      | (with_reducible exact ih2 _ _ _ _ _)
      | (with_reducible exact impl_TopJoin.mono _ _ _ _ _ _ _)
      | (with_reducible exact laws_eqTop.mono _ _ _ _ _ _ _)
      | (with_reducible exact laws_heldTop.mono _ _ _ _ _)
      | (with_reducible exact laws_markTop.mono _ _ _ _ _)
      | (with_reducible exact laws_toTop.mono _ _ _ _)
      | (with_reducible exact spec_TopJoin.mono _ _ _ _ _ _ _)
      | (with_reducible exact LeO.refl _)
      | (with_reducible exact LeO.none _)
      | (with_reducible refine LeO.ite ?_ ?_)
      | (with_reducible refine LeO.bind ?_ (fun _ => ?_))
      | exact ih0 _ _ _ _ _ _ _ _ _ _ _ _ _ _ _ _ _ _ _ _ _
      | exact ih1 _ _ _ _ _ _ _ _ _ _ _ _ _ _
      | exact ih2 _ _ _ _ _
      | exact impl_TopJoin.mono _ _ _ _ _ _ _
      | exact laws_eqTop.mono _ _ _ _ _ _ _
      | exact laws_heldTop.mono _ _ _ _ _
      | exact laws_markTop.mono _ _ _ _ _
      | exact laws_toTop.mono _ _ _ _
      | exact spec_TopJoin.mono _ _ _ _ _ _ _
      | exact LeO.none _
      | refine LeO.ite ?_ ?_
      | refine LeO.bind ?_ (fun _ => ?_)
def laws_FnExactTopJoin.T8 : Bool × List (List Nat × List Nat) := (true, [([], []), ([0], [0]), ([], []), ([2, 1], [2]), ([1, 3, 3], [1, 3]), ([4], [4]), ([5], [5]), ([5], [5]), ([], []), ([8, 6, 4, 0, 1, 2, 3, 4, 5, 6, 8], [6, 8]), ([7, 9, 0, 1, 2, 3, 4, 5, 6, 7, 8, 9], [7])])
def laws_FnExactTopJoin.B8 : List Nat := [0, 1, 0, 7, 15, 31, 63, 63, 0, 383, 1023]
theorem laws_FnExactTopJoin.tab8 : rtab .any (opsOf Try.f5 8) = laws_FnExactTopJoin.T8 := by kernel_rfl
theorem laws_FnExactTopJoin.bits8 : waitsOk laws_FnExactTopJoin.T8.2 laws_FnExactTopJoin.B8 = true := by kernel_rfl
def laws_FnExactTopJoin.T31 : Bool × List (List Nat × List Nat) := (true, [([], []), ([0], [0]), ([], []), ([2, 1], [2]), ([1, 3, 3], [1, 3]), ([4], [4]), ([5], [5]), ([5], [5]), ([], []), ([8, 6, 4, 0, 1, 2, 3, 4, 5, 6, 8], [6, 8]), ([7, 9, 0, 1, 2, 3, 4, 5, 6, 7, 8, 9], [7])])
def laws_FnExactTopJoin.B31 : List Nat := [0, 1, 0, 7, 15, 31, 63, 63, 0, 383, 1023]
theorem laws_FnExactTopJoin.tab31 : rtab .any (opsOf Try.f5 31) = laws_FnExactTopJoin.T31 := by kernel_rfl
theorem laws_FnExactTopJoin.bits31 : waitsOk laws_FnExactTopJoin.T31.2 laws_FnExactTopJoin.B31 = true := by kernel_rfl
abbrev z5D0 : Array Bool := #[false, false, false, false, false, false, false, false, false, false, false]
abbrev z5D1 : Array Bool := #[true, false, false, false, false, false, false, false, false, false, false]
abbrev z5D2 : Array Bool := #[true, false, true, false, false, false, false, false, false, false, false]
abbrev z5D3 : Array Bool := #[true, true, true, true, true, true, true, true, true, false, false]
abbrev z5D4 : Array Bool := #[true, true, true, false, false, false, false, false, false, false, false]
abbrev z5D5 : Array Bool := #[true, false, true, false, false, false, false, false, true, false, false]
abbrev z5D6 : Array Bool := #[true, true, true, true, false, false, false, false, false, false, false]
abbrev z5D7 : Array Bool := #[true, true, true, false, false, false, false, false, true, false, false]
abbrev z5D8 : Array Bool := #[true, true, true, true, true, false, false, false, false, false, false]
abbrev z5D9 : Array Bool := #[true, true, true, true, false, false, false, false, true, false, false]
abbrev z5D10 : Array Bool := #[true, true, true, true, true, true, false, false, false, false, false]
abbrev z5D11 : Array Bool := #[true, true, true, true, true, true, true, false, false, false, false]
abbrev z5D12 : Array Bool := #[true, true, true, true, true, true, true, true, false, false, false]
abbrev z5D13 : Array Bool := #[true, true, true, true, true, false, false, false, true, false, false]
abbrev z5D14 : Array Bool := #[true, true, true, true, true, true, false, false, true, false, false]
abbrev z5D15 : Array Bool := #[true, true, true, true, true, true, true, false, true, false, false]
abbrev z5D16 : Array Bool := #[true, true, true, true, true, true, true, true, true, true, false]
abbrev z5D17 : Array Bool := #[true, true, true, true, true, true, true, true, true, true, true]
theorem z5bb {w W w1 : World} {g : Nat} {o : Obj} (h : Aside0 (w.heap[g]? = some o)) (hb : Below W.heap.size W w1) (hp : W.heap[g]? = some o := by (with_reducible repeat (first | refine blk_drewN ?_ _ | refine blk_drew ?_ | refine blk_alloc ?_ _)); exact Aside0.out (by assumption)) : Aside0 (w1.heap[g]? = some o) := ⟨blk_below hp hb⟩
theorem z5bc {w : World} {g t : Nat} {cs : Array Value} (h : Aside0 (w.heap[g]? = some (.cells cs t (0, 0)))) (i : Nat) {u : Value} (e : cs[i]? = some u := by rfl) : w.cell? ⟨g, i, none⟩ = some u := (blk_cell h.out i).trans e
variable {p : Prop}
theorem z5k {p : Prop} (h : p) : Aside0 p := ⟨h⟩
theorem z5a {α : Type _} {l : List α} {i : Nat} {a : α} : l.toArray.setIfInBounds i a = (l.set i a).toArray := List.setIfInBounds_toArray ..
theorem z5b {α : Type _} {x a : α} {xs : List α} : (x :: xs).set 0 a = a :: xs := List.set_cons_zero
theorem z5c {α : Type _} {x a : α} {xs : List α} {i : Nat} : (x :: xs).set (i + 1) a = x :: xs.set i a := List.set_cons_succ
theorem q5_0 (h : p := by repeat (first | (with_reducible first | exact HB.out | apply below_alloc | apply pw_below_drewN | apply below_drew1 | refine below_set ?_ GE516.out | refine below_set ?_ GE517.out | refine below_set ?_ GE536.out | refine below_set ?_ GE542.out | refine below_set ?_ GE548.out | refine below_set ?_ GE555.out) | exact HB.out)) : p := h
theorem q5_1 (h : p := by repeat (first | (with_reducible first | exact HB.out | apply below_alloc | apply pw_below_drewN | apply below_drew1 | refine below_set ?_ GE516.out | refine below_set ?_ GE517.out | refine below_set ?_ GE536.out | refine below_set ?_ GE542.out | refine below_set ?_ GE548.out | refine below_set ?_ GE555.out | refine below_set ?_ GE593.out) | exact HB.out)) : p := h
theorem q5_2 (h : p := by (try simp only [List.map_toArray, List.map_cons, List.map_nil]); first | done | rfl | (simp only [List.length_drop, List.length_take]; rfl)) : p := h
theorem q5_3 (h : p := by repeat (first | (with_reducible first | exact HB.out | apply below_alloc | apply pw_below_drewN | apply below_drew1 | refine below_set ?_ GE516.out | refine below_set ?_ GE517.out | refine below_set ?_ GE536.out) | exact HB.out)) : p := h
theorem q5_4 (h : p := by repeat (first | (with_reducible first | exact HB.out | apply below_alloc | apply pw_below_drewN | apply below_drew1 | refine below_set ?_ GE516.out | refine below_set ?_ GE517.out) | exact HB.out)) : p := h
theorem q5_5 (h : p := by (with_reducible repeat (first | apply Kd.R_alloc | apply Kd.R_drewN | apply Kd.R_drew)); exact HO_537000.out) : p := h
theorem q5_6 (h : p := by (with_reducible repeat (first | apply Kd.R_alloc | apply Kd.R_drewN | apply Kd.R_drew)); exact HO_543000.out) : p := h
theorem q5_7 (h : p := by (with_reducible repeat (first | apply Kd.R_alloc | apply Kd.R_drewN | apply Kd.R_drew)); exact HO_549000.out) : p := h
theorem q5_8 (h : p := by (with_reducible repeat (first | apply Kd.R_alloc | apply Kd.R_drewN | apply Kd.R_drew)); exact HO_556000.out) : p := h
theorem q5_9 (h : p := by (with_reducible repeat (first | refine blk_drewN ?_ _ | refine blk_drew ?_ | refine blk_alloc ?_ _)); exact BK516.out) : p := h
theorem q5_10 (h : p := by (with_reducible repeat (first | refine blk_drewN ?_ _ | refine blk_drew ?_ | refine blk_alloc ?_ _)); exact BK517.out) : p := h
theorem q5_11 (h : p := by (with_reducible repeat (first | refine blk_drewN ?_ _ | refine blk_drew ?_ | refine blk_alloc ?_ _)); exact BK536.out) : p := h
theorem q5_12 (h : p := by (with_reducible repeat (first | refine blk_drewN ?_ _ | refine blk_drew ?_ | refine blk_alloc ?_ _)); exact BK542.out) : p := h
theorem q5_13 (h : p := by (with_reducible repeat (first | refine blk_drewN ?_ _ | refine blk_drew ?_ | refine blk_alloc ?_ _)); exact BK548.out) : p := h
theorem q5_14 (h : p := by (with_reducible repeat (first | apply Kd.R_alloc | apply Kd.R_drewN | apply Kd.R_drew)); exact HO522.out) : p := h
theorem q5_15 (h : p := by (with_reducible repeat (first | refine blk_drewN ?_ _ | refine blk_drew ?_ | refine blk_alloc ?_ _)); exact BK555.out) : p := h
theorem q5_16 (h : p := by rw [hg]; exact Nat.ne_of_lt (blk_lt (g := gb516) (o := .cells #[.slice A0_0 l0_0.length c0_0, .int .i64 a0_1, .int .i64 a0_2] 37 (0, 0)) q5_9)) : p := h
theorem q5_17 (h : p := by rw [hg]; exact Nat.ne_of_gt (blk_lt (g := gb516) (o := .cells #[.slice A0_0 l0_0.length c0_0, .int .i64 a0_1, .int .i64 a0_2] 37 (0, 0)) q5_9)) : p := h
theorem q5_18 (h : p := by (with_reducible repeat (first | apply Kd.R_alloc | apply Kd.R_drewN | apply Kd.R_drew)); exact HO579.out) : p := h
theorem q5_19 (h : p := by repeat (first | exact (Kd.C_below HR0_0.out HB.out) | (with_reducible refine Kd.C_alloc ?_ _) | (with_reducible refine Kd.C_drewN ?_ _) | (with_reducible refine Kd.C_drew ?_))) : p := h
theorem q5_20 (h : p := by repeat (first | exact (Kd.C_below HR1_0.out HB.out) | (with_reducible refine Kd.C_alloc ?_ _) | (with_reducible refine Kd.C_drewN ?_ _) | (with_reducible refine Kd.C_drew ?_))) : p := h
theorem q5_21 (h : p := by rw [hg]; exact Nat.ne_of_lt (blk_lt (g := gb517) (o := .cells #[.slice A1_0 l1_0.length c1_0, .int .i64 a1_1, .int .i64 a1_2] 37 (0, 0)) q5_10)) : p := h
theorem q5_22 (h : p := by rw [hg]; exact Nat.ne_of_gt (blk_lt (g := gb517) (o := .cells #[.slice A1_0 l1_0.length c1_0, .int .i64 a1_1, .int .i64 a1_2] 37 (0, 0)) q5_10)) : p := h
theorem q5_23 (h : p := by repeat (first | (with_reducible first | exact HB.out | apply below_alloc | apply pw_below_drewN | apply below_drew1 | refine below_set ?_ GE516.out | refine below_set ?_ GE517.out | refine below_set ?_ GE536.out | refine below_set ?_ GE542.out) | exact HB.out)) : p := h
theorem q5_24 (h : p := by repeat (first | (with_reducible first | exact HB.out | apply below_alloc | apply pw_below_drewN | apply below_drew1 | refine below_set ?_ GE516.out) | exact HB.out)) : p := h
theorem q5_25 (h : p := by (with_reducible repeat (first | apply Kd.R_alloc | apply Kd.R_drewN | apply Kd.R_drew)); exact (Kd.R_mono (Kd.R_far (p := ⟨gb593, 2, none⟩) (Kd.R_far (p := ⟨gb593, 1, none⟩) (Kd.R_far (p := ⟨gb593, 0, none⟩) (Kd.R_types HO_537000.out BK593.out (by decide)) (fun _ hk => hk.2) (.slice Ao193 t587.length co193)) (fun _ hk => hk.2) (.int .i64 t590)) (fun _ hk => hk.2) (.int .i64 t591)) (fun _ h_ => h_.1))) : p := h
theorem q5_26 (h : p := by (with_reducible repeat (first | apply Kd.R_alloc | apply Kd.R_drewN | apply Kd.R_drew)); exact (Kd.R_mono (Kd.R_far (p := ⟨gb593, 2, none⟩) (Kd.R_far (p := ⟨gb593, 1, none⟩) (Kd.R_far (p := ⟨gb593, 0, none⟩) (Kd.R_types HO589.out BK593.out (by decide)) (fun _ hk => hk.2) (.slice Ao193 t587.length co193)) (fun _ hk => hk.2) (.int .i64 t590)) (fun _ hk => hk.2) (.int .i64 t591)) (fun _ h_ => h_.1))) : p := h
theorem q5_27 (h : p := by (with_reducible repeat (first | apply Kd.R_alloc | apply Kd.R_drewN | apply Kd.R_drew)); exact (Kd.R_mono (Kd.R_far (p := ⟨gb555, 2, none⟩) (Kd.R_far (p := ⟨gb555, 1, none⟩) (Kd.R_far (p := ⟨gb555, 0, none⟩) (Kd.R_types HO551.out BK555.out (by decide)) (fun _ hk => hk.2) (.slice Ao67 t549.length co67)) (fun _ hk => hk.2) (.int .i64 t552)) (fun _ hk => hk.2) (.int .i64 t553)) (fun _ h_ => h_.1))) : p := h
theorem q5_28 (h : p := by (with_reducible repeat (first | apply Kd.R_alloc | apply Kd.R_drewN | apply Kd.R_drew)); exact (Kd.R_mono (Kd.R_far (p := ⟨gb555, 2, none⟩) (Kd.R_far (p := ⟨gb555, 1, none⟩) (Kd.R_far (p := ⟨gb555, 0, none⟩) (Kd.R_types HO532.out BK555.out (by decide)) (fun _ hk => hk.2) (.slice Ao67 t549.length co67)) (fun _ hk => hk.2) (.int .i64 t552)) (fun _ hk => hk.2) (.int .i64 t553)) (fun _ h_ => h_.1))) : p := h
theorem q5_29 (h : p := by repeat (first | exact (Kd.R_reads' HO_556000.out).2.2 | (with_reducible refine Kd.C_alloc ?_ _) | (with_reducible refine Kd.C_drewN ?_ _) | (with_reducible refine Kd.C_drew ?_))) : p := h
theorem q5_30 (h : p := by (with_reducible repeat (first | apply Kd.R_alloc | apply Kd.R_drewN | apply Kd.R_drew)); exact HO527.out) : p := h
theorem q5_31 (h : p := by repeat (first | (with_reducible first | exact HB.out | apply below_alloc | apply pw_below_drewN | apply below_drew1 | refine below_set ?_ GE516.out | refine below_set ?_ GE517.out | refine below_set ?_ GE536.out | refine below_set ?_ GE542.out | refine below_set ?_ GE548.out) | exact HB.out)) : p := h
theorem q5_32 (h : p := by repeat (first | (with_reducible first | exact HB.out | apply below_alloc | apply pw_below_drewN | apply below_drew1) | exact HB.out)) : p := h
theorem q5_33 (h : p := by (with_reducible repeat (first | apply Kd.R_alloc | apply Kd.R_drewN | apply Kd.R_drew)); exact HO559.out) : p := h
theorem q5_34 (h : p := by first | rfl | (simp [errW_none, errW_some] <;> rfl) | (simp [*, errW_none, errW_some] <;> rfl)) : p := h
theorem q5_35 (h : p := by (with_reducible repeat (first | apply Kd.R_alloc | apply Kd.R_drewN | apply Kd.R_drew)); exact HO584.out) : p := h
theorem q5_36 (h : p := by rw [hg]; exact Nat.ne_of_lt (blk_lt (g := gb536) (o := .cells #[.slice Ao41 t530.length co41, .int .i64 t533, .int .i64 t534] 25 (0, 0)) q5_11)) : p := h
theorem q5_37 (h : p := by rw [hg]; exact Nat.ne_of_gt (blk_lt (g := gb536) (o := .cells #[.slice Ao41 t530.length co41, .int .i64 t533, .int .i64 t534] 25 (0, 0)) q5_11)) : p := h
theorem q5_38 (h : p := by (with_reducible repeat (first | apply Kd.R_alloc | apply Kd.R_drewN | apply Kd.R_drew)); exact (Kd.R_mono (Kd.R_far (p := ⟨gb548, 2, none⟩) (Kd.R_far (p := ⟨gb548, 1, none⟩) (Kd.R_far (p := ⟨gb548, 0, none⟩) (Kd.R_types HO539.out BK548.out (by decide)) (fun _ hk => hk.2) (.slice Ao58 t543.length co58)) (fun _ hk => hk.2) (.int .i64 t546)) (fun _ hk => hk.2) (.int .i64 t547)) (fun _ h_ => h_.1))) : p := h
theorem q5_39 (h : p := by (with_reducible repeat (first | apply Kd.R_alloc | apply Kd.R_drewN | apply Kd.R_drew)); exact (Kd.R_mono (Kd.R_far (p := ⟨gb548, 2, none⟩) (Kd.R_far (p := ⟨gb548, 1, none⟩) (Kd.R_far (p := ⟨gb548, 0, none⟩) (Kd.R_types HO545.out BK548.out (by decide)) (fun _ hk => hk.2) (.slice Ao58 t543.length co58)) (fun _ hk => hk.2) (.int .i64 t546)) (fun _ hk => hk.2) (.int .i64 t547)) (fun _ h_ => h_.1))) : p := h
theorem q5_40 (h : p := by (with_reducible repeat (first | refine blk_drewN ?_ _ | refine blk_drew ?_ | refine blk_alloc ?_ _)); refine blk_put (cs := #[.slice Ao193 t587.length co193, .int .i64 t590, .int .i64 0]) ?_ 2 _ rfl; (with_reducible repeat (first | refine blk_drewN ?_ _ | refine blk_drew ?_ | refine blk_alloc ?_ _)); refine blk_put (cs := #[.slice Ao193 t587.length co193, .int .i64 0, .int .i64 0]) ?_ 1 _ rfl; (with_reducible repeat (first | refine blk_drewN ?_ _ | refine blk_drew ?_ | refine blk_alloc ?_ _)); refine blk_put (cs := #[.slice none 0 0, .int .i64 0, .int .i64 0]) ?_ 0 _ rfl; (with_reducible repeat (first | refine blk_drewN ?_ _ | refine blk_drew ?_ | refine blk_alloc ?_ _)); exact BK593.out) : p := h
theorem q5_41 (h : p := by (with_reducible repeat (first | refine blk_drewN ?_ _ | refine blk_drew ?_ | refine blk_alloc ?_ _)); refine blk_put (cs := #[.slice Ao67 t549.length co67, .int .i64 t552, .int .i64 0]) ?_ 2 _ rfl; (with_reducible repeat (first | refine blk_drewN ?_ _ | refine blk_drew ?_ | refine blk_alloc ?_ _)); refine blk_put (cs := #[.slice Ao67 t549.length co67, .int .i64 0, .int .i64 0]) ?_ 1 _ rfl; (with_reducible repeat (first | refine blk_drewN ?_ _ | refine blk_drew ?_ | refine blk_alloc ?_ _)); refine blk_put (cs := #[.slice none 0 0, .int .i64 0, .int .i64 0]) ?_ 0 _ rfl; (with_reducible repeat (first | refine blk_drewN ?_ _ | refine blk_drew ?_ | refine blk_alloc ?_ _)); exact BK555.out) : p := h
theorem q5_42 (h : p := by (with_reducible repeat (first | apply Kd.R_alloc | apply Kd.R_drewN | apply Kd.R_drew)); exact Kd.R_mono HO_537000.out (fun _ hk => ⟨hk.1.1.2, ⟨hk.1.2, ⟨hk.2, ⟨hk.1.1.1.1, ⟨hk.1.1.1.2.1, hk.1.1.1.2.2⟩⟩⟩⟩⟩)) : p := h
theorem q5_43 (h : p := by (with_reducible repeat (first | apply Kd.R_alloc | apply Kd.R_drewN | apply Kd.R_drew)); exact Kd.R_mono HO_543000.out (fun _ hk => ⟨hk.1.1.2, ⟨hk.1.2, ⟨hk.2, ⟨hk.1.1.1.1, ⟨hk.1.1.1.2.1, hk.1.1.1.2.2⟩⟩⟩⟩⟩)) : p := h
theorem q5_44 (h : p := by (with_reducible repeat (first | apply Kd.R_alloc | apply Kd.R_drewN | apply Kd.R_drew)); exact Kd.R_mono HO_549000.out (fun _ hk => ⟨hk.1.1.2, ⟨hk.1.2, ⟨hk.2, ⟨hk.1.1.1.1, ⟨hk.1.1.1.2.1, hk.1.1.1.2.2⟩⟩⟩⟩⟩)) : p := h
theorem q5_45 (h : p := by (with_reducible repeat (first | apply Kd.R_alloc | apply Kd.R_drewN | apply Kd.R_drew)); exact Kd.R_mono HO_556000.out (fun _ hk => ⟨hk.1.1.2, ⟨hk.1.2, ⟨hk.2, ⟨hk.1.1.1.1, ⟨hk.1.1.1.2.1, hk.1.1.1.2.2⟩⟩⟩⟩⟩)) : p := h
theorem q5_46 (h : p := by (with_reducible repeat (first | apply Kd.R_alloc | apply Kd.R_drewN | apply Kd.R_drew)); exact Kd.R_mono HO579.out (fun _ hk => ⟨hk.1.2, ⟨hk.2, ⟨hk.1.1.1.1.1.2, ⟨hk.1.1.1.1.2, ⟨hk.1.1.1.2, hk.1.1.2⟩⟩⟩⟩⟩)) : p := h
theorem q5_47 (h : p := by (with_reducible repeat (first | apply Kd.R_alloc | apply Kd.R_drewN | apply Kd.R_drew)); exact Kd.R_mono HO584.out (fun _ hk => ⟨hk.1.2, ⟨hk.2, ⟨hk.1.1.1.1.1.2, ⟨hk.1.1.1.1.2, ⟨hk.1.1.1.2, hk.1.1.2⟩⟩⟩⟩⟩)) : p := h
theorem q5_48 (h : p := by (with_reducible repeat (first | apply Kd.R_alloc | apply Kd.R_drewN | apply Kd.R_drew)); exact Kd.R_mono HO589.out (fun _ hk => ⟨hk.1.2, ⟨hk.2, ⟨hk.1.1.1.1.1.2, ⟨hk.1.1.1.1.2, ⟨hk.1.1.1.2, hk.1.1.2⟩⟩⟩⟩⟩)) : p := h
theorem q5_49 (h : p := by simp only [putAll, Act.put, z5a, z5b, z5c]) : p := h
theorem q5_50 (h : p := by first | (go_simp; done) | (go_simp; rfl)) : p := h
theorem q5_51 (h : p := by (with_reducible repeat (first | refine blk_drewN ?_ _ | refine blk_drew ?_ | refine blk_alloc ?_ _)); refine blk_far ?_ NB516_555.out _; (with_reducible repeat (first | refine blk_drewN ?_ _ | refine blk_drew ?_ | refine blk_alloc ?_ _)); refine blk_far ?_ NB516_555.out _; (with_reducible repeat (first | refine blk_drewN ?_ _ | refine blk_drew ?_ | refine blk_alloc ?_ _)); refine blk_far ?_ NB516_555.out _; (with_reducible repeat (first | refine blk_drewN ?_ _ | refine blk_drew ?_ | refine blk_alloc ?_ _)); exact BK516.out) : p := h
theorem q5_52 (h : p := by (with_reducible repeat (first | refine blk_drewN ?_ _ | refine blk_drew ?_ | refine blk_alloc ?_ _)); refine blk_far ?_ NB517_555.out _; (with_reducible repeat (first | refine blk_drewN ?_ _ | refine blk_drew ?_ | refine blk_alloc ?_ _)); refine blk_far ?_ NB517_555.out _; (with_reducible repeat (first | refine blk_drewN ?_ _ | refine blk_drew ?_ | refine blk_alloc ?_ _)); refine blk_far ?_ NB517_555.out _; (with_reducible repeat (first | refine blk_drewN ?_ _ | refine blk_drew ?_ | refine blk_alloc ?_ _)); exact BK517.out) : p := h
theorem q5_53 (h : p := by (with_reducible repeat (first | refine blk_drewN ?_ _ | refine blk_drew ?_ | refine blk_alloc ?_ _)); refine blk_far ?_ NB536_555.out _; (with_reducible repeat (first | refine blk_drewN ?_ _ | refine blk_drew ?_ | refine blk_alloc ?_ _)); refine blk_far ?_ NB536_555.out _; (with_reducible repeat (first | refine blk_drewN ?_ _ | refine blk_drew ?_ | refine blk_alloc ?_ _)); refine blk_far ?_ NB536_555.out _; (with_reducible repeat (first | refine blk_drewN ?_ _ | refine blk_drew ?_ | refine blk_alloc ?_ _)); exact BK536.out) : p := h
theorem q5_54 (h : p := by (with_reducible repeat (first | refine blk_drewN ?_ _ | refine blk_drew ?_ | refine blk_alloc ?_ _)); refine blk_far ?_ NB542_555.out _; (with_reducible repeat (first | refine blk_drewN ?_ _ | refine blk_drew ?_ | refine blk_alloc ?_ _)); refine blk_far ?_ NB542_555.out _; (with_reducible repeat (first | refine blk_drewN ?_ _ | refine blk_drew ?_ | refine blk_alloc ?_ _)); refine blk_far ?_ NB542_555.out _; (with_reducible repeat (first | refine blk_drewN ?_ _ | refine blk_drew ?_ | refine blk_alloc ?_ _)); exact BK542.out) : p := h
theorem q5_55 (h : p := by (with_reducible repeat (first | refine blk_drewN ?_ _ | refine blk_drew ?_ | refine blk_alloc ?_ _)); refine blk_far ?_ NB548_555.out _; (with_reducible repeat (first | refine blk_drewN ?_ _ | refine blk_drew ?_ | refine blk_alloc ?_ _)); refine blk_far ?_ NB548_555.out _; (with_reducible repeat (first | refine blk_drewN ?_ _ | refine blk_drew ?_ | refine blk_alloc ?_ _)); refine blk_far ?_ NB548_555.out _; (with_reducible repeat (first | refine blk_drewN ?_ _ | refine blk_drew ?_ | refine blk_alloc ?_ _)); exact BK548.out) : p := h
theorem q5_56 (h : p := by (with_reducible repeat (first | refine blk_drewN ?_ _ | refine blk_drew ?_ | refine blk_alloc ?_ _)); refine blk_far ?_ NB516_593.out _; (with_reducible repeat (first | refine blk_drewN ?_ _ | refine blk_drew ?_ | refine blk_alloc ?_ _)); refine blk_far ?_ NB516_593.out _; (with_reducible repeat (first | refine blk_drewN ?_ _ | refine blk_drew ?_ | refine blk_alloc ?_ _)); refine blk_far ?_ NB516_593.out _; (with_reducible repeat (first | refine blk_drewN ?_ _ | refine blk_drew ?_ | refine blk_alloc ?_ _)); exact BK516.out) : p := h
theorem q5_57 (h : p := by (with_reducible repeat (first | refine blk_drewN ?_ _ | refine blk_drew ?_ | refine blk_alloc ?_ _)); refine blk_far ?_ NB517_593.out _; (with_reducible repeat (first | refine blk_drewN ?_ _ | refine blk_drew ?_ | refine blk_alloc ?_ _)); refine blk_far ?_ NB517_593.out _; (with_reducible repeat (first | refine blk_drewN ?_ _ | refine blk_drew ?_ | refine blk_alloc ?_ _)); refine blk_far ?_ NB517_593.out _; (with_reducible repeat (first | refine blk_drewN ?_ _ | refine blk_drew ?_ | refine blk_alloc ?_ _)); exact BK517.out) : p := h
theorem q5_58 (h : p := by (with_reducible repeat (first | refine blk_drewN ?_ _ | refine blk_drew ?_ | refine blk_alloc ?_ _)); refine blk_far ?_ NB536_593.out _; (with_reducible repeat (first | refine blk_drewN ?_ _ | refine blk_drew ?_ | refine blk_alloc ?_ _)); refine blk_far ?_ NB536_593.out _; (with_reducible repeat (first | refine blk_drewN ?_ _ | refine blk_drew ?_ | refine blk_alloc ?_ _)); refine blk_far ?_ NB536_593.out _; (with_reducible repeat (first | refine blk_drewN ?_ _ | refine blk_drew ?_ | refine blk_alloc ?_ _)); exact BK536.out) : p := h
theorem q5_59 (h : p := by (with_reducible repeat (first | refine blk_drewN ?_ _ | refine blk_drew ?_ | refine blk_alloc ?_ _)); refine blk_far ?_ NB542_593.out _; (with_reducible repeat (first | refine blk_drewN ?_ _ | refine blk_drew ?_ | refine blk_alloc ?_ _)); refine blk_far ?_ NB542_593.out _; (with_reducible repeat (first | refine blk_drewN ?_ _ | refine blk_drew ?_ | refine blk_alloc ?_ _)); refine blk_far ?_ NB542_593.out _; (with_reducible repeat (first | refine blk_drewN ?_ _ | refine blk_drew ?_ | refine blk_alloc ?_ _)); exact BK542.out) : p := h
theorem q5_60 (h : p := by (with_reducible repeat (first | refine blk_drewN ?_ _ | refine blk_drew ?_ | refine blk_alloc ?_ _)); refine blk_far ?_ NB548_593.out _; (with_reducible repeat (first | refine blk_drewN ?_ _ | refine blk_drew ?_ | refine blk_alloc ?_ _)); refine blk_far ?_ NB548_593.out _; (with_reducible repeat (first | refine blk_drewN ?_ _ | refine blk_drew ?_ | refine blk_alloc ?_ _)); refine blk_far ?_ NB548_593.out _; (with_reducible repeat (first | refine blk_drewN ?_ _ | refine blk_drew ?_ | refine blk_alloc ?_ _)); exact BK548.out) : p := h
theorem q5_61 (h : p := by (with_reducible repeat (first | refine blk_drewN ?_ _ | refine blk_drew ?_ | refine blk_alloc ?_ _)); refine blk_far ?_ NB555_593.out _; (with_reducible repeat (first | refine blk_drewN ?_ _ | refine blk_drew ?_ | refine blk_alloc ?_ _)); refine blk_far ?_ NB555_593.out _; (with_reducible repeat (first | refine blk_drewN ?_ _ | refine blk_drew ?_ | refine blk_alloc ?_ _)); refine blk_far ?_ NB555_593.out _; (with_reducible repeat (first | refine blk_drewN ?_ _ | refine blk_drew ?_ | refine blk_alloc ?_ _)); exact BK555.out) : p := h
theorem q5_62 (h : p := by repeat (first | exact (Kd.R_reads' HO522.out).2.2 | (with_reducible refine Kd.C_alloc ?_ _) | (with_reducible refine Kd.C_drewN ?_ _) | (with_reducible refine Kd.C_drew ?_))) : p := h
theorem q5_63 (h : p := by repeat (first | exact (Kd.R_reads' HO527.out).2.2 | (with_reducible refine Kd.C_alloc ?_ _) | (with_reducible refine Kd.C_drewN ?_ _) | (with_reducible refine Kd.C_drew ?_))) : p := h
theorem q5_64 (h : p := by repeat (first | exact (Kd.R_reads' HO579.out).2.2 | (with_reducible refine Kd.C_alloc ?_ _) | (with_reducible refine Kd.C_drewN ?_ _) | (with_reducible refine Kd.C_drew ?_))) : p := h
theorem q5_65 (h : p := by repeat (first | exact (Kd.R_reads' HO584.out).2.2 | (with_reducible refine Kd.C_alloc ?_ _) | (with_reducible refine Kd.C_drewN ?_ _) | (with_reducible refine Kd.C_drew ?_))) : p := h
theorem q5_66 (h : p := by refine (Kd.R_reads' (e := 54) (base := w.heap.size) (ok := fun k_ => (some k_ ≠ (v578 : Value).ownBlock ∧ (some k_ ≠ (v583 : Value).ownBlock ∧ (some k_ ≠ (.slice Ao193 t587.length co193 : Value).ownBlock ∧ (some k_ ≠ (.slice Ao49 t570.length co49 : Value).ownBlock ∧ (some k_ ≠ (.slice Ao58 t572.length co58 : Value).ownBlock ∧ some k_ ≠ (.slice Ao67 t549.length co67 : Value).ownBlock)))))) (n := t530.length) (c := co41) ?_).2.2; exact q5_25) : p := h
theorem q5_67 (h : p := by refine (Kd.R_reads' (e := 54) (base := w.heap.size) (ok := fun k_ => (some k_ ≠ (v578 : Value).ownBlock ∧ (some k_ ≠ (v583 : Value).ownBlock ∧ (some k_ ≠ (.slice Ao41 t530.length co41 : Value).ownBlock ∧ (some k_ ≠ (.slice Ao49 t570.length co49 : Value).ownBlock ∧ (some k_ ≠ (.slice Ao58 t572.length co58 : Value).ownBlock ∧ some k_ ≠ (.slice Ao67 t549.length co67 : Value).ownBlock)))))) (n := t587.length) (c := co193) ?_).2.2; exact q5_26) : p := h
theorem q5_68 (h : p := by (try simp only [List.map_toArray, List.map_cons, List.map_nil]); first | done | (rw [show t575.length = t549.length from (Kd.R_reads' HO_556000.out).1.symm] <;> rfl) | rfl | (simp only [List.length_drop, List.length_take]; rfl)) : p := h
theorem q5_69 (h : p := by (with_reducible repeat (first | apply Kd.R_alloc | apply Kd.R_drewN | apply Kd.R_drew)); exact Kd.R_mono HO522.out (fun _ hk => ⟨hk.1.2, hk.2⟩)) : p := h
theorem q5_70 (h : p := by (with_reducible repeat (first | apply Kd.R_alloc | apply Kd.R_drewN | apply Kd.R_drew)); exact Kd.R_mono HO527.out (fun _ hk => ⟨hk.1.2, hk.2⟩)) : p := h
theorem q5_71 (h : p := by (with_reducible repeat (first | apply Kd.R_alloc | apply Kd.R_drewN | apply Kd.R_drew)); exact Kd.R_mono HO532.out (fun _ hk => ⟨hk.1.2, hk.2⟩)) : p := h
theorem q5_72 (h : p := by rw [hg]; exact Nat.ne_of_lt (blk_lt (g := gb542) (o := .cells #[.slice Ao49 t570.length co49, .int .i64 t540, .int .i64 t541] 25 (0, 0)) q5_12)) : p := h
theorem q5_73 (h : p := by rw [hg]; exact Nat.ne_of_gt (blk_lt (g := gb542) (o := .cells #[.slice Ao49 t570.length co49, .int .i64 t540, .int .i64 t541] 25 (0, 0)) q5_12)) : p := h
theorem q5_74 (h : p := by rw [hg]; exact Nat.ne_of_lt (blk_lt (g := gb548) (o := .cells #[.slice Ao58 t572.length co58, .int .i64 t546, .int .i64 t547] 25 (0, 0)) q5_13)) : p := h
theorem q5_75 (h : p := by rw [hg]; exact Nat.ne_of_gt (blk_lt (g := gb548) (o := .cells #[.slice Ao58 t572.length co58, .int .i64 t546, .int .i64 t547] 25 (0, 0)) q5_13)) : p := h
theorem q5_76 (h : p := by rw [hg]; exact Nat.ne_of_lt (blk_lt (g := gb555) (o := .cells #[.slice Ao67 t549.length co67, .int .i64 t552, .int .i64 t553] 25 (0, 0)) q5_15)) : p := h
theorem q5_77 (h : p := by rw [hg]; exact Nat.ne_of_gt (blk_lt (g := gb555) (o := .cells #[.slice Ao67 t549.length co67, .int .i64 t552, .int .i64 t553] 25 (0, 0)) q5_15)) : p := h
theorem q5_78 (h : p := by (with_reducible repeat (first | apply Kd.R_alloc | apply Kd.R_drewN | apply Kd.R_drew)); exact (Kd.R_mono (Kd.R_far (p := ⟨gb593, 2, none⟩) (Kd.R_far (p := ⟨gb593, 1, none⟩) (Kd.R_far (p := ⟨gb593, 0, none⟩) (Kd.R_types HO_543000.out BK593.out (by decide)) (fun _ hk => hk.2) (.slice Ao193 t587.length co193)) (fun _ hk => hk.2) (.int .i64 t590)) (fun _ hk => hk.2) (.int .i64 t591)) (fun _ h_ => h_.1))) : p := h
theorem q5_79 (h : p := by (with_reducible repeat (first | apply Kd.R_alloc | apply Kd.R_drewN | apply Kd.R_drew)); exact (Kd.R_mono (Kd.R_far (p := ⟨gb593, 2, none⟩) (Kd.R_far (p := ⟨gb593, 1, none⟩) (Kd.R_far (p := ⟨gb593, 0, none⟩) (Kd.R_types HO_549000.out BK593.out (by decide)) (fun _ hk => hk.2) (.slice Ao193 t587.length co193)) (fun _ hk => hk.2) (.int .i64 t590)) (fun _ hk => hk.2) (.int .i64 t591)) (fun _ h_ => h_.1))) : p := h
theorem q5_80 (h : p := by (with_reducible repeat (first | apply Kd.R_alloc | apply Kd.R_drewN | apply Kd.R_drew)); exact (Kd.R_mono (Kd.R_far (p := ⟨gb593, 2, none⟩) (Kd.R_far (p := ⟨gb593, 1, none⟩) (Kd.R_far (p := ⟨gb593, 0, none⟩) (Kd.R_types HO_556000.out BK593.out (by decide)) (fun _ hk => hk.2) (.slice Ao193 t587.length co193)) (fun _ hk => hk.2) (.int .i64 t590)) (fun _ hk => hk.2) (.int .i64 t591)) (fun _ h_ => h_.1))) : p := h
theorem q5_81 (h : p := by (with_reducible repeat (first | apply Kd.R_alloc | apply Kd.R_drewN | apply Kd.R_drew)); exact (Kd.R_mono (Kd.R_far (p := ⟨gb593, 2, none⟩) (Kd.R_far (p := ⟨gb593, 1, none⟩) (Kd.R_far (p := ⟨gb593, 0, none⟩) (Kd.R_types HO579.out BK593.out (by decide)) (fun _ hk => hk.2) (.slice Ao193 t587.length co193)) (fun _ hk => hk.2) (.int .i64 t590)) (fun _ hk => hk.2) (.int .i64 t591)) (fun _ h_ => h_.1))) : p := h
theorem q5_82 (h : p := by (with_reducible repeat (first | apply Kd.R_alloc | apply Kd.R_drewN | apply Kd.R_drew)); exact (Kd.R_mono (Kd.R_far (p := ⟨gb593, 2, none⟩) (Kd.R_far (p := ⟨gb593, 1, none⟩) (Kd.R_far (p := ⟨gb593, 0, none⟩) (Kd.R_types HO584.out BK593.out (by decide)) (fun _ hk => hk.2) (.slice Ao193 t587.length co193)) (fun _ hk => hk.2) (.int .i64 t590)) (fun _ hk => hk.2) (.int .i64 t591)) (fun _ h_ => h_.1))) : p := h
theorem q5_83 (h : p := by (with_reducible repeat (first | apply Kd.R_alloc | apply Kd.R_drewN | apply Kd.R_drew)); exact (Kd.R_mono (Kd.R_far (p := ⟨gb536, 2, none⟩) (Kd.R_far (p := ⟨gb536, 1, none⟩) (Kd.R_far (p := ⟨gb536, 0, none⟩) (Kd.R_types HO522.out BK536.out (by decide)) (fun _ hk => hk.2) (.slice Ao41 t530.length co41)) (fun _ hk => hk.2) (.int .i64 t533)) (fun _ hk => hk.2) (.int .i64 t534)) (fun _ h_ => h_.1))) : p := h
theorem q5_84 (h : p := by (with_reducible repeat (first | apply Kd.R_alloc | apply Kd.R_drewN | apply Kd.R_drew)); exact (Kd.R_mono (Kd.R_far (p := ⟨gb536, 2, none⟩) (Kd.R_far (p := ⟨gb536, 1, none⟩) (Kd.R_far (p := ⟨gb536, 0, none⟩) (Kd.R_types HO527.out BK536.out (by decide)) (fun _ hk => hk.2) (.slice Ao41 t530.length co41)) (fun _ hk => hk.2) (.int .i64 t533)) (fun _ hk => hk.2) (.int .i64 t534)) (fun _ h_ => h_.1))) : p := h
theorem q5_85 (h : p := by (with_reducible repeat (first | apply Kd.R_alloc | apply Kd.R_drewN | apply Kd.R_drew)); exact (Kd.R_mono (Kd.R_far (p := ⟨gb536, 2, none⟩) (Kd.R_far (p := ⟨gb536, 1, none⟩) (Kd.R_far (p := ⟨gb536, 0, none⟩) (Kd.R_types HO532.out BK536.out (by decide)) (fun _ hk => hk.2) (.slice Ao41 t530.length co41)) (fun _ hk => hk.2) (.int .i64 t533)) (fun _ hk => hk.2) (.int .i64 t534)) (fun _ h_ => h_.1))) : p := h
theorem q5_86 (h : p := by (with_reducible repeat (first | apply Kd.R_alloc | apply Kd.R_drewN | apply Kd.R_drew)); exact (Kd.R_mono (Kd.R_far (p := ⟨gb542, 2, none⟩) (Kd.R_far (p := ⟨gb542, 1, none⟩) (Kd.R_far (p := ⟨gb542, 0, none⟩) (Kd.R_types HO522.out BK542.out (by decide)) (fun _ hk => hk.2) (.slice Ao49 t537.length co49)) (fun _ hk => hk.2) (.int .i64 t540)) (fun _ hk => hk.2) (.int .i64 t541)) (fun _ h_ => h_.1))) : p := h
theorem q5_87 (h : p := by (with_reducible repeat (first | apply Kd.R_alloc | apply Kd.R_drewN | apply Kd.R_drew)); exact (Kd.R_mono (Kd.R_far (p := ⟨gb542, 2, none⟩) (Kd.R_far (p := ⟨gb542, 1, none⟩) (Kd.R_far (p := ⟨gb542, 0, none⟩) (Kd.R_types HO527.out BK542.out (by decide)) (fun _ hk => hk.2) (.slice Ao49 t537.length co49)) (fun _ hk => hk.2) (.int .i64 t540)) (fun _ hk => hk.2) (.int .i64 t541)) (fun _ h_ => h_.1))) : p := h
theorem q5_88 (h : p := by (with_reducible repeat (first | apply Kd.R_alloc | apply Kd.R_drewN | apply Kd.R_drew)); exact (Kd.R_mono (Kd.R_far (p := ⟨gb542, 2, none⟩) (Kd.R_far (p := ⟨gb542, 1, none⟩) (Kd.R_far (p := ⟨gb542, 0, none⟩) (Kd.R_types HO532.out BK542.out (by decide)) (fun _ hk => hk.2) (.slice Ao49 t537.length co49)) (fun _ hk => hk.2) (.int .i64 t540)) (fun _ hk => hk.2) (.int .i64 t541)) (fun _ h_ => h_.1))) : p := h
theorem q5_89 (h : p := by (with_reducible repeat (first | apply Kd.R_alloc | apply Kd.R_drewN | apply Kd.R_drew)); exact (Kd.R_mono (Kd.R_far (p := ⟨gb542, 2, none⟩) (Kd.R_far (p := ⟨gb542, 1, none⟩) (Kd.R_far (p := ⟨gb542, 0, none⟩) (Kd.R_types HO539.out BK542.out (by decide)) (fun _ hk => hk.2) (.slice Ao49 t537.length co49)) (fun _ hk => hk.2) (.int .i64 t540)) (fun _ hk => hk.2) (.int .i64 t541)) (fun _ h_ => h_.1))) : p := h
theorem q5_90 (h : p := by (with_reducible repeat (first | apply Kd.R_alloc | apply Kd.R_drewN | apply Kd.R_drew)); exact (Kd.R_mono (Kd.R_far (p := ⟨gb548, 2, none⟩) (Kd.R_far (p := ⟨gb548, 1, none⟩) (Kd.R_far (p := ⟨gb548, 0, none⟩) (Kd.R_types HO522.out BK548.out (by decide)) (fun _ hk => hk.2) (.slice Ao58 t543.length co58)) (fun _ hk => hk.2) (.int .i64 t546)) (fun _ hk => hk.2) (.int .i64 t547)) (fun _ h_ => h_.1))) : p := h
theorem q5_91 (h : p := by (with_reducible repeat (first | apply Kd.R_alloc | apply Kd.R_drewN | apply Kd.R_drew)); exact (Kd.R_mono (Kd.R_far (p := ⟨gb548, 2, none⟩) (Kd.R_far (p := ⟨gb548, 1, none⟩) (Kd.R_far (p := ⟨gb548, 0, none⟩) (Kd.R_types HO527.out BK548.out (by decide)) (fun _ hk => hk.2) (.slice Ao58 t543.length co58)) (fun _ hk => hk.2) (.int .i64 t546)) (fun _ hk => hk.2) (.int .i64 t547)) (fun _ h_ => h_.1))) : p := h
theorem q5_92 (h : p := by (with_reducible repeat (first | apply Kd.R_alloc | apply Kd.R_drewN | apply Kd.R_drew)); exact (Kd.R_mono (Kd.R_far (p := ⟨gb548, 2, none⟩) (Kd.R_far (p := ⟨gb548, 1, none⟩) (Kd.R_far (p := ⟨gb548, 0, none⟩) (Kd.R_types HO532.out BK548.out (by decide)) (fun _ hk => hk.2) (.slice Ao58 t543.length co58)) (fun _ hk => hk.2) (.int .i64 t546)) (fun _ hk => hk.2) (.int .i64 t547)) (fun _ h_ => h_.1))) : p := h
theorem q5_93 (h : p := by (with_reducible repeat (first | apply Kd.R_alloc | apply Kd.R_drewN | apply Kd.R_drew)); exact (Kd.R_mono (Kd.R_far (p := ⟨gb555, 2, none⟩) (Kd.R_far (p := ⟨gb555, 1, none⟩) (Kd.R_far (p := ⟨gb555, 0, none⟩) (Kd.R_types HO522.out BK555.out (by decide)) (fun _ hk => hk.2) (.slice Ao67 t549.length co67)) (fun _ hk => hk.2) (.int .i64 t552)) (fun _ hk => hk.2) (.int .i64 t553)) (fun _ h_ => h_.1))) : p := h
theorem q5_94 (h : p := by (with_reducible repeat (first | apply Kd.R_alloc | apply Kd.R_drewN | apply Kd.R_drew)); exact (Kd.R_mono (Kd.R_far (p := ⟨gb555, 2, none⟩) (Kd.R_far (p := ⟨gb555, 1, none⟩) (Kd.R_far (p := ⟨gb555, 0, none⟩) (Kd.R_types HO527.out BK555.out (by decide)) (fun _ hk => hk.2) (.slice Ao67 t549.length co67)) (fun _ hk => hk.2) (.int .i64 t552)) (fun _ hk => hk.2) (.int .i64 t553)) (fun _ h_ => h_.1))) : p := h
theorem q5_95 (h : p := by (with_reducible repeat (first | apply Kd.R_alloc | apply Kd.R_drewN | apply Kd.R_drew)); exact (Kd.R_mono (Kd.R_far (p := ⟨gb555, 2, none⟩) (Kd.R_far (p := ⟨gb555, 1, none⟩) (Kd.R_far (p := ⟨gb555, 0, none⟩) (Kd.R_types HO539.out BK555.out (by decide)) (fun _ hk => hk.2) (.slice Ao67 t549.length co67)) (fun _ hk => hk.2) (.int .i64 t552)) (fun _ hk => hk.2) (.int .i64 t553)) (fun _ h_ => h_.1))) : p := h
theorem q5_96 (h : p := by (with_reducible repeat (first | apply Kd.R_alloc | apply Kd.R_drewN | apply Kd.R_drew)); exact (Kd.R_mono (Kd.R_far (p := ⟨gb555, 2, none⟩) (Kd.R_far (p := ⟨gb555, 1, none⟩) (Kd.R_far (p := ⟨gb555, 0, none⟩) (Kd.R_types HO545.out BK555.out (by decide)) (fun _ hk => hk.2) (.slice Ao67 t549.length co67)) (fun _ hk => hk.2) (.int .i64 t552)) (fun _ hk => hk.2) (.int .i64 t553)) (fun _ h_ => h_.1))) : p := h
theorem q5_97 (h : p := by refine (Kd.R_reads' (e := 54) (base := w.heap.size) (ok := fun k_ => (((((True ∧ some k_ ≠ (v521 : Value).ownBlock) ∧ some k_ ≠ (v526 : Value).ownBlock) ∧ some k_ ≠ (.slice Ao41 t530.length co41 : Value).ownBlock) ∧ some k_ ≠ (.slice Ao49 t537.length co49 : Value).ownBlock) ∧ some k_ ≠ (.slice Ao58 t543.length co58 : Value).ownBlock)) (n := t549.length) (c := co67) ?_).2.2; exact q5_27) : p := h
theorem q5_98 (h : p := by refine (Kd.R_reads' (e := 54) (base := w.heap.size) (ok := fun k_ => ((((some k_ ≠ (v521 : Value).ownBlock ∧ some k_ ≠ (v526 : Value).ownBlock) ∧ some k_ ≠ (.slice Ao49 t537.length co49 : Value).ownBlock) ∧ some k_ ≠ (.slice Ao58 t543.length co58 : Value).ownBlock) ∧ some k_ ≠ (.slice Ao67 t549.length co67 : Value).ownBlock)) (n := t530.length) (c := co41) ?_).2.2; exact q5_28) : p := h
theorem q5_99 (h : p := by repeat (first | exact (Kd.R_reads' HO_543000.out).2.2 | (with_reducible refine Kd.C_alloc ?_ _) | (with_reducible refine Kd.C_drewN ?_ _) | (with_reducible refine Kd.C_drew ?_))) : p := h
theorem q5_100 (h : p := by repeat (first | exact (Kd.R_reads' HO559.out).2.2 | (with_reducible refine Kd.C_alloc ?_ _) | (with_reducible refine Kd.C_drewN ?_ _) | (with_reducible refine Kd.C_drew ?_))) : p := h
theorem q5_101 (h : p := by (with_reducible repeat (first | refine blk_drewN ?_ _ | refine blk_drew ?_ | refine blk_alloc ?_ _)); exact BK593.out) : p := h
theorem q5_102 (h : p := by (with_reducible repeat (first | apply Kd.R_alloc | apply Kd.R_drewN | apply Kd.R_drew)); exact HO532.out) : p := h
theorem q5_103 (h : p := by (with_reducible repeat (first | apply Kd.R_alloc | apply Kd.R_drewN | apply Kd.R_drew)); exact HO565.out) : p := h
theorem q5_104 (h : p := by first | rfl | (simp; done) | (simp [*]; done)) : p := h
theorem q5_105 (h : p := by rw [show t575.length = t549.length from (Kd.R_reads' HO_556000.out).1.symm]; exact (Kd.R_reads' HO_556000.out).2.1) : p := h
theorem q5_106 (h : p := by (with_reducible repeat (first | apply Kd.R_alloc | apply Kd.R_drewN | apply Kd.R_drew)); exact HO_594000.out) : p := h
theorem q5_107 (h : p := by (with_reducible repeat (first | apply Kd.R_alloc | apply Kd.R_drewN | apply Kd.R_drew)); exact HO539.out) : p := h
theorem q5_108 (h : p := by rw [hg]; exact (below_size q5_4)) : p := h
theorem q5_109 (h : p := by rw [hg]; exact (below_size q5_0)) : p := h
theorem q5_110 (h : p := by repeat (first | exact (Kd.R_reads' HO_549000.out).2.2 | (with_reducible refine Kd.C_alloc ?_ _) | (with_reducible refine Kd.C_drewN ?_ _) | (with_reducible refine Kd.C_drew ?_))) : p := h
theorem q5_111 (h : p := by repeat (first | exact (Kd.R_reads' HO_537000.out).2.2 | (with_reducible refine Kd.C_alloc ?_ _) | (with_reducible refine Kd.C_drewN ?_ _) | (with_reducible refine Kd.C_drew ?_))) : p := h
theorem q5_112 (h : p := by repeat (first | exact (Kd.R_reads' HO565.out).2.2 | (with_reducible refine Kd.C_alloc ?_ _) | (with_reducible refine Kd.C_drewN ?_ _) | (with_reducible refine Kd.C_drew ?_))) : p := h
theorem q5_113 (h : p := by rw [hg]; exact Nat.ne_of_lt (blk_lt (g := gb542) (o := .cells #[.slice Ao49 t537.length co49, .int .i64 t540, .int .i64 t541] 25 (0, 0)) q5_12)) : p := h
theorem q5_114 (h : p := by rw [hg]; exact Nat.ne_of_gt (blk_lt (g := gb542) (o := .cells #[.slice Ao49 t537.length co49, .int .i64 t540, .int .i64 t541] 25 (0, 0)) q5_12)) : p := h
theorem q5_115 (h : p := by rw [hg]; exact (below_size q5_32)) : p := h
theorem q5_116 (h : p := by rw [hg]; exact (below_size q5_24)) : p := h
theorem q5_117 (h : p := by (with_reducible repeat (first | apply Kd.R_alloc | apply Kd.R_drewN | apply Kd.R_drew)); exact HO545.out) : p := h
set_option maxHeartbeats 8000000 in
set_option maxRecDepth 100000 in
theorem laws_FnExactTopJoin.calls (k : Nat) (A0_0 : Option Addr) (c0_0 : Nat) (l0_0 : List (S70)) (a0_1 : Int) (a0_2 : Int) (A1_0 : Option Addr) (c1_0 : Nat) (l1_0 : List (S70)) (a1_1 : Int) (a1_2 : Int) (r : Bool) (w : World) (hr0_0 : Kd.C k70 w A0_0 l0_0.length l0_0) (hc0_0 : l0_0.length ≤ c0_0) (hr1_0 : Kd.C k70 w A1_0 l1_0.length l1_0) (hc1_0 : l1_0.length ≤ c1_0) (h : laws_FnExactTopJoin.f k l0_0 a0_1 a0_2 l1_0 a1_1 a1_2 = some r) :
    Calls Try.prog 5 #[.agg #[.slice A0_0 l0_0.length c0_0, .int .i64 a0_1, .int .i64 a0_2], .agg #[.slice A1_0 l1_0.length c1_0, .int .i64 a1_1, .int .i64 a1_2]] w fun e w' => e = .returned (.bool r) ∧ Below w.heap.size w w' := by
 have hu37 := Try.underlying37;have hu25 := Try.underlying25;have HR0_0 := Aside0.mk hr0_0;have HC0_0 := Aside0.mk hc0_0;clear hr0_0 hc0_0;have HR1_0 := Aside0.mk hr1_0;have HC1_0 := Aside0.mk hc1_0;clear hr1_0 hc1_0;have HB := z5k (Below.refl w.heap.size w)
 have H : ((laws_szTop.f l0_0 a0_1 a0_2 1048576).bind fun t518 => (if t518 < 0 then (some true) else ((laws_szTop.f l1_0 a1_1 a1_2 t518).bind fun t519 => (if t519 < 0 then (some true) else ((laws_toTop.f k l0_0 a0_1 a0_2).bind fun bt520 => ((laws_toTop.f k l1_0 a1_1 a1_2).bind fun bt525 => ((spec_TopJoin.f k bt520.1 bt520.2.1 bt520.2.2 bt525.1 bt525.2.1 bt525.2.2).bind fun bt530 => ((laws_toTop.f k l0_0 a0_1 a0_2).bind fun bt537 => ((laws_toTop.f k l1_0 a1_1 a1_2).bind fun bt543 => ((impl_TopJoin.f k bt537.1 bt537.2.1 bt537.2.2 bt543.1 bt543.2.1 bt543.2.2).bind fun bt549 => ((laws_eqTop.f k bt549.1 bt549.2.1 bt549.2.2.1 bt530.1 bt530.2.1 bt530.2.2.1).bind fun t556 => (if t556 = true then (laws_FnExactTopJoin.j0 k bt530.2.2.2 bt549.2.2.2 (bt549.2.2.2 != bt530.2.2.2) l0_0 a0_1 a0_2 l1_0 a1_1 a1_2 bt530.1 bt530.2.1 bt530.2.2.1 bt537.1 bt537.2.1 bt537.2.2 bt543.1 bt543.2.1 bt543.2.2 bt549.1 bt549.2.1 bt549.2.2.1) else (laws_FnExactTopJoin.j0 k bt530.2.2.2 bt549.2.2.2 true l0_0 a0_1 a0_2 l1_0 a1_1 a1_2 bt530.1 bt530.2.1 bt530.2.2.1 bt537.1 bt537.2.1 bt537.2.2 bt543.1 bt543.2.1 bt543.2.2 bt549.1 bt549.2.1 bt549.2.2.1))))))))))))) = some r := h
 clear h
 replace H := Option.bind_eq_some_iff.mp H
 obtain ⟨t518, A30, H⟩ := H
 replace H : (if t518 < 0 then (some true) else ((laws_szTop.f l1_0 a1_1 a1_2 t518).bind fun t519 => (if t519 < 0 then (some true) else ((laws_toTop.f k l0_0 a0_1 a0_2).bind fun bt520 => ((laws_toTop.f k l1_0 a1_1 a1_2).bind fun bt525 => ((spec_TopJoin.f k bt520.1 bt520.2.1 bt520.2.2 bt525.1 bt525.2.1 bt525.2.2).bind fun bt530 => ((laws_toTop.f k l0_0 a0_1 a0_2).bind fun bt537 => ((laws_toTop.f k l1_0 a1_1 a1_2).bind fun bt543 => ((impl_TopJoin.f k bt537.1 bt537.2.1 bt537.2.2 bt543.1 bt543.2.1 bt543.2.2).bind fun bt549 => ((laws_eqTop.f k bt549.1 bt549.2.1 bt549.2.2.1 bt530.1 bt530.2.1 bt530.2.2.1).bind fun t556 => (if t556 = true then (laws_FnExactTopJoin.j0 k bt530.2.2.2 bt549.2.2.2 (bt549.2.2.2 != bt530.2.2.2) l0_0 a0_1 a0_2 l1_0 a1_1 a1_2 bt530.1 bt530.2.1 bt530.2.2.1 bt537.1 bt537.2.1 bt537.2.2 bt543.1 bt543.2.1 bt543.2.2 bt549.1 bt549.2.1 bt549.2.2.1) else (laws_FnExactTopJoin.j0 k bt530.2.2.2 bt549.2.2.2 true l0_0 a0_1 a0_2 l1_0 a1_1 a1_2 bt530.1 bt530.2.1 bt530.2.2.1 bt537.1 bt537.2.1 bt537.2.2 bt543.1 bt543.2.1 bt543.2.2 bt549.1 bt549.2.1 bt549.2.2.1)))))))))))) = some r := H
 have A3 := Aside0.mk A30;clear A30
 by_cases c4 : t518 < 0
 ·rw [if_pos c4] at H
  have c4b0 : decide (t518 < 0) = true := decide_eq_true c4
  clear c4
  obtain rfl := Option.some.inj H
  go_enter Try.func5, Try.ntmps5
  go_wp2_with (first | ((with_reducible refine gate_dst (N := 2) rfl ?_); refine box_event ?hg (N := 2) ?hd (cs := #[.slice A0_0 l0_0.length c0_0, .int .i64 a0_1, .int .i64 a0_2]) (t := 37) ?hr ?_; (case hd => rfl); (case hg => rfl); (case hr => exact q5_50); intro gb516 hg w5 hbox hb; have n1_ := z5k (hbox); have n2_ := z5k ((q5_115 : w.heap.size ≤ gb516)); have n3_ := z5k ((q5_115 : w.heap.size ≤ gb516)); replace HB := z5k (below_step q5_32 hb); have BK516 := n1_; have GW516 := n2_; have GE516 := n3_; clear n1_ n2_ n3_; clear hb hbox hg) | ((with_reducible refine gate_dst (N := 3) rfl ?_); refine box_event ?hg (N := 3) ?hd (cs := #[.slice A1_0 l1_0.length c1_0, .int .i64 a1_1, .int .i64 a1_2]) (t := 37) ?hr ?_; (case hd => rfl); (case hg => rfl); (case hr => exact q5_50); intro gb517 hg w6 hbox hb; have n2_ := z5k (hbox); have n3_ := z5k ((q5_116 : w.heap.size ≤ gb517)); have n4_ := z5k ((q5_116 : w.heap.size ≤ gb517)); have n5_ := z5k ((q5_16 : gb516 ≠ gb517)); have n6_ := z5k ((q5_17 : gb517 ≠ gb516)); replace BK516 := z5bb BK516 hb; replace HB := z5k (below_step q5_24 hb); have BK517 := n2_; have GW517 := n3_; have GE517 := n4_; have NB516_517 := n5_; have NB517_516 := n6_; clear n2_ n3_ n4_ n5_ n6_; clear hb hbox hg; have hnb7 := NB516_517.out; have hnc7 := NB517_516.out; have hcz8_0 := z5bc BK516 0; have hcz8_1 := z5bc BK516 1; have hcz8_2 := z5bc BK516 2; have hfz8_0 := blk_frozen BK516.out 0; have hfz8_1 := blk_frozen BK516.out 1; have hfz8_2 := blk_frozen BK516.out 2) | ((with_reducible refine gate_callee (f := 13) rfl ?_); refine goesL_ (some 19) rfl rfl Try.func13 (by kernel_rfl) rfl #[.agg #[.slice A0_0 l0_0.length c0_0, .int .i64 a0_1, .int .i64 a0_2], .int .i64 1048576] rfl q5_2 ?_; (with_reducible refine (laws_szTop.calls _ _ l0_0 a0_1 a0_2 1048576 t518 _ ?side1 ?side2 A3.out).mono ?_); (case side1 => exact q5_19); (case side2 => exact HC0_0.out); rintro e w9 ⟨rfl, hb⟩; refine ⟨_, rfl, ?_⟩; replace BK516 := z5bb BK516 hb; replace BK517 := z5bb BK517 hb; replace HB := z5k (below_step q5_4 hb); (try clear hb); (try clear hb2); (try clear hk); (try clear hi)))
  go_ret
  exact ⟨q5_34, q5_4⟩
 ·rw [if_neg c4] at H
  have c4b0 : decide (t518 < 0) = false := decide_eq_false c4
  clear c4
  replace H := Option.bind_eq_some_iff.mp H
  obtain ⟨t519, A100, H⟩ := H
  replace H : (if t519 < 0 then (some true) else ((laws_toTop.f k l0_0 a0_1 a0_2).bind fun bt520 => ((laws_toTop.f k l1_0 a1_1 a1_2).bind fun bt525 => ((spec_TopJoin.f k bt520.1 bt520.2.1 bt520.2.2 bt525.1 bt525.2.1 bt525.2.2).bind fun bt530 => ((laws_toTop.f k l0_0 a0_1 a0_2).bind fun bt537 => ((laws_toTop.f k l1_0 a1_1 a1_2).bind fun bt543 => ((impl_TopJoin.f k bt537.1 bt537.2.1 bt537.2.2 bt543.1 bt543.2.1 bt543.2.2).bind fun bt549 => ((laws_eqTop.f k bt549.1 bt549.2.1 bt549.2.2.1 bt530.1 bt530.2.1 bt530.2.2.1).bind fun t556 => (if t556 = true then (laws_FnExactTopJoin.j0 k bt530.2.2.2 bt549.2.2.2 (bt549.2.2.2 != bt530.2.2.2) l0_0 a0_1 a0_2 l1_0 a1_1 a1_2 bt530.1 bt530.2.1 bt530.2.2.1 bt537.1 bt537.2.1 bt537.2.2 bt543.1 bt543.2.1 bt543.2.2 bt549.1 bt549.2.1 bt549.2.2.1) else (laws_FnExactTopJoin.j0 k bt530.2.2.2 bt549.2.2.2 true l0_0 a0_1 a0_2 l1_0 a1_1 a1_2 bt530.1 bt530.2.1 bt530.2.2.1 bt537.1 bt537.2.1 bt537.2.2 bt543.1 bt543.2.1 bt543.2.2 bt549.1 bt549.2.1 bt549.2.2.1)))))))))) = some r := H
  have A10 := Aside0.mk A100;clear A100
  by_cases c11 : t519 < 0
  ·rw [if_pos c11] at H
   have c11b0 : decide (t519 < 0) = true := decide_eq_true c11
   clear c11
   obtain rfl := Option.some.inj H
   go_enter Try.func5, Try.ntmps5
   go_wp2_with (first | ((with_reducible refine gate_dst (N := 2) rfl ?_); refine box_event ?hg (N := 2) ?hd (cs := #[.slice A0_0 l0_0.length c0_0, .int .i64 a0_1, .int .i64 a0_2]) (t := 37) ?hr ?_; (case hd => rfl); (case hg => rfl); (case hr => exact q5_50); intro gb516 hg w12 hbox hb; have n1_ := z5k (hbox); have n2_ := z5k ((q5_115 : w.heap.size ≤ gb516)); have n3_ := z5k ((q5_115 : w.heap.size ≤ gb516)); replace HB := z5k (below_step q5_32 hb); have BK516 := n1_; have GW516 := n2_; have GE516 := n3_; clear n1_ n2_ n3_; clear hb hbox hg) | ((with_reducible refine gate_dst (N := 3) rfl ?_); refine box_event ?hg (N := 3) ?hd (cs := #[.slice A1_0 l1_0.length c1_0, .int .i64 a1_1, .int .i64 a1_2]) (t := 37) ?hr ?_; (case hd => rfl); (case hg => rfl); (case hr => exact q5_50); intro gb517 hg w13 hbox hb; have n2_ := z5k (hbox); have n3_ := z5k ((q5_116 : w.heap.size ≤ gb517)); have n4_ := z5k ((q5_116 : w.heap.size ≤ gb517)); have n5_ := z5k ((q5_16 : gb516 ≠ gb517)); have n6_ := z5k ((q5_17 : gb517 ≠ gb516)); replace BK516 := z5bb BK516 hb; replace HB := z5k (below_step q5_24 hb); have BK517 := n2_; have GW517 := n3_; have GE517 := n4_; have NB516_517 := n5_; have NB517_516 := n6_; clear n2_ n3_ n4_ n5_ n6_; clear hb hbox hg; have hnb14 := NB516_517.out; have hnc14 := NB517_516.out; have hcz15_0 := z5bc BK516 0; have hcz15_1 := z5bc BK516 1; have hcz15_2 := z5bc BK516 2; have hfz15_0 := blk_frozen BK516.out 0; have hfz15_1 := blk_frozen BK516.out 1; have hfz15_2 := blk_frozen BK516.out 2) | ((with_reducible refine gate_callee (f := 13) rfl ?_); refine goesL_ (some 19) rfl rfl Try.func13 (by kernel_rfl) rfl #[.agg #[.slice A0_0 l0_0.length c0_0, .int .i64 a0_1, .int .i64 a0_2], .int .i64 1048576] rfl q5_2 ?_; (with_reducible refine (laws_szTop.calls _ _ l0_0 a0_1 a0_2 1048576 t518 _ ?side1 ?side2 A3.out).mono ?_); (case side1 => exact q5_19); (case side2 => exact HC0_0.out); rintro e w16 ⟨rfl, hb⟩; refine ⟨_, rfl, ?_⟩; replace BK516 := z5bb BK516 hb; replace BK517 := z5bb BK517 hb; replace HB := z5k (below_step q5_4 hb); (try clear hb); (try clear hb2); (try clear hk); (try clear hi); have hcz17_0 := z5bc BK517 0; have hcz17_1 := z5bc BK517 1; have hcz17_2 := z5bc BK517 2; have hfz17_0 := blk_frozen BK517.out 0; have hfz17_1 := blk_frozen BK517.out 1; have hfz17_2 := blk_frozen BK517.out 2) | ((with_reducible refine gate_callee (f := 13) rfl ?_); refine goesL_ (some 24) rfl rfl Try.func13 (by kernel_rfl) rfl #[.agg #[.slice A1_0 l1_0.length c1_0, .int .i64 a1_1, .int .i64 a1_2], .int .i64 t518] rfl q5_2 ?_; (with_reducible refine (laws_szTop.calls _ _ l1_0 a1_1 a1_2 t518 t519 _ ?side1 ?side2 A10.out).mono ?_); (case side1 => exact q5_20); (case side2 => exact HC1_0.out); rintro e w18 ⟨rfl, hb⟩; refine ⟨_, rfl, ?_⟩; replace BK516 := z5bb BK516 hb; replace BK517 := z5bb BK517 hb; replace HB := z5k (below_step q5_4 hb); (try clear hb); (try clear hb2); (try clear hk); (try clear hi)))
   go_ret
   exact ⟨q5_34, q5_4⟩
  ·rw [if_neg c11] at H
   have c11b0 : decide (t519 < 0) = false := decide_eq_false c11
   clear c11
   replace H := Option.bind_eq_some_iff.mp H
   obtain ⟨⟨t520, t523, t524⟩, A190, H⟩ := H
   replace H : ((laws_toTop.f k l1_0 a1_1 a1_2).bind fun bt525 => ((spec_TopJoin.f k t520 t523 t524 bt525.1 bt525.2.1 bt525.2.2).bind fun bt530 => ((laws_toTop.f k l0_0 a0_1 a0_2).bind fun bt537 => ((laws_toTop.f k l1_0 a1_1 a1_2).bind fun bt543 => ((impl_TopJoin.f k bt537.1 bt537.2.1 bt537.2.2 bt543.1 bt543.2.1 bt543.2.2).bind fun bt549 => ((laws_eqTop.f k bt549.1 bt549.2.1 bt549.2.2.1 bt530.1 bt530.2.1 bt530.2.2.1).bind fun t556 => (if t556 = true then (laws_FnExactTopJoin.j0 k bt530.2.2.2 bt549.2.2.2 (bt549.2.2.2 != bt530.2.2.2) l0_0 a0_1 a0_2 l1_0 a1_1 a1_2 bt530.1 bt530.2.1 bt530.2.2.1 bt537.1 bt537.2.1 bt537.2.2 bt543.1 bt543.2.1 bt543.2.2 bt549.1 bt549.2.1 bt549.2.2.1) else (laws_FnExactTopJoin.j0 k bt530.2.2.2 bt549.2.2.2 true l0_0 a0_1 a0_2 l1_0 a1_1 a1_2 bt530.1 bt530.2.1 bt530.2.2.1 bt537.1 bt537.2.1 bt537.2.2 bt543.1 bt543.2.1 bt543.2.2 bt549.1 bt549.2.1 bt549.2.2.1)))))))) = some r := H
   have A19 := Aside0.mk A190;clear A190
   replace H := Option.bind_eq_some_iff.mp H
   obtain ⟨⟨t525, t528, t529⟩, A200, H⟩ := H
   replace H : ((spec_TopJoin.f k t520 t523 t524 t525 t528 t529).bind fun bt530 => ((laws_toTop.f k l0_0 a0_1 a0_2).bind fun bt537 => ((laws_toTop.f k l1_0 a1_1 a1_2).bind fun bt543 => ((impl_TopJoin.f k bt537.1 bt537.2.1 bt537.2.2 bt543.1 bt543.2.1 bt543.2.2).bind fun bt549 => ((laws_eqTop.f k bt549.1 bt549.2.1 bt549.2.2.1 bt530.1 bt530.2.1 bt530.2.2.1).bind fun t556 => (if t556 = true then (laws_FnExactTopJoin.j0 k bt530.2.2.2 bt549.2.2.2 (bt549.2.2.2 != bt530.2.2.2) l0_0 a0_1 a0_2 l1_0 a1_1 a1_2 bt530.1 bt530.2.1 bt530.2.2.1 bt537.1 bt537.2.1 bt537.2.2 bt543.1 bt543.2.1 bt543.2.2 bt549.1 bt549.2.1 bt549.2.2.1) else (laws_FnExactTopJoin.j0 k bt530.2.2.2 bt549.2.2.2 true l0_0 a0_1 a0_2 l1_0 a1_1 a1_2 bt530.1 bt530.2.1 bt530.2.2.1 bt537.1 bt537.2.1 bt537.2.2 bt543.1 bt543.2.1 bt543.2.2 bt549.1 bt549.2.1 bt549.2.2.1))))))) = some r := H
   have A20 := Aside0.mk A200;clear A200
   replace H := Option.bind_eq_some_iff.mp H
   obtain ⟨⟨t530, t533, t534, t535⟩, A210, H⟩ := H
   replace H : ((laws_toTop.f k l0_0 a0_1 a0_2).bind fun bt537 => ((laws_toTop.f k l1_0 a1_1 a1_2).bind fun bt543 => ((impl_TopJoin.f k bt537.1 bt537.2.1 bt537.2.2 bt543.1 bt543.2.1 bt543.2.2).bind fun bt549 => ((laws_eqTop.f k bt549.1 bt549.2.1 bt549.2.2.1 t530 t533 t534).bind fun t556 => (if t556 = true then (laws_FnExactTopJoin.j0 k t535 bt549.2.2.2 (bt549.2.2.2 != t535) l0_0 a0_1 a0_2 l1_0 a1_1 a1_2 t530 t533 t534 bt537.1 bt537.2.1 bt537.2.2 bt543.1 bt543.2.1 bt543.2.2 bt549.1 bt549.2.1 bt549.2.2.1) else (laws_FnExactTopJoin.j0 k t535 bt549.2.2.2 true l0_0 a0_1 a0_2 l1_0 a1_1 a1_2 t530 t533 t534 bt537.1 bt537.2.1 bt537.2.2 bt543.1 bt543.2.1 bt543.2.2 bt549.1 bt549.2.1 bt549.2.2.1)))))) = some r := H
   have A21 := Aside0.mk A210;clear A210
   replace H := Option.bind_eq_some_iff.mp H
   obtain ⟨⟨t537, t540, t541⟩, A220, H⟩ := H
   replace H : ((laws_toTop.f k l1_0 a1_1 a1_2).bind fun bt543 => ((impl_TopJoin.f k t537 t540 t541 bt543.1 bt543.2.1 bt543.2.2).bind fun bt549 => ((laws_eqTop.f k bt549.1 bt549.2.1 bt549.2.2.1 t530 t533 t534).bind fun t556 => (if t556 = true then (laws_FnExactTopJoin.j0 k t535 bt549.2.2.2 (bt549.2.2.2 != t535) l0_0 a0_1 a0_2 l1_0 a1_1 a1_2 t530 t533 t534 t537 t540 t541 bt543.1 bt543.2.1 bt543.2.2 bt549.1 bt549.2.1 bt549.2.2.1) else (laws_FnExactTopJoin.j0 k t535 bt549.2.2.2 true l0_0 a0_1 a0_2 l1_0 a1_1 a1_2 t530 t533 t534 t537 t540 t541 bt543.1 bt543.2.1 bt543.2.2 bt549.1 bt549.2.1 bt549.2.2.1))))) = some r := H
   have A22 := Aside0.mk A220;clear A220
   replace H := Option.bind_eq_some_iff.mp H
   obtain ⟨⟨t543, t546, t547⟩, A230, H⟩ := H
   replace H : ((impl_TopJoin.f k t537 t540 t541 t543 t546 t547).bind fun bt549 => ((laws_eqTop.f k bt549.1 bt549.2.1 bt549.2.2.1 t530 t533 t534).bind fun t556 => (if t556 = true then (laws_FnExactTopJoin.j0 k t535 bt549.2.2.2 (bt549.2.2.2 != t535) l0_0 a0_1 a0_2 l1_0 a1_1 a1_2 t530 t533 t534 t537 t540 t541 t543 t546 t547 bt549.1 bt549.2.1 bt549.2.2.1) else (laws_FnExactTopJoin.j0 k t535 bt549.2.2.2 true l0_0 a0_1 a0_2 l1_0 a1_1 a1_2 t530 t533 t534 t537 t540 t541 t543 t546 t547 bt549.1 bt549.2.1 bt549.2.2.1)))) = some r := H
   have A23 := Aside0.mk A230;clear A230
   replace H := Option.bind_eq_some_iff.mp H
   obtain ⟨⟨t549, t552, t553, t554⟩, A240, H⟩ := H
   replace H : ((laws_eqTop.f k t549 t552 t553 t530 t533 t534).bind fun t556 => (if t556 = true then (laws_FnExactTopJoin.j0 k t535 t554 (t554 != t535) l0_0 a0_1 a0_2 l1_0 a1_1 a1_2 t530 t533 t534 t537 t540 t541 t543 t546 t547 t549 t552 t553) else (laws_FnExactTopJoin.j0 k t535 t554 true l0_0 a0_1 a0_2 l1_0 a1_1 a1_2 t530 t533 t534 t537 t540 t541 t543 t546 t547 t549 t552 t553))) = some r := H
   have A24 := Aside0.mk A240;clear A240;have HC25 := Aside0.mk H;clear H
   go_enter Try.func5, Try.ntmps5
   try go_wp2_with (first | ((with_reducible refine gate_dst (N := 2) rfl ?_); refine box_event ?hg (N := 2) ?hd (cs := #[.slice A0_0 l0_0.length c0_0, .int .i64 a0_1, .int .i64 a0_2]) (t := 37) ?hr ?_; (case hd => rfl); (case hg => rfl); (case hr => exact q5_50); intro gb516 hg w26 hbox hb; have n1_ := z5k (hbox); have n2_ := z5k ((q5_115 : w.heap.size ≤ gb516)); have n3_ := z5k ((q5_115 : w.heap.size ≤ gb516)); replace HB := z5k (below_step q5_32 hb); have BK516 := n1_; have GW516 := n2_; have GE516 := n3_; clear n1_ n2_ n3_; clear hb hbox hg) | ((with_reducible refine gate_dst (N := 3) rfl ?_); refine box_event ?hg (N := 3) ?hd (cs := #[.slice A1_0 l1_0.length c1_0, .int .i64 a1_1, .int .i64 a1_2]) (t := 37) ?hr ?_; (case hd => rfl); (case hg => rfl); (case hr => exact q5_50); intro gb517 hg w27 hbox hb; have n2_ := z5k (hbox); have n3_ := z5k ((q5_116 : w.heap.size ≤ gb517)); have n4_ := z5k ((q5_116 : w.heap.size ≤ gb517)); have n5_ := z5k ((q5_16 : gb516 ≠ gb517)); have n6_ := z5k ((q5_17 : gb517 ≠ gb516)); replace BK516 := z5bb BK516 hb; replace HB := z5k (below_step q5_24 hb); have BK517 := n2_; have GW517 := n3_; have GE517 := n4_; have NB516_517 := n5_; have NB517_516 := n6_; clear n2_ n3_ n4_ n5_ n6_; clear hb hbox hg; have hnb28 := NB516_517.out; have hnc28 := NB517_516.out; have hcz29_0 := z5bc BK516 0; have hcz29_1 := z5bc BK516 1; have hcz29_2 := z5bc BK516 2; have hfz29_0 := blk_frozen BK516.out 0; have hfz29_1 := blk_frozen BK516.out 1; have hfz29_2 := blk_frozen BK516.out 2) | ((with_reducible refine gate_callee (f := 13) rfl ?_); refine goesL_ (some 19) rfl rfl Try.func13 (by kernel_rfl) rfl #[.agg #[.slice A0_0 l0_0.length c0_0, .int .i64 a0_1, .int .i64 a0_2], .int .i64 1048576] rfl q5_2 ?_; (with_reducible refine (laws_szTop.calls _ _ l0_0 a0_1 a0_2 1048576 t518 _ ?side1 ?side2 A3.out).mono ?_); (case side1 => exact q5_19); (case side2 => exact HC0_0.out); rintro e w30 ⟨rfl, hb⟩; refine ⟨_, rfl, ?_⟩; replace BK516 := z5bb BK516 hb; replace BK517 := z5bb BK517 hb; replace HB := z5k (below_step q5_4 hb); (try clear hb); (try clear hb2); (try clear hk); (try clear hi); have hcz31_0 := z5bc BK517 0; have hcz31_1 := z5bc BK517 1; have hcz31_2 := z5bc BK517 2; have hfz31_0 := blk_frozen BK517.out 0; have hfz31_1 := blk_frozen BK517.out 1; have hfz31_2 := blk_frozen BK517.out 2) | ((with_reducible refine gate_callee (f := 13) rfl ?_); refine goesL_ (some 24) rfl rfl Try.func13 (by kernel_rfl) rfl #[.agg #[.slice A1_0 l1_0.length c1_0, .int .i64 a1_1, .int .i64 a1_2], .int .i64 t518] rfl q5_2 ?_; (with_reducible refine (laws_szTop.calls _ _ l1_0 a1_1 a1_2 t518 t519 _ ?side1 ?side2 A10.out).mono ?_); (case side1 => exact q5_20); (case side2 => exact HC1_0.out); rintro e w32 ⟨rfl, hb⟩; refine ⟨_, rfl, ?_⟩; replace BK516 := z5bb BK516 hb; replace BK517 := z5bb BK517 hb; replace HB := z5k (below_step q5_4 hb); (try clear hb); (try clear hb2); (try clear hk); (try clear hi)))
   replace BK516 := z5k (blk_drew BK516.out)
   replace BK517 := z5k (blk_drew BK517.out)
   replace HB := z5k (below_drew1 HB.out)
   refine start_ (n := 11) (S := fun w' => w'.cell? ⟨gb516, 0, none⟩ = some (.slice A0_0 l0_0.length c0_0) ∧ w'.cell? ⟨gb516, 1, none⟩ = some (.int .i64 a0_1) ∧ w'.cell? ⟨gb516, 2, none⟩ = some (.int .i64 a0_2) ∧ w'.cell? ⟨gb517, 0, none⟩ = some (.slice A1_0 l1_0.length c1_0) ∧ w'.cell? ⟨gb517, 1, none⟩ = some (.int .i64 a1_1) ∧ w'.cell? ⟨gb517, 2, none⟩ = some (.int .i64 a1_2)) (ds := []) z5D0 (by kernel_rfl) rfl rfl ⟨z5bc BK516 0, z5bc BK516 1, z5bc BK516 2, z5bc BK517 0, z5bc BK517 1, z5bc BK517 2⟩ (fun hHeld => ?_); refine with_tabW laws_FnExactTopJoin.tab8 laws_FnExactTopJoin.bits8 (fun HT_ HW_ => ?_)
   generalize w32.drew = w33 at BK516 BK517 HB hHeld ⊢
   refine take_ (i := 0) (N := some 28) (v := ?_) (a' := ?_) z5D1 rfl rfl (take_ofW HT_.out HW_.out (by kernel_rfl)) (fun _ _ _ h => h) (Or.inl ⟨by rfl, ?_⟩) hHeld ?_ ?_;rotate_left
   ·rintro w' ⟨s0, s1, s2, s3, s4, s5⟩
    go_simp
    with_reducible rfl
   rotate_left
   ·simp only [Act.put, z5a, z5b, z5c, i64_w, i32_w]
    rfl
   refine take_ (i := 2) (N := some 30) (v := ?_) (a' := ?_) z5D2 rfl rfl (take_ofW HT_.out HW_.out (by kernel_rfl)) (fun _ _ _ h => h) (Or.inl ⟨by rfl, ?_⟩) hHeld ?_ ?_;rotate_left
   ·rintro w' ⟨s0, s1, s2, s3, s4, s5⟩
    go_simp
    with_reducible rfl
   rotate_left
   ·simp only [Act.put, z5a, z5b, z5c, i64_w, i32_w]
    rfl
   refine join_ (σ := Value × Value × Value × Nat) 2 z5D3 (fun s_ => [(29, .agg #[s_.1, .int .i64 t523, .int .i64 t524]), (31, .agg #[s_.2.1, .int .i64 t528, .int .i64 t529]), (32, .tuple #[.agg #[s_.2.2.1, .int .i64 t533, .int .i64 t534], .bool t535]), (6, .pointer (some ⟨s_.2.2.2, 0, none⟩)), (27, .tuple #[.agg #[s_.2.2.1, .int .i64 t533, .int .i64 t534], .bool t535]), (33, .agg #[s_.2.2.1, .int .i64 t533, .int .i64 t534]), (34, .bool t535)]) (fun s_ w' => (w'.cell? ⟨gb516, 0, none⟩ = some (.slice A0_0 l0_0.length c0_0) ∧ w'.cell? ⟨gb516, 1, none⟩ = some (.int .i64 a0_1) ∧ w'.cell? ⟨gb516, 2, none⟩ = some (.int .i64 a0_2) ∧ w'.cell? ⟨gb517, 0, none⟩ = some (.slice A1_0 l1_0.length c1_0) ∧ w'.cell? ⟨gb517, 1, none⟩ = some (.int .i64 a1_1) ∧ w'.cell? ⟨gb517, 2, none⟩ = some (.int .i64 a1_2)) ∧ (Kd.R k54 54 w' w.heap.size (fun k_ => some k_ ≠ (s_.2.1 : Value).ownBlock ∧ some k_ ≠ (s_.2.2.1 : Value).ownBlock) s_.1 t520) ∧ (Kd.R k54 54 w' w.heap.size (fun k_ => some k_ ≠ (s_.1 : Value).ownBlock ∧ some k_ ≠ (s_.2.2.1 : Value).ownBlock) s_.2.1 t525) ∧ (Kd.R k54 54 w' w.heap.size (fun k_ => some k_ ≠ (s_.1 : Value).ownBlock ∧ some k_ ≠ (s_.2.1 : Value).ownBlock) s_.2.2.1 t530) ∧ (w'.heap[gb516]? = some (.cells #[.slice A0_0 l0_0.length c0_0, .int .i64 a0_1, .int .i64 a0_2] 37 (0, 0))) ∧ (w'.heap[gb517]? = some (.cells #[.slice A1_0 l1_0.length c1_0, .int .i64 a1_1, .int .i64 a1_2] 37 (0, 0))) ∧ (w'.heap[s_.2.2.2]? = some (.cells #[.slice none 0 0, .int .i64 0, .int .i64 0] 25 (0, 0))) ∧ (w.heap.size ≤ s_.2.2.2) ∧ (w.heap.size ≤ s_.2.2.2) ∧ (gb516 ≠ s_.2.2.2) ∧ (s_.2.2.2 ≠ gb516) ∧ (gb517 ≠ s_.2.2.2) ∧ (s_.2.2.2 ≠ gb517) ∧ (Below w.heap.size w w')) ?_ ?_;rotate_left
   ·intro hCont;refine two_ (i := 1) (j := 8) (Ni := some 29) (Nj := some 6) z5D4 z5D5 rfl rfl rfl rfl (two_of HT_.out (by kernel_rfl)) (by decide) (by decide) (fun K hK => ?_) (fun K hK => ?_)
    ·refine goes_ Try.func14 (by kernel_rfl) rfl #[.agg #[.slice A0_0 l0_0.length c0_0, .int .i64 a0_1, .int .i64 a0_2]] (by rfl) rfl rfl q5_2 ?_
     with_reducible refine (laws_toTop.calls k _ _ l0_0 a0_1 a0_2 t520 t523 t524 _ ?side1 ?side2 A19.out).mono ?_
     (case side1 => exact q5_19);(case side2 => exact HC0_0.out);rintro e w34 ⟨v521, rfl, ho0, hb⟩;refine ⟨_, rfl, ?_⟩;have n0_ := z5k (Kd.R_lower ho0 (below_size q5_4))
     replace BK516 := z5bb BK516 hb
     replace BK517 := z5bb BK517 hb
     replace HB := z5k (below_step q5_4 hb)
     have HO522 := n0_;clear n0_;(try clear hb);(try clear hb2);(try clear hk);(try clear hi);(try clear ho0);refine hK.out _ _ ⟨z5bc BK516 0, z5bc BK516 1, z5bc BK516 2, z5bc BK517 0, z5bc BK517 1, z5bc BK517 2⟩ (fun hHeld => ?_);clear hK K;refine norm_ (a' := ?_) ?_ ?_;rotate_left
     ·show Act.put _ (some 29) _ = _
      simp only [Act.put, z5a, z5b, z5c, i64_w, i32_w]
      rfl
     refine two_ (i := 3) (j := 8) (Ni := some 31) (Nj := some 6) z5D6 z5D7 rfl rfl rfl rfl (two_of HT_.out (by kernel_rfl)) (by decide) (by decide) (fun K hK => ?_) (fun K hK => ?_)
     ·refine goes_ Try.func14 (by kernel_rfl) rfl #[.agg #[.slice A1_0 l1_0.length c1_0, .int .i64 a1_1, .int .i64 a1_2]] (by rfl) rfl rfl q5_2 ?_
      with_reducible refine (laws_toTop.calls k _ _ l1_0 a1_1 a1_2 t525 t528 t529 _ ?side1 ?side2 A20.out).mono ?_
      (case side1 => exact q5_20);(case side2 => exact HC1_0.out);rintro e w35 ⟨v526, rfl, ho0, hb⟩;refine ⟨_, rfl, ?_⟩;have n1_ := z5k (Kd.R_lower (Kd.R_new' ho0 (Kd.R_lt q5_14)) (below_size q5_4))
      replace HO522 := z5k (Kd.R_elder' q5_14 (Kd.R_base ho0) hb)
      replace BK516 := z5bb BK516 hb
      replace BK517 := z5bb BK517 hb
      replace HB := z5k (below_step q5_4 hb)
      have HO527 := n1_;clear n1_;(try clear hb);(try clear hb2);(try clear hk);(try clear hi);(try clear ho0);obtain ⟨Ao36, co36, eo36⟩ := Kd.R_slice HO522.out;(first | subst eo36 | (injection eo36 with f1_ f2_ f3_; have f4_ := f1_.symm; have f5_ := f3_.symm; clear f1_ f2_ f3_; subst f4_; subst f5_));obtain ⟨Ao37, co37, eo37⟩ := Kd.R_slice HO527.out;(first | subst eo37 | (injection eo37 with f1_ f2_ f3_; have f4_ := f1_.symm; have f5_ := f3_.symm; clear f1_ f2_ f3_; subst f4_; subst f5_));refine hK.out _ _ ⟨z5bc BK516 0, z5bc BK516 1, z5bc BK516 2, z5bc BK517 0, z5bc BK517 1, z5bc BK517 2⟩ (fun hHeld => ?_);clear hK K;refine norm_ (a' := ?_) ?_ ?_;rotate_left
      ·show Act.put _ (some 31) _ = _
       simp only [Act.put, z5a, z5b, z5c, i64_w, i32_w]
       rfl
      refine two_ (i := 4) (j := 8) (Ni := some 32) (Nj := some 6) z5D8 z5D9 rfl rfl rfl rfl (two_of HT_.out (by kernel_rfl)) (by decide) (by decide) (fun K hK => ?_) (fun K hK => ?_)
      ·refine goes_ Try.func18 (by kernel_rfl) rfl #[.agg #[.slice Ao36 t520.length co36, .int .i64 t523, .int .i64 t524], .agg #[.slice Ao37 t525.length co37, .int .i64 t528, .int .i64 t529]] (by rfl) rfl rfl q5_2 ?_
       with_reducible refine (spec_TopJoin.calls k _ _ t520 t523 t524 _ _ t525 t528 t529 t530 t533 t534 t535 _ ?side1 ?side2 ?side3 ?side4 A21.out).mono ?_
       (case side1 => exact q5_62);(case side2 => exact (Kd.R_reads' HO522.out).2.1);(case side3 => exact q5_63);(case side4 => exact (Kd.R_reads' HO527.out).2.1);rintro e w38 ⟨v531, rfl, ho0, hb⟩;refine ⟨_, rfl, ?_⟩;have n2_ := z5k (Kd.R_lower (Kd.R_new' (Kd.R_new' ho0 (Kd.R_lt q5_14)) (Kd.R_lt q5_30)) (below_size q5_4))
       replace HO522 := z5k (Kd.R_elder' q5_14 (Kd.R_base ho0) hb)
       replace HO527 := z5k (Kd.R_elder' q5_30 (Kd.R_base ho0) hb)
       replace BK516 := z5bb BK516 hb
       replace BK517 := z5bb BK517 hb
       replace HB := z5k (below_step q5_4 hb)
       have HO532 := n2_;clear n2_;(try clear hb);(try clear hb2);(try clear hk);(try clear hi);(try clear ho0);refine hK.out _ _ ⟨z5bc BK516 0, z5bc BK516 1, z5bc BK516 2, z5bc BK517 0, z5bc BK517 1, z5bc BK517 2⟩ (fun hHeld => ?_);clear hK K;refine norm_ (a' := ?_) ?_ ?_;rotate_left
       ·show Act.put _ (some 32) _ = _
        simp only [Act.put, z5a, z5b, z5c, i64_w, i32_w]
        rfl
       refine pure_ (i := 5) (N := some 27) (v := ?_) (a' := ?_) z5D10 rfl rfl (any_of HT_.out (by kernel_rfl)) (fun _ _ _ h => h) (Or.inl ⟨by rfl, ?_⟩) ?_ ?_;rotate_left
       ·intro w'
        go_simp
        with_reducible rfl
       rotate_left
       ·simp only [Act.put, z5a, z5b, z5c, i64_w, i32_w]
        rfl
       refine pure_ (i := 6) (N := some 33) (v := ?_) (a' := ?_) z5D11 rfl rfl (any_of HT_.out (by kernel_rfl)) (fun _ _ _ h => h) (Or.inl ⟨by rfl, ?_⟩) ?_ ?_;rotate_left
       ·intro w'
        go_simp
        with_reducible rfl
       rotate_left
       ·simp only [Act.put, z5a, z5b, z5c, i64_w, i32_w]
        rfl
       refine pure_ (i := 7) (N := some 34) (v := ?_) (a' := ?_) z5D12 rfl rfl (any_of HT_.out (by kernel_rfl)) (fun _ _ _ h => h) (Or.inl ⟨by rfl, ?_⟩) ?_ ?_;rotate_left
       ·intro w'
        go_simp
        with_reducible rfl
       rotate_left
       ·simp only [Act.put, z5a, z5b, z5c, i64_w, i32_w]
        rfl
       refine one_ (i := 8) (N := some 6) z5D3 rfl rfl (one_of HT_.out (by kernel_rfl)) (by decide) (fun K hK => ?_);refine box_step ?hg (N := 6) ?hd (cs := #[.slice none 0 0, .int .i64 0, .int .i64 0]) (t := 25) ?hr ?_; (case hd => rfl); (case hg => rfl); (case hr => exact q5_50);intro gb536 hg w39 hbox hb;have n6_ := z5k (hbox);have n7_ := z5k ((q5_108 : w.heap.size ≤ gb536));have n8_ := z5k ((q5_108 : w.heap.size ≤ gb536));have n9_ := z5k ((q5_16 : gb516 ≠ gb536));have n10_ := z5k ((q5_17 : gb536 ≠ gb516));have n11_ := z5k ((q5_21 : gb517 ≠ gb536));have n12_ := z5k ((q5_22 : gb536 ≠ gb517))
       replace HO522 := z5k (Kd.R_below q5_14 hb)
       replace HO527 := z5k (Kd.R_below q5_30 hb)
       replace HO532 := z5k (Kd.R_below q5_102 hb)
       replace BK516 := z5bb BK516 hb
       replace BK517 := z5bb BK517 hb
       replace HB := z5k (below_step q5_4 hb)
       have BK536 := n6_;have GW536 := n7_;have GE536 := n8_;have NB516_536 := n9_;have NB536_516 := n10_;have NB517_536 := n11_;have NB536_517 := n12_;clear n6_ n7_ n8_ n9_ n10_ n11_ n12_ hb hbox hg;refine hK.out _ _ ⟨z5bc BK516 0, z5bc BK516 1, z5bc BK516 2, z5bc BK517 0, z5bc BK517 1, z5bc BK517 2⟩ (fun hHeld => ?_);clear hK K;refine norm_ (a' := ?_) ?_ ?_;rotate_left
       ·show Act.put _ (some 6) _ = _
        simp only [Act.put, z5a, z5b, z5c, i64_w, i32_w]
        rfl
       exact norm_ q5_49 (hCont (.slice Ao36 t520.length co36, .slice Ao37 t525.length co37, v531, gb536) _ ⟨hHeld, q5_69, q5_70, q5_71, q5_9, q5_10, q5_11, GW536.out, GE536.out, NB516_536.out, NB536_516.out, NB517_536.out, NB536_517.out, q5_3⟩)
      ·refine box_step ?hg (N := 6) ?hd (cs := #[.slice none 0 0, .int .i64 0, .int .i64 0]) (t := 25) ?hr ?_; (case hd => rfl); (case hg => rfl); (case hr => exact q5_50);intro gb536 hg w36 hbox hb;have n5_ := z5k (hbox);have n6_ := z5k ((q5_108 : w.heap.size ≤ gb536));have n7_ := z5k ((q5_108 : w.heap.size ≤ gb536));have n8_ := z5k ((q5_16 : gb516 ≠ gb536));have n9_ := z5k ((q5_17 : gb536 ≠ gb516));have n10_ := z5k ((q5_21 : gb517 ≠ gb536));have n11_ := z5k ((q5_22 : gb536 ≠ gb517))
       replace HO522 := z5k (Kd.R_below q5_14 hb)
       replace HO527 := z5k (Kd.R_below q5_30 hb)
       replace BK516 := z5bb BK516 hb
       replace BK517 := z5bb BK517 hb
       replace HB := z5k (below_step q5_4 hb)
       have BK536 := n5_;have GW536 := n6_;have GE536 := n7_;have NB516_536 := n8_;have NB536_516 := n9_;have NB517_536 := n10_;have NB536_517 := n11_;clear n5_ n6_ n7_ n8_ n9_ n10_ n11_ hb hbox hg;obtain ⟨Ao37, co37, eo37⟩ := Kd.R_slice HO522.out;(first | subst eo37 | (injection eo37 with f1_ f2_ f3_; have f4_ := f1_.symm; have f5_ := f3_.symm; clear f1_ f2_ f3_; subst f4_; subst f5_));obtain ⟨Ao38, co38, eo38⟩ := Kd.R_slice HO527.out;(first | subst eo38 | (injection eo38 with f1_ f2_ f3_; have f4_ := f1_.symm; have f5_ := f3_.symm; clear f1_ f2_ f3_; subst f4_; subst f5_));refine hK.out _ _ ⟨z5bc BK516 0, z5bc BK516 1, z5bc BK516 2, z5bc BK517 0, z5bc BK517 1, z5bc BK517 2⟩ (fun hHeld => ?_);clear hK K;refine norm_ (a' := ?_) ?_ ?_;rotate_left
       ·show Act.put _ (some 6) _ = _
        simp only [Act.put, z5a, z5b, z5c, i64_w, i32_w]
        rfl
       refine one_ (i := 4) (N := some 32) z5D13 rfl rfl (one_of HT_.out (by kernel_rfl)) (by decide) (fun K hK => ?_);refine goes_ Try.func18 (by kernel_rfl) rfl #[.agg #[.slice Ao37 t520.length co37, .int .i64 t523, .int .i64 t524], .agg #[.slice Ao38 t525.length co38, .int .i64 t528, .int .i64 t529]] (by rfl) rfl rfl q5_2 ?_
       with_reducible refine (spec_TopJoin.calls k _ _ t520 t523 t524 _ _ t525 t528 t529 t530 t533 t534 t535 _ ?side1 ?side2 ?side3 ?side4 A21.out).mono ?_
       (case side1 => exact q5_62);(case side2 => exact (Kd.R_reads' HO522.out).2.1);(case side3 => exact q5_63);(case side4 => exact (Kd.R_reads' HO527.out).2.1);rintro e w39 ⟨v531, rfl, ho0, hb⟩;refine ⟨_, rfl, ?_⟩;have n2_ := z5k (Kd.R_lower (Kd.R_new' (Kd.R_new' ho0 (Kd.R_lt q5_14)) (Kd.R_lt q5_30)) (below_size q5_3))
       replace HO522 := z5k (Kd.R_elder' q5_14 (Kd.R_base ho0) hb)
       replace HO527 := z5k (Kd.R_elder' q5_30 (Kd.R_base ho0) hb)
       replace BK516 := z5bb BK516 hb
       replace BK517 := z5bb BK517 hb
       replace BK536 := z5bb BK536 hb
       replace HB := z5k (below_step q5_3 hb)
       have HO532 := n2_;clear n2_;(try clear hb);(try clear hb2);(try clear hk);(try clear hi);(try clear ho0);refine hK.out _ _ ⟨z5bc BK516 0, z5bc BK516 1, z5bc BK516 2, z5bc BK517 0, z5bc BK517 1, z5bc BK517 2⟩ (fun hHeld => ?_);clear hK K;refine norm_ (a' := ?_) ?_ ?_;rotate_left
       ·show Act.put _ (some 32) _ = _
        simp only [Act.put, z5a, z5b, z5c, i64_w, i32_w]
        rfl
       refine pure_ (i := 5) (N := some 27) (v := ?_) (a' := ?_) z5D14 rfl rfl (any_of HT_.out (by kernel_rfl)) (fun _ _ _ h => h) (Or.inl ⟨by rfl, ?_⟩) ?_ ?_;rotate_left
       ·intro w'
        go_simp
        with_reducible rfl
       rotate_left
       ·simp only [Act.put, z5a, z5b, z5c, i64_w, i32_w]
        rfl
       refine pure_ (i := 6) (N := some 33) (v := ?_) (a' := ?_) z5D15 rfl rfl (any_of HT_.out (by kernel_rfl)) (fun _ _ _ h => h) (Or.inl ⟨by rfl, ?_⟩) ?_ ?_;rotate_left
       ·intro w'
        go_simp
        with_reducible rfl
       rotate_left
       ·simp only [Act.put, z5a, z5b, z5c, i64_w, i32_w]
        rfl
       refine pure_ (i := 7) (N := some 34) (v := ?_) (a' := ?_) z5D3 rfl rfl (any_of HT_.out (by kernel_rfl)) (fun _ _ _ h => h) (Or.inl ⟨by rfl, ?_⟩) ?_ ?_;rotate_left
       ·intro w'
        go_simp
        with_reducible rfl
       rotate_left
       ·simp only [Act.put, z5a, z5b, z5c, i64_w, i32_w]
        rfl
       exact norm_ q5_49 (hCont (.slice Ao37 t520.length co37, .slice Ao38 t525.length co38, v531, gb536) _ ⟨hHeld, q5_69, q5_70, q5_71, q5_9, q5_10, q5_11, GW536.out, GE536.out, NB516_536.out, NB536_516.out, NB517_536.out, NB536_517.out, q5_3⟩)
     ·refine box_step ?hg (N := 6) ?hd (cs := #[.slice none 0 0, .int .i64 0, .int .i64 0]) (t := 25) ?hr ?_; (case hd => rfl); (case hg => rfl); (case hr => exact q5_50);intro gb536 hg w35 hbox hb;have n4_ := z5k (hbox);have n5_ := z5k ((q5_108 : w.heap.size ≤ gb536));have n6_ := z5k ((q5_108 : w.heap.size ≤ gb536));have n7_ := z5k ((q5_16 : gb516 ≠ gb536));have n8_ := z5k ((q5_17 : gb536 ≠ gb516));have n9_ := z5k ((q5_21 : gb517 ≠ gb536));have n10_ := z5k ((q5_22 : gb536 ≠ gb517))
      replace HO522 := z5k (Kd.R_below q5_14 hb)
      replace BK516 := z5bb BK516 hb
      replace BK517 := z5bb BK517 hb
      replace HB := z5k (below_step q5_4 hb)
      have BK536 := n4_;have GW536 := n5_;have GE536 := n6_;have NB516_536 := n7_;have NB536_516 := n8_;have NB517_536 := n9_;have NB536_517 := n10_;clear n4_ n5_ n6_ n7_ n8_ n9_ n10_ hb hbox hg;refine hK.out _ _ ⟨z5bc BK516 0, z5bc BK516 1, z5bc BK516 2, z5bc BK517 0, z5bc BK517 1, z5bc BK517 2⟩ (fun hHeld => ?_);clear hK K;refine norm_ (a' := ?_) ?_ ?_;rotate_left
      ·show Act.put _ (some 6) _ = _
       simp only [Act.put, z5a, z5b, z5c, i64_w, i32_w]
       rfl
      refine one_ (i := 3) (N := some 31) z5D9 rfl rfl (one_of HT_.out (by kernel_rfl)) (by decide) (fun K hK => ?_);refine goes_ Try.func14 (by kernel_rfl) rfl #[.agg #[.slice A1_0 l1_0.length c1_0, .int .i64 a1_1, .int .i64 a1_2]] (by rfl) rfl rfl q5_2 ?_
      with_reducible refine (laws_toTop.calls k _ _ l1_0 a1_1 a1_2 t525 t528 t529 _ ?side1 ?side2 A20.out).mono ?_
      (case side1 => exact q5_20);(case side2 => exact HC1_0.out);rintro e w36 ⟨v526, rfl, ho0, hb⟩;refine ⟨_, rfl, ?_⟩;have n1_ := z5k (Kd.R_lower (Kd.R_new' ho0 (Kd.R_lt q5_14)) (below_size q5_3))
      replace HO522 := z5k (Kd.R_elder' q5_14 (Kd.R_base ho0) hb)
      replace BK516 := z5bb BK516 hb
      replace BK517 := z5bb BK517 hb
      replace BK536 := z5bb BK536 hb
      replace HB := z5k (below_step q5_3 hb)
      have HO527 := n1_;clear n1_;(try clear hb);(try clear hb2);(try clear hk);(try clear hi);(try clear ho0);obtain ⟨Ao37, co37, eo37⟩ := Kd.R_slice HO522.out;(first | subst eo37 | (injection eo37 with f1_ f2_ f3_; have f4_ := f1_.symm; have f5_ := f3_.symm; clear f1_ f2_ f3_; subst f4_; subst f5_));obtain ⟨Ao38, co38, eo38⟩ := Kd.R_slice HO527.out;(first | subst eo38 | (injection eo38 with f1_ f2_ f3_; have f4_ := f1_.symm; have f5_ := f3_.symm; clear f1_ f2_ f3_; subst f4_; subst f5_));refine hK.out _ _ ⟨z5bc BK516 0, z5bc BK516 1, z5bc BK516 2, z5bc BK517 0, z5bc BK517 1, z5bc BK517 2⟩ (fun hHeld => ?_);clear hK K;refine norm_ (a' := ?_) ?_ ?_;rotate_left
      ·show Act.put _ (some 31) _ = _
       simp only [Act.put, z5a, z5b, z5c, i64_w, i32_w]
       rfl
      refine one_ (i := 4) (N := some 32) z5D13 rfl rfl (one_of HT_.out (by kernel_rfl)) (by decide) (fun K hK => ?_);refine goes_ Try.func18 (by kernel_rfl) rfl #[.agg #[.slice Ao37 t520.length co37, .int .i64 t523, .int .i64 t524], .agg #[.slice Ao38 t525.length co38, .int .i64 t528, .int .i64 t529]] (by rfl) rfl rfl q5_2 ?_
      with_reducible refine (spec_TopJoin.calls k _ _ t520 t523 t524 _ _ t525 t528 t529 t530 t533 t534 t535 _ ?side1 ?side2 ?side3 ?side4 A21.out).mono ?_
      (case side1 => exact q5_62);(case side2 => exact (Kd.R_reads' HO522.out).2.1);(case side3 => exact q5_63);(case side4 => exact (Kd.R_reads' HO527.out).2.1);rintro e w39 ⟨v531, rfl, ho0, hb⟩;refine ⟨_, rfl, ?_⟩;have n2_ := z5k (Kd.R_lower (Kd.R_new' (Kd.R_new' ho0 (Kd.R_lt q5_14)) (Kd.R_lt q5_30)) (below_size q5_3))
      replace HO522 := z5k (Kd.R_elder' q5_14 (Kd.R_base ho0) hb)
      replace HO527 := z5k (Kd.R_elder' q5_30 (Kd.R_base ho0) hb)
      replace BK516 := z5bb BK516 hb
      replace BK517 := z5bb BK517 hb
      replace BK536 := z5bb BK536 hb
      replace HB := z5k (below_step q5_3 hb)
      have HO532 := n2_;clear n2_;(try clear hb);(try clear hb2);(try clear hk);(try clear hi);(try clear ho0);refine hK.out _ _ ⟨z5bc BK516 0, z5bc BK516 1, z5bc BK516 2, z5bc BK517 0, z5bc BK517 1, z5bc BK517 2⟩ (fun hHeld => ?_);clear hK K;refine norm_ (a' := ?_) ?_ ?_;rotate_left
      ·show Act.put _ (some 32) _ = _
       simp only [Act.put, z5a, z5b, z5c, i64_w, i32_w]
       rfl
      refine pure_ (i := 5) (N := some 27) (v := ?_) (a' := ?_) z5D14 rfl rfl (any_of HT_.out (by kernel_rfl)) (fun _ _ _ h => h) (Or.inl ⟨by rfl, ?_⟩) ?_ ?_;rotate_left
      ·intro w'
       go_simp
       with_reducible rfl
      rotate_left
      ·simp only [Act.put, z5a, z5b, z5c, i64_w, i32_w]
       rfl
      refine pure_ (i := 6) (N := some 33) (v := ?_) (a' := ?_) z5D15 rfl rfl (any_of HT_.out (by kernel_rfl)) (fun _ _ _ h => h) (Or.inl ⟨by rfl, ?_⟩) ?_ ?_;rotate_left
      ·intro w'
       go_simp
       with_reducible rfl
      rotate_left
      ·simp only [Act.put, z5a, z5b, z5c, i64_w, i32_w]
       rfl
      refine pure_ (i := 7) (N := some 34) (v := ?_) (a' := ?_) z5D3 rfl rfl (any_of HT_.out (by kernel_rfl)) (fun _ _ _ h => h) (Or.inl ⟨by rfl, ?_⟩) ?_ ?_;rotate_left
      ·intro w'
       go_simp
       with_reducible rfl
      rotate_left
      ·simp only [Act.put, z5a, z5b, z5c, i64_w, i32_w]
       rfl
      exact norm_ q5_49 (hCont (.slice Ao37 t520.length co37, .slice Ao38 t525.length co38, v531, gb536) _ ⟨hHeld, q5_69, q5_70, q5_71, q5_9, q5_10, q5_11, GW536.out, GE536.out, NB516_536.out, NB536_516.out, NB517_536.out, NB536_517.out, q5_3⟩)
    ·refine box_step ?hg (N := 6) ?hd (cs := #[.slice none 0 0, .int .i64 0, .int .i64 0]) (t := 25) ?hr ?_; (case hd => rfl); (case hg => rfl); (case hr => exact q5_50);intro gb536 hg w34 hbox hb;have n3_ := z5k (hbox);have n4_ := z5k ((q5_108 : w.heap.size ≤ gb536));have n5_ := z5k ((q5_108 : w.heap.size ≤ gb536));have n6_ := z5k ((q5_16 : gb516 ≠ gb536));have n7_ := z5k ((q5_17 : gb536 ≠ gb516));have n8_ := z5k ((q5_21 : gb517 ≠ gb536));have n9_ := z5k ((q5_22 : gb536 ≠ gb517))
     replace BK516 := z5bb BK516 hb
     replace BK517 := z5bb BK517 hb
     replace HB := z5k (below_step q5_4 hb)
     have BK536 := n3_;have GW536 := n4_;have GE536 := n5_;have NB516_536 := n6_;have NB536_516 := n7_;have NB517_536 := n8_;have NB536_517 := n9_;clear n3_ n4_ n5_ n6_ n7_ n8_ n9_ hb hbox hg;refine hK.out _ _ ⟨z5bc BK516 0, z5bc BK516 1, z5bc BK516 2, z5bc BK517 0, z5bc BK517 1, z5bc BK517 2⟩ (fun hHeld => ?_);clear hK K;refine norm_ (a' := ?_) ?_ ?_;rotate_left
     ·show Act.put _ (some 6) _ = _
      simp only [Act.put, z5a, z5b, z5c, i64_w, i32_w]
      rfl
     refine one_ (i := 1) (N := some 29) z5D7 rfl rfl (one_of HT_.out (by kernel_rfl)) (by decide) (fun K hK => ?_);refine goes_ Try.func14 (by kernel_rfl) rfl #[.agg #[.slice A0_0 l0_0.length c0_0, .int .i64 a0_1, .int .i64 a0_2]] (by rfl) rfl rfl q5_2 ?_
     with_reducible refine (laws_toTop.calls k _ _ l0_0 a0_1 a0_2 t520 t523 t524 _ ?side1 ?side2 A19.out).mono ?_
     (case side1 => exact q5_19);(case side2 => exact HC0_0.out);rintro e w35 ⟨v521, rfl, ho0, hb⟩;refine ⟨_, rfl, ?_⟩;have n0_ := z5k (Kd.R_lower ho0 (below_size q5_3))
     replace BK516 := z5bb BK516 hb
     replace BK517 := z5bb BK517 hb
     replace BK536 := z5bb BK536 hb
     replace HB := z5k (below_step q5_3 hb)
     have HO522 := n0_;clear n0_;(try clear hb);(try clear hb2);(try clear hk);(try clear hi);(try clear ho0);refine hK.out _ _ ⟨z5bc BK516 0, z5bc BK516 1, z5bc BK516 2, z5bc BK517 0, z5bc BK517 1, z5bc BK517 2⟩ (fun hHeld => ?_);clear hK K;refine norm_ (a' := ?_) ?_ ?_;rotate_left
     ·show Act.put _ (some 29) _ = _
      simp only [Act.put, z5a, z5b, z5c, i64_w, i32_w]
      rfl
     refine one_ (i := 3) (N := some 31) z5D9 rfl rfl (one_of HT_.out (by kernel_rfl)) (by decide) (fun K hK => ?_);refine goes_ Try.func14 (by kernel_rfl) rfl #[.agg #[.slice A1_0 l1_0.length c1_0, .int .i64 a1_1, .int .i64 a1_2]] (by rfl) rfl rfl q5_2 ?_
     with_reducible refine (laws_toTop.calls k _ _ l1_0 a1_1 a1_2 t525 t528 t529 _ ?side1 ?side2 A20.out).mono ?_
     (case side1 => exact q5_20);(case side2 => exact HC1_0.out);rintro e w36 ⟨v526, rfl, ho0, hb⟩;refine ⟨_, rfl, ?_⟩;have n1_ := z5k (Kd.R_lower (Kd.R_new' ho0 (Kd.R_lt q5_14)) (below_size q5_3))
     replace HO522 := z5k (Kd.R_elder' q5_14 (Kd.R_base ho0) hb)
     replace BK516 := z5bb BK516 hb
     replace BK517 := z5bb BK517 hb
     replace BK536 := z5bb BK536 hb
     replace HB := z5k (below_step q5_3 hb)
     have HO527 := n1_;clear n1_;(try clear hb);(try clear hb2);(try clear hk);(try clear hi);(try clear ho0);obtain ⟨Ao37, co37, eo37⟩ := Kd.R_slice HO522.out;(first | subst eo37 | (injection eo37 with f1_ f2_ f3_; have f4_ := f1_.symm; have f5_ := f3_.symm; clear f1_ f2_ f3_; subst f4_; subst f5_));obtain ⟨Ao38, co38, eo38⟩ := Kd.R_slice HO527.out;(first | subst eo38 | (injection eo38 with f1_ f2_ f3_; have f4_ := f1_.symm; have f5_ := f3_.symm; clear f1_ f2_ f3_; subst f4_; subst f5_));refine hK.out _ _ ⟨z5bc BK516 0, z5bc BK516 1, z5bc BK516 2, z5bc BK517 0, z5bc BK517 1, z5bc BK517 2⟩ (fun hHeld => ?_);clear hK K;refine norm_ (a' := ?_) ?_ ?_;rotate_left
     ·show Act.put _ (some 31) _ = _
      simp only [Act.put, z5a, z5b, z5c, i64_w, i32_w]
      rfl
     refine one_ (i := 4) (N := some 32) z5D13 rfl rfl (one_of HT_.out (by kernel_rfl)) (by decide) (fun K hK => ?_);refine goes_ Try.func18 (by kernel_rfl) rfl #[.agg #[.slice Ao37 t520.length co37, .int .i64 t523, .int .i64 t524], .agg #[.slice Ao38 t525.length co38, .int .i64 t528, .int .i64 t529]] (by rfl) rfl rfl q5_2 ?_
     with_reducible refine (spec_TopJoin.calls k _ _ t520 t523 t524 _ _ t525 t528 t529 t530 t533 t534 t535 _ ?side1 ?side2 ?side3 ?side4 A21.out).mono ?_
     (case side1 => exact q5_62);(case side2 => exact (Kd.R_reads' HO522.out).2.1);(case side3 => exact q5_63);(case side4 => exact (Kd.R_reads' HO527.out).2.1);rintro e w39 ⟨v531, rfl, ho0, hb⟩;refine ⟨_, rfl, ?_⟩;have n2_ := z5k (Kd.R_lower (Kd.R_new' (Kd.R_new' ho0 (Kd.R_lt q5_14)) (Kd.R_lt q5_30)) (below_size q5_3))
     replace HO522 := z5k (Kd.R_elder' q5_14 (Kd.R_base ho0) hb)
     replace HO527 := z5k (Kd.R_elder' q5_30 (Kd.R_base ho0) hb)
     replace BK516 := z5bb BK516 hb
     replace BK517 := z5bb BK517 hb
     replace BK536 := z5bb BK536 hb
     replace HB := z5k (below_step q5_3 hb)
     have HO532 := n2_;clear n2_;(try clear hb);(try clear hb2);(try clear hk);(try clear hi);(try clear ho0);refine hK.out _ _ ⟨z5bc BK516 0, z5bc BK516 1, z5bc BK516 2, z5bc BK517 0, z5bc BK517 1, z5bc BK517 2⟩ (fun hHeld => ?_);clear hK K;refine norm_ (a' := ?_) ?_ ?_;rotate_left
     ·show Act.put _ (some 32) _ = _
      simp only [Act.put, z5a, z5b, z5c, i64_w, i32_w]
      rfl
     refine pure_ (i := 5) (N := some 27) (v := ?_) (a' := ?_) z5D14 rfl rfl (any_of HT_.out (by kernel_rfl)) (fun _ _ _ h => h) (Or.inl ⟨by rfl, ?_⟩) ?_ ?_;rotate_left
     ·intro w'
      go_simp
      with_reducible rfl
     rotate_left
     ·simp only [Act.put, z5a, z5b, z5c, i64_w, i32_w]
      rfl
     refine pure_ (i := 6) (N := some 33) (v := ?_) (a' := ?_) z5D15 rfl rfl (any_of HT_.out (by kernel_rfl)) (fun _ _ _ h => h) (Or.inl ⟨by rfl, ?_⟩) ?_ ?_;rotate_left
     ·intro w'
      go_simp
      with_reducible rfl
     rotate_left
     ·simp only [Act.put, z5a, z5b, z5c, i64_w, i32_w]
      rfl
     refine pure_ (i := 7) (N := some 34) (v := ?_) (a' := ?_) z5D3 rfl rfl (any_of HT_.out (by kernel_rfl)) (fun _ _ _ h => h) (Or.inl ⟨by rfl, ?_⟩) ?_ ?_;rotate_left
     ·intro w'
      go_simp
      with_reducible rfl
     rotate_left
     ·simp only [Act.put, z5a, z5b, z5c, i64_w, i32_w]
      rfl
     exact norm_ q5_49 (hCont (.slice Ao37 t520.length co37, .slice Ao38 t525.length co38, v531, gb536) _ ⟨hHeld, q5_69, q5_70, q5_71, q5_9, q5_10, q5_11, GW536.out, GE536.out, NB516_536.out, NB536_516.out, NB517_536.out, NB536_517.out, q5_3⟩)
   rintro ⟨v521, v526, v531, gb536⟩ w40 ⟨hS_, h0_, h1_, h2_, h3_, h4_, h5_, h6_, h7_, h8_, h9_, h10_, h11_, h12_⟩
   have n0_ : Aside0 (Kd.R k54 54 w40 w.heap.size (fun k_ => some k_ ≠ (v526 : Value).ownBlock ∧ some k_ ≠ (v531 : Value).ownBlock) v521 t520) := ⟨h0_⟩
   have n1_ : Aside0 (Kd.R k54 54 w40 w.heap.size (fun k_ => some k_ ≠ (v521 : Value).ownBlock ∧ some k_ ≠ (v531 : Value).ownBlock) v526 t525) := ⟨h1_⟩
   have n2_ : Aside0 (Kd.R k54 54 w40 w.heap.size (fun k_ => some k_ ≠ (v521 : Value).ownBlock ∧ some k_ ≠ (v526 : Value).ownBlock) v531 t530) := ⟨h2_⟩
   have n3_ : Aside0 (w40.heap[gb516]? = some (.cells #[.slice A0_0 l0_0.length c0_0, .int .i64 a0_1, .int .i64 a0_2] 37 (0, 0))) := ⟨h3_⟩
   have n4_ : Aside0 (w40.heap[gb517]? = some (.cells #[.slice A1_0 l1_0.length c1_0, .int .i64 a1_1, .int .i64 a1_2] 37 (0, 0))) := ⟨h4_⟩
   have n5_ : Aside0 (w40.heap[gb536]? = some (.cells #[.slice none 0 0, .int .i64 0, .int .i64 0] 25 (0, 0))) := ⟨h5_⟩
   have n6_ : Aside0 (w.heap.size ≤ gb536) := ⟨h6_⟩
   have n7_ : Aside0 (w.heap.size ≤ gb536) := ⟨h7_⟩
   have n8_ : Aside0 (gb516 ≠ gb536) := ⟨h8_⟩
   have n9_ : Aside0 (gb536 ≠ gb516) := ⟨h9_⟩
   have n10_ : Aside0 (gb517 ≠ gb536) := ⟨h10_⟩
   have n11_ : Aside0 (gb536 ≠ gb517) := ⟨h11_⟩
   have n12_ : Aside0 (Below w.heap.size w w40) := ⟨h12_⟩
   clear BK516 BK517 HB h0_ h1_ h2_ h3_ h4_ h5_ h6_ h7_ h8_ h9_ h10_ h11_ h12_;have HO522 := n0_;have HO527 := n1_;have HO532 := n2_;have BK516 := n3_;have BK517 := n4_;have BK536 := n5_;have GW536 := n6_;have GE536 := n7_;have NB516_536 := n8_;have NB536_516 := n9_;have NB517_536 := n10_;have NB536_517 := n11_;have HB := n12_;clear n0_ n1_ n2_ n3_ n4_ n5_ n6_ n7_ n8_ n9_ n10_ n11_ n12_
   have hHeld : w40.cell? ⟨gb516, 0, none⟩ = some (.slice A0_0 l0_0.length c0_0) ∧ w40.cell? ⟨gb516, 1, none⟩ = some (.int .i64 a0_1) ∧ w40.cell? ⟨gb516, 2, none⟩ = some (.int .i64 a0_2) ∧ w40.cell? ⟨gb517, 0, none⟩ = some (.slice A1_0 l1_0.length c1_0) ∧ w40.cell? ⟨gb517, 1, none⟩ = some (.int .i64 a1_1) ∧ w40.cell? ⟨gb517, 2, none⟩ = some (.int .i64 a1_2) := hS_
   obtain ⟨Ao41, co41, eo41⟩ := Kd.R_slice HO532.out;(first | subst eo41 | (injection eo41 with f1_ f2_ f3_; have f4_ := f1_.symm; have f5_ := f3_.symm; clear f1_ f2_ f3_; subst f4_; subst f5_));refine norm_ (a' := ?_) ?_ ?_;rotate_left
   ·simp only [putAll, Act.put, z5a, z5b, z5c]
    rfl
   refine one_ (i := 9) (N := none) z5D16 rfl rfl (one_of HT_.out (by kernel_rfl)) (by decide) (fun K hK => ?_)
   have hs42 : w40.cell? ⟨gb536, 0, none⟩ = some (.slice none 0 0) := z5bc BK536 0
   have hfs42 := blk_frozen BK536.out 0;have hns42_0 := NB516_536.out;have hns42_1 := NB517_536.out;have hms42_0 := NB536_516.out;have hms42_1 := NB536_517.out
   have hs43 : w40.cell? ⟨gb536, 1, none⟩ = some (.int .i64 0) := z5bc BK536 1
   have hfs43 := blk_frozen BK536.out 1;have hns43_0 := NB516_536.out;have hns43_1 := NB517_536.out;have hms43_0 := NB536_516.out;have hms43_1 := NB536_517.out
   have hs44 : w40.cell? ⟨gb536, 2, none⟩ = some (.int .i64 0) := z5bc BK536 2
   have hfs44 := blk_frozen BK536.out 2;have hns44_0 := NB516_536.out;have hns44_1 := NB517_536.out;have hms44_0 := NB536_516.out;have hms44_1 := NB536_517.out;refine skip_ (w1 := ?_) (by rfl) rfl ?_ ?_;rotate_left
   ·go_simp
    rfl
   refine hK.out _ _ ⟨((cell_far (p := ⟨gb536, _, none⟩) NB516_536.out _).trans (((cell_far (p := ⟨gb536, _, none⟩) NB516_536.out _).trans (((cell_far (p := ⟨gb536, _, none⟩) NB516_536.out _).trans (hHeld.1)))))), ((cell_far (p := ⟨gb536, _, none⟩) NB516_536.out _).trans (((cell_far (p := ⟨gb536, _, none⟩) NB516_536.out _).trans (((cell_far (p := ⟨gb536, _, none⟩) NB516_536.out _).trans (hHeld.2.1)))))), ((cell_far (p := ⟨gb536, _, none⟩) NB516_536.out _).trans (((cell_far (p := ⟨gb536, _, none⟩) NB516_536.out _).trans (((cell_far (p := ⟨gb536, _, none⟩) NB516_536.out _).trans (hHeld.2.2.1)))))), ((cell_far (p := ⟨gb536, _, none⟩) NB517_536.out _).trans (((cell_far (p := ⟨gb536, _, none⟩) NB517_536.out _).trans (((cell_far (p := ⟨gb536, _, none⟩) NB517_536.out _).trans (hHeld.2.2.2.1)))))), ((cell_far (p := ⟨gb536, _, none⟩) NB517_536.out _).trans (((cell_far (p := ⟨gb536, _, none⟩) NB517_536.out _).trans (((cell_far (p := ⟨gb536, _, none⟩) NB517_536.out _).trans (hHeld.2.2.2.2.1)))))), ((cell_far (p := ⟨gb536, _, none⟩) NB517_536.out _).trans (((cell_far (p := ⟨gb536, _, none⟩) NB517_536.out _).trans (((cell_far (p := ⟨gb536, _, none⟩) NB517_536.out _).trans (hHeld.2.2.2.2.2))))))⟩ (fun hHeld => ?_);clear hK K;refine pure_ (i := 10) (N := some 7) (v := ?_) (a' := ?_) z5D17 rfl rfl (any_of HT_.out (by kernel_rfl)) (fun _ _ _ h => h) (Or.inl ⟨by rfl, ?_⟩) ?_ ?_;rotate_left
   ·intro w'
    go_simp
    with_reducible rfl
   rotate_left
   ·simp only [Act.put, z5a, z5b, z5c, i64_w, i32_w]
    rfl
   refine done_ (done_of HT_.out (by kernel_rfl)) ?_;have hnb45 := NB516_536.out;have hnc45 := NB536_516.out;have hcz46_0 := z5bc BK516 0;have hcz46_1 := z5bc BK516 1;have hcz46_2 := z5bc BK516 2;have hfz46_0 := blk_frozen BK516.out 0;have hfz46_1 := blk_frozen BK516.out 1;have hfz46_2 := blk_frozen BK516.out 2
   go_upto_region 12 with (first | ((with_reducible refine gate_callee (f := 14) rfl ?_); refine goesL_ (some 36) rfl rfl Try.func14 (by kernel_rfl) rfl #[.agg #[.slice A0_0 l0_0.length c0_0, .int .i64 a0_1, .int .i64 a0_2]] rfl q5_2 ?_; (with_reducible refine (laws_toTop.calls k _ _ l0_0 a0_1 a0_2 t537 t540 t541 _ ?side1 ?side2 A22.out).mono ?_); (case side1 => exact Kd.C_below HR0_0.out q5_3); (case side2 => exact HC0_0.out); rintro e w47 ⟨v538, rfl, ho0, hb⟩; refine ⟨_, rfl, ?_⟩; have n0_ := z5k (Kd.R_elder' q5_83 (Kd.R_base ho0) hb); have n1_ := z5k (Kd.R_elder' q5_84 (Kd.R_base ho0) hb); have n2_ := z5k (Kd.R_elder' q5_85 (Kd.R_base ho0) hb); have n3_ := z5k (Kd.R_lower (Kd.R_new' (Kd.R_new' (Kd.R_new' ho0 (Kd.R_lt q5_83)) (Kd.R_lt q5_84)) (Kd.R_lt q5_85)) (below_size q5_3)); replace BK516 := z5k (blk_below (g := gb516) (o := .cells #[.slice A0_0 l0_0.length c0_0, .int .i64 a0_1, .int .i64 a0_2] 37 (0, 0)) (by (with_reducible repeat (first | refine blk_drewN ?_ _ | refine blk_drew ?_ | refine blk_alloc ?_ _)); refine blk_far ?_ NB516_536.out _; (with_reducible repeat (first | refine blk_drewN ?_ _ | refine blk_drew ?_ | refine blk_alloc ?_ _)); refine blk_far ?_ NB516_536.out _; (with_reducible repeat (first | refine blk_drewN ?_ _ | refine blk_drew ?_ | refine blk_alloc ?_ _)); refine blk_far ?_ NB516_536.out _; (with_reducible repeat (first | refine blk_drewN ?_ _ | refine blk_drew ?_ | refine blk_alloc ?_ _)); exact BK516.out) hb); replace BK517 := z5k (blk_below (g := gb517) (o := .cells #[.slice A1_0 l1_0.length c1_0, .int .i64 a1_1, .int .i64 a1_2] 37 (0, 0)) (by (with_reducible repeat (first | refine blk_drewN ?_ _ | refine blk_drew ?_ | refine blk_alloc ?_ _)); refine blk_far ?_ NB517_536.out _; (with_reducible repeat (first | refine blk_drewN ?_ _ | refine blk_drew ?_ | refine blk_alloc ?_ _)); refine blk_far ?_ NB517_536.out _; (with_reducible repeat (first | refine blk_drewN ?_ _ | refine blk_drew ?_ | refine blk_alloc ?_ _)); refine blk_far ?_ NB517_536.out _; (with_reducible repeat (first | refine blk_drewN ?_ _ | refine blk_drew ?_ | refine blk_alloc ?_ _)); exact BK517.out) hb); replace BK536 := z5k (blk_below (g := gb536) (o := .cells #[.slice Ao41 t530.length co41, .int .i64 t533, .int .i64 t534] 25 (0, 0)) (by (with_reducible repeat (first | refine blk_drewN ?_ _ | refine blk_drew ?_ | refine blk_alloc ?_ _)); refine blk_put (cs := #[.slice Ao41 t530.length co41, .int .i64 t533, .int .i64 0]) ?_ 2 _ rfl; (with_reducible repeat (first | refine blk_drewN ?_ _ | refine blk_drew ?_ | refine blk_alloc ?_ _)); refine blk_put (cs := #[.slice Ao41 t530.length co41, .int .i64 0, .int .i64 0]) ?_ 1 _ rfl; (with_reducible repeat (first | refine blk_drewN ?_ _ | refine blk_drew ?_ | refine blk_alloc ?_ _)); refine blk_put (cs := #[.slice none 0 0, .int .i64 0, .int .i64 0]) ?_ 0 _ rfl; (with_reducible repeat (first | refine blk_drewN ?_ _ | refine blk_drew ?_ | refine blk_alloc ?_ _)); exact BK536.out) hb); replace HB := z5k (below_step q5_3 hb); clear HO522; clear HO527; clear HO532; have HO522 := n0_; have HO527 := n1_; have HO532 := n2_; have HO539 := n3_; clear n0_ n1_ n2_ n3_; (try clear hb); (try clear hb2); (try clear hk); (try clear hi); (try clear ho0)) | ((with_reducible refine gate_dst (N := 8) rfl ?_); refine box_event ?hg (N := 8) ?hd (cs := #[.slice none 0 0, .int .i64 0, .int .i64 0]) (t := 25) ?hr ?_; (case hd => rfl); (case hg => rfl); (case hr => exact q5_50); intro gb542 hg w48 hbox hb; have n8_ := z5k (hbox); have n9_ := z5k ((by rw [hg]; exact (below_size q5_3) : w.heap.size ≤ gb542)); have n10_ := z5k ((by rw [hg]; exact (below_size q5_3) : w.heap.size ≤ gb542)); have n11_ := z5k ((q5_16 : gb516 ≠ gb542)); have n12_ := z5k ((q5_17 : gb542 ≠ gb516)); have n13_ := z5k ((q5_21 : gb517 ≠ gb542)); have n14_ := z5k ((q5_22 : gb542 ≠ gb517)); have n15_ := z5k ((q5_36 : gb536 ≠ gb542)); have n16_ := z5k ((q5_37 : gb542 ≠ gb536)); replace HO522 := z5k (Kd.R_below q5_14 hb); replace HO527 := z5k (Kd.R_below q5_30 hb); replace HO532 := z5k (Kd.R_below q5_102 hb); replace HO539 := z5k (Kd.R_below q5_107 hb); replace BK516 := z5bb BK516 hb; replace BK517 := z5bb BK517 hb; replace BK536 := z5bb BK536 hb; replace HB := z5k (below_step q5_3 hb); have BK542 := n8_; have GW542 := n9_; have GE542 := n10_; have NB516_542 := n11_; have NB542_516 := n12_; have NB517_542 := n13_; have NB542_517 := n14_; have NB536_542 := n15_; have NB542_536 := n16_; clear n8_ n9_ n10_ n11_ n12_ n13_ n14_ n15_ n16_; clear hb hbox hg; obtain ⟨Ao49, co49, eo49⟩ := Kd.R_slice HO539.out; subst eo49; have hnb50 := NB542_516.out; have hnc50 := NB516_542.out; have hnb51 := NB542_517.out; have hnc51 := NB517_542.out; have hnb52 := NB542_536.out; have hnc52 := NB536_542.out; have hcz53_0 := z5bc BK542 0; have hcz53_1 := z5bc BK542 1; have hcz53_2 := z5bc BK542 2; have hfz53_0 := blk_frozen BK542.out 0; have hfz53_1 := blk_frozen BK542.out 1; have hfz53_2 := blk_frozen BK542.out 2; have hnb54 := NB517_536.out; have hnc54 := NB536_517.out; have hcz55_0 := z5bc BK517 0; have hcz55_1 := z5bc BK517 1; have hcz55_2 := z5bc BK517 2; have hfz55_0 := blk_frozen BK517.out 0; have hfz55_1 := blk_frozen BK517.out 1; have hfz55_2 := blk_frozen BK517.out 2) | ((with_reducible refine gate_callee (f := 14) rfl ?_); refine goesL_ (some 38) rfl rfl Try.func14 (by kernel_rfl) rfl #[.agg #[.slice A1_0 l1_0.length c1_0, .int .i64 a1_1, .int .i64 a1_2]] rfl q5_2 ?_; (with_reducible refine (laws_toTop.calls k _ _ l1_0 a1_1 a1_2 t543 t546 t547 _ ?side1 ?side2 A23.out).mono ?_); (case side1 => exact Kd.C_below HR1_0.out q5_23); (case side2 => exact HC1_0.out); rintro e w56 ⟨v544, rfl, ho0, hb⟩; refine ⟨_, rfl, ?_⟩; have n0_ := z5k (Kd.R_elder' q5_86 (Kd.R_base ho0) hb); have n1_ := z5k (Kd.R_elder' q5_87 (Kd.R_base ho0) hb); have n2_ := z5k (Kd.R_elder' q5_88 (Kd.R_base ho0) hb); have n3_ := z5k (Kd.R_elder' q5_89 (Kd.R_base ho0) hb); have n4_ := z5k (Kd.R_lower (Kd.R_new' (Kd.R_new' (Kd.R_new' (Kd.R_new' ho0 (Kd.R_lt q5_86)) (Kd.R_lt q5_87)) (Kd.R_lt q5_88)) (Kd.R_lt q5_89)) (below_size q5_23)); replace BK516 := z5k (blk_below (g := gb516) (o := .cells #[.slice A0_0 l0_0.length c0_0, .int .i64 a0_1, .int .i64 a0_2] 37 (0, 0)) (by (with_reducible repeat (first | refine blk_drewN ?_ _ | refine blk_drew ?_ | refine blk_alloc ?_ _)); refine blk_far ?_ NB516_542.out _; (with_reducible repeat (first | refine blk_drewN ?_ _ | refine blk_drew ?_ | refine blk_alloc ?_ _)); refine blk_far ?_ NB516_542.out _; (with_reducible repeat (first | refine blk_drewN ?_ _ | refine blk_drew ?_ | refine blk_alloc ?_ _)); refine blk_far ?_ NB516_542.out _; (with_reducible repeat (first | refine blk_drewN ?_ _ | refine blk_drew ?_ | refine blk_alloc ?_ _)); exact BK516.out) hb); replace BK517 := z5k (blk_below (g := gb517) (o := .cells #[.slice A1_0 l1_0.length c1_0, .int .i64 a1_1, .int .i64 a1_2] 37 (0, 0)) (by (with_reducible repeat (first | refine blk_drewN ?_ _ | refine blk_drew ?_ | refine blk_alloc ?_ _)); refine blk_far ?_ NB517_542.out _; (with_reducible repeat (first | refine blk_drewN ?_ _ | refine blk_drew ?_ | refine blk_alloc ?_ _)); refine blk_far ?_ NB517_542.out _; (with_reducible repeat (first | refine blk_drewN ?_ _ | refine blk_drew ?_ | refine blk_alloc ?_ _)); refine blk_far ?_ NB517_542.out _; (with_reducible repeat (first | refine blk_drewN ?_ _ | refine blk_drew ?_ | refine blk_alloc ?_ _)); exact BK517.out) hb); replace BK536 := z5k (blk_below (g := gb536) (o := .cells #[.slice Ao41 t530.length co41, .int .i64 t533, .int .i64 t534] 25 (0, 0)) (by (with_reducible repeat (first | refine blk_drewN ?_ _ | refine blk_drew ?_ | refine blk_alloc ?_ _)); refine blk_far ?_ NB536_542.out _; (with_reducible repeat (first | refine blk_drewN ?_ _ | refine blk_drew ?_ | refine blk_alloc ?_ _)); refine blk_far ?_ NB536_542.out _; (with_reducible repeat (first | refine blk_drewN ?_ _ | refine blk_drew ?_ | refine blk_alloc ?_ _)); refine blk_far ?_ NB536_542.out _; (with_reducible repeat (first | refine blk_drewN ?_ _ | refine blk_drew ?_ | refine blk_alloc ?_ _)); exact BK536.out) hb); replace BK542 := z5k (blk_below (g := gb542) (o := .cells #[.slice Ao49 t537.length co49, .int .i64 t540, .int .i64 t541] 25 (0, 0)) (by (with_reducible repeat (first | refine blk_drewN ?_ _ | refine blk_drew ?_ | refine blk_alloc ?_ _)); refine blk_put (cs := #[.slice Ao49 t537.length co49, .int .i64 t540, .int .i64 0]) ?_ 2 _ rfl; (with_reducible repeat (first | refine blk_drewN ?_ _ | refine blk_drew ?_ | refine blk_alloc ?_ _)); refine blk_put (cs := #[.slice Ao49 t537.length co49, .int .i64 0, .int .i64 0]) ?_ 1 _ rfl; (with_reducible repeat (first | refine blk_drewN ?_ _ | refine blk_drew ?_ | refine blk_alloc ?_ _)); refine blk_put (cs := #[.slice none 0 0, .int .i64 0, .int .i64 0]) ?_ 0 _ rfl; (with_reducible repeat (first | refine blk_drewN ?_ _ | refine blk_drew ?_ | refine blk_alloc ?_ _)); exact BK542.out) hb); replace HB := z5k (below_step q5_23 hb); clear HO522; clear HO527; clear HO532; clear HO539; have HO522 := n0_; have HO527 := n1_; have HO532 := n2_; have HO539 := n3_; have HO545 := n4_; clear n0_ n1_ n2_ n3_ n4_; (try clear hb); (try clear hb2); (try clear hk); (try clear hi); (try clear ho0)) | ((with_reducible refine gate_dst (N := 9) rfl ?_); refine box_event ?hg (N := 9) ?hd (cs := #[.slice none 0 0, .int .i64 0, .int .i64 0]) (t := 25) ?hr ?_; (case hd => rfl); (case hg => rfl); (case hr => exact q5_50); intro gb548 hg w57 hbox hb; have n10_ := z5k (hbox); have n11_ := z5k ((by rw [hg]; exact (below_size q5_23) : w.heap.size ≤ gb548)); have n12_ := z5k ((by rw [hg]; exact (below_size q5_23) : w.heap.size ≤ gb548)); have n13_ := z5k ((q5_16 : gb516 ≠ gb548)); have n14_ := z5k ((q5_17 : gb548 ≠ gb516)); have n15_ := z5k ((q5_21 : gb517 ≠ gb548)); have n16_ := z5k ((q5_22 : gb548 ≠ gb517)); have n17_ := z5k ((q5_36 : gb536 ≠ gb548)); have n18_ := z5k ((q5_37 : gb548 ≠ gb536)); have n19_ := z5k ((q5_113 : gb542 ≠ gb548)); have n20_ := z5k ((q5_114 : gb548 ≠ gb542)); replace HO522 := z5k (Kd.R_below q5_14 hb); replace HO527 := z5k (Kd.R_below q5_30 hb); replace HO532 := z5k (Kd.R_below q5_102 hb); replace HO539 := z5k (Kd.R_below q5_107 hb); replace HO545 := z5k (Kd.R_below q5_117 hb); replace BK516 := z5bb BK516 hb; replace BK517 := z5bb BK517 hb; replace BK536 := z5bb BK536 hb; replace BK542 := z5bb BK542 hb; replace HB := z5k (below_step q5_23 hb); have BK548 := n10_; have GW548 := n11_; have GE548 := n12_; have NB516_548 := n13_; have NB548_516 := n14_; have NB517_548 := n15_; have NB548_517 := n16_; have NB536_548 := n17_; have NB548_536 := n18_; have NB542_548 := n19_; have NB548_542 := n20_; clear n10_ n11_ n12_ n13_ n14_ n15_ n16_ n17_ n18_ n19_ n20_; clear hb hbox hg; obtain ⟨Ao58, co58, eo58⟩ := Kd.R_slice HO545.out; subst eo58; have hnb59 := NB548_516.out; have hnc59 := NB516_548.out; have hnb60 := NB548_517.out; have hnc60 := NB517_548.out; have hnb61 := NB548_536.out; have hnc61 := NB536_548.out; have hnb62 := NB548_542.out; have hnc62 := NB542_548.out; have hcz63_0 := z5bc BK548 0; have hcz63_1 := z5bc BK548 1; have hcz63_2 := z5bc BK548 2; have hfz63_0 := blk_frozen BK548.out 0; have hfz63_1 := blk_frozen BK548.out 1; have hfz63_2 := blk_frozen BK548.out 2; have hcz64_0 := z5bc BK542 0; have hcz64_1 := z5bc BK542 1; have hcz64_2 := z5bc BK542 2; have hfz64_0 := blk_frozen BK542.out 0; have hfz64_1 := blk_frozen BK542.out 1; have hfz64_2 := blk_frozen BK542.out 2) | ((with_reducible refine gate_callee (f := 19) rfl ?_); refine goesL_ (some 42) rfl rfl Try.func19 (by kernel_rfl) rfl #[.agg #[.slice Ao49 t537.length co49, .int .i64 t540, .int .i64 t541], .agg #[.slice Ao58 t543.length co58, .int .i64 t546, .int .i64 t547]] rfl q5_2 ?_; (with_reducible refine (impl_TopJoin.calls k _ _ t537 t540 t541 _ _ t543 t546 t547 t549 t552 t553 t554 _ ?side1 ?side2 ?side3 ?side4 A24.out).mono ?_); (case side1 => refine (Kd.R_reads' (e := 54) (base := w.heap.size) (ok := fun k_ => ((((True ∧ some k_ ≠ (v521 : Value).ownBlock) ∧ some k_ ≠ (v526 : Value).ownBlock) ∧ some k_ ≠ (.slice Ao41 t530.length co41 : Value).ownBlock) ∧ some k_ ≠ (.slice Ao58 t543.length co58 : Value).ownBlock)) (n := t537.length) (c := co49) ?_).2.2; exact q5_38); (case side2 => exact (Kd.R_reads' HO539.out).2.1); (case side3 => refine (Kd.R_reads' (e := 54) (base := w.heap.size) (ok := fun k_ => ((((True ∧ some k_ ≠ (v521 : Value).ownBlock) ∧ some k_ ≠ (v526 : Value).ownBlock) ∧ some k_ ≠ (.slice Ao41 t530.length co41 : Value).ownBlock) ∧ some k_ ≠ (.slice Ao49 t537.length co49 : Value).ownBlock)) (n := t543.length) (c := co58) ?_).2.2; exact q5_39); (case side4 => exact (Kd.R_reads' HO545.out).2.1); rintro e w65 ⟨v550, rfl, ho0, hb⟩; refine ⟨_, rfl, ?_⟩; have n0_ := z5k (Kd.R_elder' q5_90 (Kd.R_base ho0) hb); have n1_ := z5k (Kd.R_elder' q5_91 (Kd.R_base ho0) hb); have n2_ := z5k (Kd.R_elder' q5_92 (Kd.R_base ho0) hb); have n3_ := z5k (Kd.R_elder' q5_38 (Kd.R_base ho0) hb); have n4_ := z5k (Kd.R_elder' q5_39 (Kd.R_base ho0) hb); have n5_ := z5k (Kd.R_lower (Kd.R_new' (Kd.R_new' (Kd.R_new' (Kd.R_new' (Kd.R_new' ho0 (Kd.R_lt q5_90)) (Kd.R_lt q5_91)) (Kd.R_lt q5_92)) (Kd.R_lt q5_38)) (Kd.R_lt q5_39)) (below_size q5_31)); replace BK516 := z5k (blk_below (g := gb516) (o := .cells #[.slice A0_0 l0_0.length c0_0, .int .i64 a0_1, .int .i64 a0_2] 37 (0, 0)) (by (with_reducible repeat (first | refine blk_drewN ?_ _ | refine blk_drew ?_ | refine blk_alloc ?_ _)); refine blk_far ?_ NB516_548.out _; (with_reducible repeat (first | refine blk_drewN ?_ _ | refine blk_drew ?_ | refine blk_alloc ?_ _)); refine blk_far ?_ NB516_548.out _; (with_reducible repeat (first | refine blk_drewN ?_ _ | refine blk_drew ?_ | refine blk_alloc ?_ _)); refine blk_far ?_ NB516_548.out _; (with_reducible repeat (first | refine blk_drewN ?_ _ | refine blk_drew ?_ | refine blk_alloc ?_ _)); exact BK516.out) hb); replace BK517 := z5k (blk_below (g := gb517) (o := .cells #[.slice A1_0 l1_0.length c1_0, .int .i64 a1_1, .int .i64 a1_2] 37 (0, 0)) (by (with_reducible repeat (first | refine blk_drewN ?_ _ | refine blk_drew ?_ | refine blk_alloc ?_ _)); refine blk_far ?_ NB517_548.out _; (with_reducible repeat (first | refine blk_drewN ?_ _ | refine blk_drew ?_ | refine blk_alloc ?_ _)); refine blk_far ?_ NB517_548.out _; (with_reducible repeat (first | refine blk_drewN ?_ _ | refine blk_drew ?_ | refine blk_alloc ?_ _)); refine blk_far ?_ NB517_548.out _; (with_reducible repeat (first | refine blk_drewN ?_ _ | refine blk_drew ?_ | refine blk_alloc ?_ _)); exact BK517.out) hb); replace BK536 := z5k (blk_below (g := gb536) (o := .cells #[.slice Ao41 t530.length co41, .int .i64 t533, .int .i64 t534] 25 (0, 0)) (by (with_reducible repeat (first | refine blk_drewN ?_ _ | refine blk_drew ?_ | refine blk_alloc ?_ _)); refine blk_far ?_ NB536_548.out _; (with_reducible repeat (first | refine blk_drewN ?_ _ | refine blk_drew ?_ | refine blk_alloc ?_ _)); refine blk_far ?_ NB536_548.out _; (with_reducible repeat (first | refine blk_drewN ?_ _ | refine blk_drew ?_ | refine blk_alloc ?_ _)); refine blk_far ?_ NB536_548.out _; (with_reducible repeat (first | refine blk_drewN ?_ _ | refine blk_drew ?_ | refine blk_alloc ?_ _)); exact BK536.out) hb); replace BK542 := z5k (blk_below (g := gb542) (o := .cells #[.slice Ao49 t537.length co49, .int .i64 t540, .int .i64 t541] 25 (0, 0)) (by (with_reducible repeat (first | refine blk_drewN ?_ _ | refine blk_drew ?_ | refine blk_alloc ?_ _)); refine blk_far ?_ NB542_548.out _; (with_reducible repeat (first | refine blk_drewN ?_ _ | refine blk_drew ?_ | refine blk_alloc ?_ _)); refine blk_far ?_ NB542_548.out _; (with_reducible repeat (first | refine blk_drewN ?_ _ | refine blk_drew ?_ | refine blk_alloc ?_ _)); refine blk_far ?_ NB542_548.out _; (with_reducible repeat (first | refine blk_drewN ?_ _ | refine blk_drew ?_ | refine blk_alloc ?_ _)); exact BK542.out) hb); replace BK548 := z5k (blk_below (g := gb548) (o := .cells #[.slice Ao58 t543.length co58, .int .i64 t546, .int .i64 t547] 25 (0, 0)) (by (with_reducible repeat (first | refine blk_drewN ?_ _ | refine blk_drew ?_ | refine blk_alloc ?_ _)); refine blk_put (cs := #[.slice Ao58 t543.length co58, .int .i64 t546, .int .i64 0]) ?_ 2 _ rfl; (with_reducible repeat (first | refine blk_drewN ?_ _ | refine blk_drew ?_ | refine blk_alloc ?_ _)); refine blk_put (cs := #[.slice Ao58 t543.length co58, .int .i64 0, .int .i64 0]) ?_ 1 _ rfl; (with_reducible repeat (first | refine blk_drewN ?_ _ | refine blk_drew ?_ | refine blk_alloc ?_ _)); refine blk_put (cs := #[.slice none 0 0, .int .i64 0, .int .i64 0]) ?_ 0 _ rfl; (with_reducible repeat (first | refine blk_drewN ?_ _ | refine blk_drew ?_ | refine blk_alloc ?_ _)); exact BK548.out) hb); replace HB := z5k (below_step q5_31 hb); clear HO522; clear HO527; clear HO532; clear HO539; clear HO545; have HO522 := n0_; have HO527 := n1_; have HO532 := n2_; have HO539 := n3_; have HO545 := n4_; have HO551 := n5_; clear n0_ n1_ n2_ n3_ n4_ n5_; (try clear hb); (try clear hb2); (try clear hk); (try clear hi); (try clear ho0)) | ((with_reducible refine gate_dst (N := 10) rfl ?_); refine box_event ?hg (N := 10) ?hd (cs := #[.slice none 0 0, .int .i64 0, .int .i64 0]) (t := 25) ?hr ?_; (case hd => rfl); (case hg => rfl); (case hr => exact q5_50); intro gb555 hg w66 hbox hb; have n12_ := z5k (hbox); have n13_ := z5k ((by rw [hg]; exact (below_size q5_31) : w.heap.size ≤ gb555)); have n14_ := z5k ((by rw [hg]; exact (below_size q5_31) : w.heap.size ≤ gb555)); have n15_ := z5k ((q5_16 : gb516 ≠ gb555)); have n16_ := z5k ((q5_17 : gb555 ≠ gb516)); have n17_ := z5k ((q5_21 : gb517 ≠ gb555)); have n18_ := z5k ((q5_22 : gb555 ≠ gb517)); have n19_ := z5k ((q5_36 : gb536 ≠ gb555)); have n20_ := z5k ((q5_37 : gb555 ≠ gb536)); have n21_ := z5k ((q5_113 : gb542 ≠ gb555)); have n22_ := z5k ((q5_114 : gb555 ≠ gb542)); have n23_ := z5k ((by rw [hg]; exact Nat.ne_of_lt (blk_lt (g := gb548) (o := .cells #[.slice Ao58 t543.length co58, .int .i64 t546, .int .i64 t547] 25 (0, 0)) q5_13) : gb548 ≠ gb555)); have n24_ := z5k ((by rw [hg]; exact Nat.ne_of_gt (blk_lt (g := gb548) (o := .cells #[.slice Ao58 t543.length co58, .int .i64 t546, .int .i64 t547] 25 (0, 0)) q5_13) : gb555 ≠ gb548)); replace HO522 := z5k (Kd.R_below q5_14 hb); replace HO527 := z5k (Kd.R_below q5_30 hb); replace HO532 := z5k (Kd.R_below q5_102 hb); replace HO539 := z5k (Kd.R_below q5_107 hb); replace HO545 := z5k (Kd.R_below q5_117 hb); replace HO551 := z5k (Kd.R_below (by (with_reducible repeat (first | apply Kd.R_alloc | apply Kd.R_drewN | apply Kd.R_drew)); exact HO551.out) hb); replace BK516 := z5bb BK516 hb; replace BK517 := z5bb BK517 hb; replace BK536 := z5bb BK536 hb; replace BK542 := z5bb BK542 hb; replace BK548 := z5bb BK548 hb; replace HB := z5k (below_step q5_31 hb); have BK555 := n12_; have GW555 := n13_; have GE555 := n14_; have NB516_555 := n15_; have NB555_516 := n16_; have NB517_555 := n17_; have NB555_517 := n18_; have NB536_555 := n19_; have NB555_536 := n20_; have NB542_555 := n21_; have NB555_542 := n22_; have NB548_555 := n23_; have NB555_548 := n24_; clear n12_ n13_ n14_ n15_ n16_ n17_ n18_ n19_ n20_ n21_ n22_ n23_ n24_; clear hb hbox hg; obtain ⟨Ao67, co67, eo67⟩ := Kd.R_slice HO551.out; subst eo67; have hnb68 := NB555_516.out; have hnc68 := NB516_555.out; have hnb69 := NB555_517.out; have hnc69 := NB517_555.out; have hnb70 := NB555_536.out; have hnc70 := NB536_555.out; have hnb71 := NB555_542.out; have hnc71 := NB542_555.out; have hnb72 := NB555_548.out; have hnc72 := NB548_555.out; have hcz73_0 := z5bc BK555 0; have hcz73_1 := z5bc BK555 1; have hcz73_2 := z5bc BK555 2; have hfz73_0 := blk_frozen BK555.out 0; have hfz73_1 := blk_frozen BK555.out 1; have hfz73_2 := blk_frozen BK555.out 2))
   (try simp only [Act.put, z5a, z5b, z5c])
   go_cut [53] (fun v53 wc => ∃ (kq : Nat) (x53_24 : Bool), v53 = .bool x53_24 ∧ Aside0 (laws_FnExactTopJoin.j0 kq t535 t554 x53_24 l0_0 a0_1 a0_2 l1_0 a1_1 a1_2 t530 t533 t534 t537 t540 t541 t543 t546 t547 t549 t552 t553 = some r) ∧ Aside0 (kq ≤ k) ∧ Aside0 (Kd.R k54 54 wc w.heap.size (fun k_ => some k_ ≠ ((.slice Ao49 t537.length co49) : Value).ownBlock ∧ some k_ ≠ ((.slice Ao58 t543.length co58) : Value).ownBlock ∧ some k_ ≠ ((.slice Ao67 t549.length co67) : Value).ownBlock) (.slice Ao41 t530.length co41) t530) ∧ Aside0 (Kd.R k54 54 wc w.heap.size (fun k_ => some k_ ≠ ((.slice Ao41 t530.length co41) : Value).ownBlock ∧ some k_ ≠ ((.slice Ao58 t543.length co58) : Value).ownBlock ∧ some k_ ≠ ((.slice Ao67 t549.length co67) : Value).ownBlock) (.slice Ao49 t537.length co49) t537) ∧ Aside0 (Kd.R k54 54 wc w.heap.size (fun k_ => some k_ ≠ ((.slice Ao41 t530.length co41) : Value).ownBlock ∧ some k_ ≠ ((.slice Ao49 t537.length co49) : Value).ownBlock ∧ some k_ ≠ ((.slice Ao67 t549.length co67) : Value).ownBlock) (.slice Ao58 t543.length co58) t543) ∧ Aside0 (Kd.R k54 54 wc w.heap.size (fun k_ => some k_ ≠ ((.slice Ao41 t530.length co41) : Value).ownBlock ∧ some k_ ≠ ((.slice Ao49 t537.length co49) : Value).ownBlock ∧ some k_ ≠ ((.slice Ao58 t543.length co58) : Value).ownBlock) (.slice Ao67 t549.length co67) t549) ∧ Aside0 (wc.heap[gb516]? = some (.cells #[(.slice A0_0 l0_0.length c0_0), .int .i64 a0_1, .int .i64 a0_2] 37 (0, 0))) ∧ Aside0 (wc.heap[gb517]? = some (.cells #[(.slice A1_0 l1_0.length c1_0), .int .i64 a1_1, .int .i64 a1_2] 37 (0, 0))) ∧ Aside0 (wc.heap[gb536]? = some (.cells #[(.slice Ao41 t530.length co41), .int .i64 t533, .int .i64 t534] 25 (0, 0))) ∧ Aside0 (wc.heap[gb542]? = some (.cells #[(.slice Ao49 t537.length co49), .int .i64 t540, .int .i64 t541] 25 (0, 0))) ∧ Aside0 (wc.heap[gb548]? = some (.cells #[(.slice Ao58 t543.length co58), .int .i64 t546, .int .i64 t547] 25 (0, 0))) ∧ Aside0 (wc.heap[gb555]? = some (.cells #[(.slice Ao67 t549.length co67), .int .i64 t552, .int .i64 t553] 25 (0, 0))) ∧ Aside0 (Below w.heap.size w wc))
   case first =>
    have H := HC25.out;clear HC25
    replace H := Option.bind_eq_some_iff.mp H
    obtain ⟨t556, A740, H⟩ := H
    replace H : (if t556 = true then (laws_FnExactTopJoin.j0 k t535 t554 (t554 != t535) l0_0 a0_1 a0_2 l1_0 a1_1 a1_2 t530 t533 t534 t537 t540 t541 t543 t546 t547 t549 t552 t553) else (laws_FnExactTopJoin.j0 k t535 t554 true l0_0 a0_1 a0_2 l1_0 a1_1 a1_2 t530 t533 t534 t537 t540 t541 t543 t546 t547 t549 t552 t553)) = some r := H
    have A74 := Aside0.mk A740;clear A740
    by_cases c75 : t556 = true
    ·subst c75
     have H1 : (laws_FnExactTopJoin.j0 k t535 t554 (t554 != t535) l0_0 a0_1 a0_2 l1_0 a1_1 a1_2 t530 t533 t534 t537 t540 t541 t543 t546 t547 t549 t552 t553) = some r := by rw [if_pos rfl] at H; exact H
     clear H;have H := H1;clear H1
     have H' := Aside0.mk H
     clear H;have hnb76 := NB555_516.out;have hnc76 := NB516_555.out;have hnb77 := NB555_517.out;have hnc77 := NB517_555.out;have hnb78 := NB555_536.out;have hnc78 := NB536_555.out;have hnb79 := NB555_542.out;have hnc79 := NB542_555.out;have hnb80 := NB555_548.out;have hnc80 := NB548_555.out;have hcz81_0 := z5bc BK555 0;have hcz81_1 := z5bc BK555 1;have hcz81_2 := z5bc BK555 2;have hfz81_0 := blk_frozen BK555.out 0;have hfz81_1 := blk_frozen BK555.out 1;have hfz81_2 := blk_frozen BK555.out 2;have hnb82 := NB536_516.out;have hnc82 := NB516_536.out;have hnb83 := NB536_517.out;have hnc83 := NB517_536.out;have hnb84 := NB536_542.out;have hnc84 := NB542_536.out;have hnb85 := NB536_548.out;have hnc85 := NB548_536.out;have hcz86_0 := z5bc BK536 0;have hcz86_1 := z5bc BK536 1;have hcz86_2 := z5bc BK536 2;have hfz86_0 := blk_frozen BK536.out 0;have hfz86_1 := blk_frozen BK536.out 1;have hfz86_2 := blk_frozen BK536.out 2
     go_wp2_with (first | ((with_reducible refine gate_callee (f := 15) rfl ?_); refine goesL_ (some 47) rfl rfl Try.func15 (by kernel_rfl) rfl #[.agg #[.slice Ao67 t549.length co67, .int .i64 t552, .int .i64 t553], .agg #[.slice Ao41 t530.length co41, .int .i64 t533, .int .i64 t534]] rfl q5_2 ?_; (with_reducible refine (laws_eqTop.calls k _ _ t549 t552 t553 _ _ t530 t533 t534 true _ ?side1 ?side2 ?side3 ?side4 A74.out).mono ?_); (case side1 => exact q5_97); (case side2 => exact (Kd.R_reads' HO551.out).2.1); (case side3 => exact q5_98); (case side4 => exact (Kd.R_reads' HO532.out).2.1); rintro e w87 ⟨rfl, hb⟩; refine ⟨_, rfl, ?_⟩; have n0_ := z5k (Kd.R_below q5_93 hb); have n1_ := z5k (Kd.R_below q5_94 hb); have n2_ := z5k (Kd.R_below q5_28 hb); have n3_ := z5k (Kd.R_below q5_95 hb); have n4_ := z5k (Kd.R_below q5_96 hb); have n5_ := z5k (Kd.R_below q5_27 hb); replace BK516 := z5k (blk_below (g := gb516) (o := .cells #[.slice A0_0 l0_0.length c0_0, .int .i64 a0_1, .int .i64 a0_2] 37 (0, 0)) q5_51 hb); replace BK517 := z5k (blk_below (g := gb517) (o := .cells #[.slice A1_0 l1_0.length c1_0, .int .i64 a1_1, .int .i64 a1_2] 37 (0, 0)) q5_52 hb); replace BK536 := z5k (blk_below (g := gb536) (o := .cells #[.slice Ao41 t530.length co41, .int .i64 t533, .int .i64 t534] 25 (0, 0)) q5_53 hb); replace BK542 := z5k (blk_below (g := gb542) (o := .cells #[.slice Ao49 t537.length co49, .int .i64 t540, .int .i64 t541] 25 (0, 0)) q5_54 hb); replace BK548 := z5k (blk_below (g := gb548) (o := .cells #[.slice Ao58 t543.length co58, .int .i64 t546, .int .i64 t547] 25 (0, 0)) q5_55 hb); replace BK555 := z5k (blk_below (g := gb555) (o := .cells #[.slice Ao67 t549.length co67, .int .i64 t552, .int .i64 t553] 25 (0, 0)) q5_41 hb); replace HB := z5k (below_step q5_0 hb); clear HO522; clear HO527; clear HO532; clear HO539; clear HO545; clear HO551; have HO522 := n0_; have HO527 := n1_; have HO532 := n2_; have HO539 := n3_; have HO545 := n4_; have HO551 := n5_; clear n0_ n1_ n2_ n3_ n4_ n5_; (try clear hb); (try clear hb2); (try clear hk); (try clear hi)))
     go_meet
     case rel => exact ⟨_, ((t554 != t535)), q5_104, H', ⟨by first | omega | exact Nat.le_refl _⟩, ⟨by (with_reducible repeat (first | apply Kd.R_alloc | apply Kd.R_drewN | apply Kd.R_drew)); exact Kd.R_mono HO532.out (fun _ hk => ⟨hk.1.1.2, ⟨hk.1.2, hk.2⟩⟩)⟩, ⟨by (with_reducible repeat (first | apply Kd.R_alloc | apply Kd.R_drewN | apply Kd.R_drew)); exact Kd.R_mono HO539.out (fun _ hk => ⟨hk.1.1.2, ⟨hk.1.2, hk.2⟩⟩)⟩, ⟨by (with_reducible repeat (first | apply Kd.R_alloc | apply Kd.R_drewN | apply Kd.R_drew)); exact Kd.R_mono HO545.out (fun _ hk => ⟨hk.1.1.2, ⟨hk.1.2, hk.2⟩⟩)⟩, ⟨by (with_reducible repeat (first | apply Kd.R_alloc | apply Kd.R_drewN | apply Kd.R_drew)); exact Kd.R_mono HO551.out (fun _ hk => ⟨hk.1.1.2, ⟨hk.1.2, hk.2⟩⟩)⟩, ⟨by (with_reducible repeat (first | refine blk_drewN ?_ _ | refine blk_drew ?_ | refine blk_alloc ?_ _)); exact BK516.out⟩, ⟨by (with_reducible repeat (first | refine blk_drewN ?_ _ | refine blk_drew ?_ | refine blk_alloc ?_ _)); exact BK517.out⟩, ⟨by (with_reducible repeat (first | refine blk_drewN ?_ _ | refine blk_drew ?_ | refine blk_alloc ?_ _)); exact BK536.out⟩, ⟨by (with_reducible repeat (first | refine blk_drewN ?_ _ | refine blk_drew ?_ | refine blk_alloc ?_ _)); exact BK542.out⟩, ⟨by (with_reducible repeat (first | refine blk_drewN ?_ _ | refine blk_drew ?_ | refine blk_alloc ?_ _)); exact BK548.out⟩, ⟨by (with_reducible repeat (first | refine blk_drewN ?_ _ | refine blk_drew ?_ | refine blk_alloc ?_ _)); exact BK555.out⟩, ⟨q5_0⟩⟩
    ·replace c75 := Bool.eq_false_iff.mpr c75
     subst c75
     have H1 : (laws_FnExactTopJoin.j0 k t535 t554 true l0_0 a0_1 a0_2 l1_0 a1_1 a1_2 t530 t533 t534 t537 t540 t541 t543 t546 t547 t549 t552 t553) = some r := by rw [if_neg (show ¬ (false = true) by decide)] at H; exact H
     clear H;have H := H1;clear H1
     have H' := Aside0.mk H
     clear H;have hnb88 := NB555_516.out;have hnc88 := NB516_555.out;have hnb89 := NB555_517.out;have hnc89 := NB517_555.out;have hnb90 := NB555_536.out;have hnc90 := NB536_555.out;have hnb91 := NB555_542.out;have hnc91 := NB542_555.out;have hnb92 := NB555_548.out;have hnc92 := NB548_555.out;have hcz93_0 := z5bc BK555 0;have hcz93_1 := z5bc BK555 1;have hcz93_2 := z5bc BK555 2;have hfz93_0 := blk_frozen BK555.out 0;have hfz93_1 := blk_frozen BK555.out 1;have hfz93_2 := blk_frozen BK555.out 2;have hnb94 := NB536_516.out;have hnc94 := NB516_536.out;have hnb95 := NB536_517.out;have hnc95 := NB517_536.out;have hnb96 := NB536_542.out;have hnc96 := NB542_536.out;have hnb97 := NB536_548.out;have hnc97 := NB548_536.out;have hcz98_0 := z5bc BK536 0;have hcz98_1 := z5bc BK536 1;have hcz98_2 := z5bc BK536 2;have hfz98_0 := blk_frozen BK536.out 0;have hfz98_1 := blk_frozen BK536.out 1;have hfz98_2 := blk_frozen BK536.out 2
     go_wp2_with (first | ((with_reducible refine gate_callee (f := 15) rfl ?_); refine goesL_ (some 47) rfl rfl Try.func15 (by kernel_rfl) rfl #[.agg #[.slice Ao67 t549.length co67, .int .i64 t552, .int .i64 t553], .agg #[.slice Ao41 t530.length co41, .int .i64 t533, .int .i64 t534]] rfl q5_2 ?_; (with_reducible refine (laws_eqTop.calls k _ _ t549 t552 t553 _ _ t530 t533 t534 false _ ?side1 ?side2 ?side3 ?side4 A74.out).mono ?_); (case side1 => exact q5_97); (case side2 => exact (Kd.R_reads' HO551.out).2.1); (case side3 => exact q5_98); (case side4 => exact (Kd.R_reads' HO532.out).2.1); rintro e w99 ⟨rfl, hb⟩; refine ⟨_, rfl, ?_⟩; have n0_ := z5k (Kd.R_below q5_93 hb); have n1_ := z5k (Kd.R_below q5_94 hb); have n2_ := z5k (Kd.R_below q5_28 hb); have n3_ := z5k (Kd.R_below q5_95 hb); have n4_ := z5k (Kd.R_below q5_96 hb); have n5_ := z5k (Kd.R_below q5_27 hb); replace BK516 := z5k (blk_below (g := gb516) (o := .cells #[.slice A0_0 l0_0.length c0_0, .int .i64 a0_1, .int .i64 a0_2] 37 (0, 0)) q5_51 hb); replace BK517 := z5k (blk_below (g := gb517) (o := .cells #[.slice A1_0 l1_0.length c1_0, .int .i64 a1_1, .int .i64 a1_2] 37 (0, 0)) q5_52 hb); replace BK536 := z5k (blk_below (g := gb536) (o := .cells #[.slice Ao41 t530.length co41, .int .i64 t533, .int .i64 t534] 25 (0, 0)) q5_53 hb); replace BK542 := z5k (blk_below (g := gb542) (o := .cells #[.slice Ao49 t537.length co49, .int .i64 t540, .int .i64 t541] 25 (0, 0)) q5_54 hb); replace BK548 := z5k (blk_below (g := gb548) (o := .cells #[.slice Ao58 t543.length co58, .int .i64 t546, .int .i64 t547] 25 (0, 0)) q5_55 hb); replace BK555 := z5k (blk_below (g := gb555) (o := .cells #[.slice Ao67 t549.length co67, .int .i64 t552, .int .i64 t553] 25 (0, 0)) q5_41 hb); replace HB := z5k (below_step q5_0 hb); clear HO522; clear HO527; clear HO532; clear HO539; clear HO545; clear HO551; have HO522 := n0_; have HO527 := n1_; have HO532 := n2_; have HO539 := n3_; have HO545 := n4_; have HO551 := n5_; clear n0_ n1_ n2_ n3_ n4_ n5_; (try clear hb); (try clear hb2); (try clear hk); (try clear hi)))
     go_meet
     case rel => exact ⟨_, (true), q5_104, H', ⟨by first | omega | exact Nat.le_refl _⟩, ⟨by (with_reducible repeat (first | apply Kd.R_alloc | apply Kd.R_drewN | apply Kd.R_drew)); exact Kd.R_mono HO532.out (fun _ hk => ⟨hk.1.1.2, ⟨hk.1.2, hk.2⟩⟩)⟩, ⟨by (with_reducible repeat (first | apply Kd.R_alloc | apply Kd.R_drewN | apply Kd.R_drew)); exact Kd.R_mono HO539.out (fun _ hk => ⟨hk.1.1.2, ⟨hk.1.2, hk.2⟩⟩)⟩, ⟨by (with_reducible repeat (first | apply Kd.R_alloc | apply Kd.R_drewN | apply Kd.R_drew)); exact Kd.R_mono HO545.out (fun _ hk => ⟨hk.1.1.2, ⟨hk.1.2, hk.2⟩⟩)⟩, ⟨by (with_reducible repeat (first | apply Kd.R_alloc | apply Kd.R_drewN | apply Kd.R_drew)); exact Kd.R_mono HO551.out (fun _ hk => ⟨hk.1.1.2, ⟨hk.1.2, hk.2⟩⟩)⟩, ⟨by (with_reducible repeat (first | refine blk_drewN ?_ _ | refine blk_drew ?_ | refine blk_alloc ?_ _)); exact BK516.out⟩, ⟨by (with_reducible repeat (first | refine blk_drewN ?_ _ | refine blk_drew ?_ | refine blk_alloc ?_ _)); exact BK517.out⟩, ⟨by (with_reducible repeat (first | refine blk_drewN ?_ _ | refine blk_drew ?_ | refine blk_alloc ?_ _)); exact BK536.out⟩, ⟨by (with_reducible repeat (first | refine blk_drewN ?_ _ | refine blk_drew ?_ | refine blk_alloc ?_ _)); exact BK542.out⟩, ⟨by (with_reducible repeat (first | refine blk_drewN ?_ _ | refine blk_drew ?_ | refine blk_alloc ?_ _)); exact BK548.out⟩, ⟨by (with_reducible repeat (first | refine blk_drewN ?_ _ | refine blk_drew ?_ | refine blk_alloc ?_ _)); exact BK555.out⟩, ⟨q5_0⟩⟩
   case rest =>
    clear HC25
    try clear c1
    try clear p2
    try clear c4
    try clear c5
    try clear c6
    try clear c7
    try clear c8
    try clear c9
    try clear c14
    try clear c15
    try clear c18
    try clear c19
    try clear c45
    try clear c50
    try clear c51
    try clear c52
    try clear c54
    try clear c59
    try clear c60
    try clear c61
    try clear c62
    try clear c68
    try clear c69
    try clear c70
    try clear c71
    try clear c72
    try clear c75
    try clear c76
    try clear c77
    try clear c78
    try clear c79
    try clear c80
    try clear c82
    try clear c83
    try clear c84
    try clear c85
    try clear c88
    try clear c89
    try clear c90
    try clear c91
    try clear c92
    try clear c94
    try clear c95
    try clear c96
    try clear c97
    try clear hcz46_0
    try clear hcz46_1
    try clear hcz46_2
    try clear hcz53_0
    try clear hcz53_1
    try clear hcz53_2
    try clear hcz55_0
    try clear hcz55_1
    try clear hcz55_2
    try clear hcz63_0
    try clear hcz63_1
    try clear hcz63_2
    try clear hcz64_0
    try clear hcz64_1
    try clear hcz64_2
    try clear hcz73_0
    try clear hcz73_1
    try clear hcz73_2
    try clear hcz81_0
    try clear hcz81_1
    try clear hcz81_2
    try clear hcz86_0
    try clear hcz86_1
    try clear hcz86_2
    try clear hcz93_0
    try clear hcz93_1
    try clear hcz93_2
    try clear hcz98_0
    try clear hcz98_1
    try clear hcz98_2
    try clear hfz46_0
    try clear hfz46_1
    try clear hfz46_2
    try clear hfz53_0
    try clear hfz53_1
    try clear hfz53_2
    try clear hfz55_0
    try clear hfz55_1
    try clear hfz55_2
    try clear hfz63_0
    try clear hfz63_1
    try clear hfz63_2
    try clear hfz64_0
    try clear hfz64_1
    try clear hfz64_2
    try clear hfz73_0
    try clear hfz73_1
    try clear hfz73_2
    try clear hfz81_0
    try clear hfz81_1
    try clear hfz81_2
    try clear hfz86_0
    try clear hfz86_1
    try clear hfz86_2
    try clear hfz93_0
    try clear hfz93_1
    try clear hfz93_2
    try clear hfz98_0
    try clear hfz98_1
    try clear hfz98_2
    obtain ⟨kq, x53_24, rfl, HA, HJ24, HO_537000, HO_543000, HO_549000, HO_556000, BK516, BK517, BK536, BK542, BK548, BK555, HB⟩ := hcut
    cases kq with
    | zero => exact absurd HA.out (by simp [laws_FnExactTopJoin.j0])
    | succ kj24 =>
     have H := HA.out;clear HA
     simp only [laws_FnExactTopJoin.j0] at H
     by_cases c100 : x53_24 = true
     ·subst c100
      have H1 : (some false) = some r := by rw [if_pos rfl] at H; exact H
      clear H;have H := H1;clear H1
      obtain rfl := Option.some.inj H
      go_wp2
      go_ret
      exact ⟨q5_34, q5_0⟩
     ·replace c100 := Bool.eq_false_iff.mpr c100
      subst c100
      have H1 : ((laws_toTop.f kj24 l0_0 a0_1 a0_2).bind fun bt557 => ((laws_eqTop.f kj24 t537 t540 t541 bt557.1 bt557.2.1 bt557.2.2).bind fun t562 => (if t562 = true then ((laws_toTop.f kj24 l1_0 a1_1 a1_2).bind fun bt563 => ((laws_eqTop.f kj24 t543 t546 t547 bt563.1 bt563.2.1 bt563.2.2).bind fun t568 => (if t568 = true then ((laws_markTop.f kj24 t537 t540 t541 1).bind fun bt569 => ((laws_markTop.f kj24 t543 t546 t547 bt569.1).bind fun bt571 => (if bt571.1 < 0 then (laws_FnExactTopJoin.j1 kj24 t535 true l0_0 a0_1 a0_2 l1_0 a1_1 a1_2 t530 t533 t534 t549 t552 t553) else ((laws_eqTop.f kj24 t549 t552 t553 t530 t533 t534).bind fun t573 => (if t573 = true then (laws_FnExactTopJoin.j1 kj24 t535 (t554 != t535) l0_0 a0_1 a0_2 l1_0 a1_1 a1_2 t530 t533 t534 t549 t552 t553) else (laws_FnExactTopJoin.j1 kj24 t535 true l0_0 a0_1 a0_2 l1_0 a1_1 a1_2 t530 t533 t534 t549 t552 t553)))))) else (some false)))) else (some false)))) = some r := by rw [if_neg (show ¬ (false = true) by decide)] at H; exact H
      clear H;have H := H1;clear H1
      replace H := Option.bind_eq_some_iff.mp H
      obtain ⟨⟨t557, t560, t561⟩, A1010, H⟩ := H
      replace H : ((laws_eqTop.f kj24 t537 t540 t541 t557 t560 t561).bind fun t562 => (if t562 = true then ((laws_toTop.f kj24 l1_0 a1_1 a1_2).bind fun bt563 => ((laws_eqTop.f kj24 t543 t546 t547 bt563.1 bt563.2.1 bt563.2.2).bind fun t568 => (if t568 = true then ((laws_markTop.f kj24 t537 t540 t541 1).bind fun bt569 => ((laws_markTop.f kj24 t543 t546 t547 bt569.1).bind fun bt571 => (if bt571.1 < 0 then (laws_FnExactTopJoin.j1 kj24 t535 true l0_0 a0_1 a0_2 l1_0 a1_1 a1_2 t530 t533 t534 t549 t552 t553) else ((laws_eqTop.f kj24 t549 t552 t553 t530 t533 t534).bind fun t573 => (if t573 = true then (laws_FnExactTopJoin.j1 kj24 t535 (t554 != t535) l0_0 a0_1 a0_2 l1_0 a1_1 a1_2 t530 t533 t534 t549 t552 t553) else (laws_FnExactTopJoin.j1 kj24 t535 true l0_0 a0_1 a0_2 l1_0 a1_1 a1_2 t530 t533 t534 t549 t552 t553)))))) else (some false)))) else (some false))) = some r := H
      have A101 := Aside0.mk A1010;clear A1010
      replace H := Option.bind_eq_some_iff.mp H
      obtain ⟨t562, A1020, H⟩ := H
      replace H : (if t562 = true then ((laws_toTop.f kj24 l1_0 a1_1 a1_2).bind fun bt563 => ((laws_eqTop.f kj24 t543 t546 t547 bt563.1 bt563.2.1 bt563.2.2).bind fun t568 => (if t568 = true then ((laws_markTop.f kj24 t537 t540 t541 1).bind fun bt569 => ((laws_markTop.f kj24 t543 t546 t547 bt569.1).bind fun bt571 => (if bt571.1 < 0 then (laws_FnExactTopJoin.j1 kj24 t535 true l0_0 a0_1 a0_2 l1_0 a1_1 a1_2 t530 t533 t534 t549 t552 t553) else ((laws_eqTop.f kj24 t549 t552 t553 t530 t533 t534).bind fun t573 => (if t573 = true then (laws_FnExactTopJoin.j1 kj24 t535 (t554 != t535) l0_0 a0_1 a0_2 l1_0 a1_1 a1_2 t530 t533 t534 t549 t552 t553) else (laws_FnExactTopJoin.j1 kj24 t535 true l0_0 a0_1 a0_2 l1_0 a1_1 a1_2 t530 t533 t534 t549 t552 t553)))))) else (some false)))) else (some false)) = some r := H
      have A102 := Aside0.mk A1020;clear A1020
      by_cases c103 : t562 = true
      ·subst c103
       have H1 : ((laws_toTop.f kj24 l1_0 a1_1 a1_2).bind fun bt563 => ((laws_eqTop.f kj24 t543 t546 t547 bt563.1 bt563.2.1 bt563.2.2).bind fun t568 => (if t568 = true then ((laws_markTop.f kj24 t537 t540 t541 1).bind fun bt569 => ((laws_markTop.f kj24 t543 t546 t547 bt569.1).bind fun bt571 => (if bt571.1 < 0 then (laws_FnExactTopJoin.j1 kj24 t535 true l0_0 a0_1 a0_2 l1_0 a1_1 a1_2 t530 t533 t534 t549 t552 t553) else ((laws_eqTop.f kj24 t549 t552 t553 t530 t533 t534).bind fun t573 => (if t573 = true then (laws_FnExactTopJoin.j1 kj24 t535 (t554 != t535) l0_0 a0_1 a0_2 l1_0 a1_1 a1_2 t530 t533 t534 t549 t552 t553) else (laws_FnExactTopJoin.j1 kj24 t535 true l0_0 a0_1 a0_2 l1_0 a1_1 a1_2 t530 t533 t534 t549 t552 t553)))))) else (some false)))) = some r := by rw [if_pos rfl] at H; exact H
       clear H;have H := H1;clear H1
       replace H := Option.bind_eq_some_iff.mp H
       obtain ⟨⟨t563, t566, t567⟩, A1040, H⟩ := H
       replace H : ((laws_eqTop.f kj24 t543 t546 t547 t563 t566 t567).bind fun t568 => (if t568 = true then ((laws_markTop.f kj24 t537 t540 t541 1).bind fun bt569 => ((laws_markTop.f kj24 t543 t546 t547 bt569.1).bind fun bt571 => (if bt571.1 < 0 then (laws_FnExactTopJoin.j1 kj24 t535 true l0_0 a0_1 a0_2 l1_0 a1_1 a1_2 t530 t533 t534 t549 t552 t553) else ((laws_eqTop.f kj24 t549 t552 t553 t530 t533 t534).bind fun t573 => (if t573 = true then (laws_FnExactTopJoin.j1 kj24 t535 (t554 != t535) l0_0 a0_1 a0_2 l1_0 a1_1 a1_2 t530 t533 t534 t549 t552 t553) else (laws_FnExactTopJoin.j1 kj24 t535 true l0_0 a0_1 a0_2 l1_0 a1_1 a1_2 t530 t533 t534 t549 t552 t553)))))) else (some false))) = some r := H
       have A104 := Aside0.mk A1040;clear A1040
       replace H := Option.bind_eq_some_iff.mp H
       obtain ⟨t568, A1050, H⟩ := H
       replace H : (if t568 = true then ((laws_markTop.f kj24 t537 t540 t541 1).bind fun bt569 => ((laws_markTop.f kj24 t543 t546 t547 bt569.1).bind fun bt571 => (if bt571.1 < 0 then (laws_FnExactTopJoin.j1 kj24 t535 true l0_0 a0_1 a0_2 l1_0 a1_1 a1_2 t530 t533 t534 t549 t552 t553) else ((laws_eqTop.f kj24 t549 t552 t553 t530 t533 t534).bind fun t573 => (if t573 = true then (laws_FnExactTopJoin.j1 kj24 t535 (t554 != t535) l0_0 a0_1 a0_2 l1_0 a1_1 a1_2 t530 t533 t534 t549 t552 t553) else (laws_FnExactTopJoin.j1 kj24 t535 true l0_0 a0_1 a0_2 l1_0 a1_1 a1_2 t530 t533 t534 t549 t552 t553)))))) else (some false)) = some r := H
       have A105 := Aside0.mk A1050;clear A1050
       by_cases c106 : t568 = true
       ·subst c106
        have H1 : ((laws_markTop.f kj24 t537 t540 t541 1).bind fun bt569 => ((laws_markTop.f kj24 t543 t546 t547 bt569.1).bind fun bt571 => (if bt571.1 < 0 then (laws_FnExactTopJoin.j1 kj24 t535 true l0_0 a0_1 a0_2 l1_0 a1_1 a1_2 t530 t533 t534 t549 t552 t553) else ((laws_eqTop.f kj24 t549 t552 t553 t530 t533 t534).bind fun t573 => (if t573 = true then (laws_FnExactTopJoin.j1 kj24 t535 (t554 != t535) l0_0 a0_1 a0_2 l1_0 a1_1 a1_2 t530 t533 t534 t549 t552 t553) else (laws_FnExactTopJoin.j1 kj24 t535 true l0_0 a0_1 a0_2 l1_0 a1_1 a1_2 t530 t533 t534 t549 t552 t553)))))) = some r := by rw [if_pos rfl] at H; exact H
        clear H;have H := H1;clear H1
        replace H := Option.bind_eq_some_iff.mp H
        obtain ⟨⟨t569, t570⟩, A1070, H⟩ := H
        replace H : ((laws_markTop.f kj24 t543 t546 t547 t569).bind fun bt571 => (if bt571.1 < 0 then (laws_FnExactTopJoin.j1 kj24 t535 true l0_0 a0_1 a0_2 l1_0 a1_1 a1_2 t530 t533 t534 t549 t552 t553) else ((laws_eqTop.f kj24 t549 t552 t553 t530 t533 t534).bind fun t573 => (if t573 = true then (laws_FnExactTopJoin.j1 kj24 t535 (t554 != t535) l0_0 a0_1 a0_2 l1_0 a1_1 a1_2 t530 t533 t534 t549 t552 t553) else (laws_FnExactTopJoin.j1 kj24 t535 true l0_0 a0_1 a0_2 l1_0 a1_1 a1_2 t530 t533 t534 t549 t552 t553))))) = some r := H
        have A107 := Aside0.mk A1070;clear A1070
        replace H := Option.bind_eq_some_iff.mp H
        obtain ⟨⟨t571, t572⟩, A1080, H⟩ := H
        replace H : (if t571 < 0 then (laws_FnExactTopJoin.j1 kj24 t535 true l0_0 a0_1 a0_2 l1_0 a1_1 a1_2 t530 t533 t534 t549 t552 t553) else ((laws_eqTop.f kj24 t549 t552 t553 t530 t533 t534).bind fun t573 => (if t573 = true then (laws_FnExactTopJoin.j1 kj24 t535 (t554 != t535) l0_0 a0_1 a0_2 l1_0 a1_1 a1_2 t530 t533 t534 t549 t552 t553) else (laws_FnExactTopJoin.j1 kj24 t535 true l0_0 a0_1 a0_2 l1_0 a1_1 a1_2 t530 t533 t534 t549 t552 t553)))) = some r := H
        have A108 := Aside0.mk A1080;clear A1080;have HC109 := Aside0.mk H;clear H
        try go_wp2
        replace HO_537000 := z5k (Kd.R_drew HO_537000.out)
        replace HO_543000 := z5k (Kd.R_drew HO_543000.out)
        replace HO_549000 := z5k (Kd.R_drew HO_549000.out)
        replace HO_556000 := z5k (Kd.R_drew HO_556000.out)
        replace BK516 := z5k (blk_drew BK516.out)
        replace BK517 := z5k (blk_drew BK517.out)
        replace BK536 := z5k (blk_drew BK536.out)
        replace BK542 := z5k (blk_drew BK542.out)
        replace BK548 := z5k (blk_drew BK548.out)
        replace BK555 := z5k (blk_drew BK555.out)
        replace HB := z5k (below_drew1 HB.out)
        refine start_ (n := 5) (S := fun w' => w'.cell? ⟨gb542, 0, none⟩ = some (.slice Ao49 t537.length co49) ∧ w'.cell? ⟨gb542, 1, none⟩ = some (.int .i64 t540) ∧ w'.cell? ⟨gb542, 2, none⟩ = some (.int .i64 t541) ∧ w'.cell? ⟨gb516, 0, none⟩ = some (.slice A0_0 l0_0.length c0_0) ∧ w'.cell? ⟨gb516, 1, none⟩ = some (.int .i64 a0_1) ∧ w'.cell? ⟨gb516, 2, none⟩ = some (.int .i64 a0_2)) (ds := []) #[false, false, false, false, false] (by kernel_rfl) rfl rfl ⟨z5bc BK542 0, z5bc BK542 1, z5bc BK542 2, z5bc BK516 0, z5bc BK516 1, z5bc BK516 2⟩ (fun hHeld => ?_)
        generalize wc.drew = w110 at HO_537000 HO_543000 HO_549000 HO_556000 BK516 BK517 BK536 BK542 BK548 BK555 HB hHeld ⊢
        refine take_ (i := 0) (N := some 54) (v := ?_) (a' := ?_) #[true, false, false, false, false] rfl rfl (by kernel_rfl) (fun _ _ _ h => h) (Or.inl ⟨by rfl, ?_⟩) hHeld ?_ ?_;rotate_left
        ·rintro w' ⟨s0, s1, s2, s3, s4, s5⟩
         go_simp
         with_reducible rfl
        rotate_left
        ·simp only [Act.put, z5a, z5b, z5c, i64_w, i32_w]
         rfl
        refine take_ (i := 1) (N := some 55) (v := ?_) (a' := ?_) #[true, true, false, false, false] rfl rfl (by kernel_rfl) (fun _ _ _ h => h) (Or.inl ⟨by rfl, ?_⟩) hHeld ?_ ?_;rotate_left
        ·rintro w' ⟨s0, s1, s2, s3, s4, s5⟩
         go_simp
         with_reducible rfl
        rotate_left
        ·simp only [Act.put, z5a, z5b, z5c, i64_w, i32_w]
         rfl
        refine one_ (i := 2) (N := some 56) #[true, true, true, false, false] rfl rfl (by kernel_rfl) (by decide) (fun K hK => ?_);refine goes_ Try.func14 (by kernel_rfl) rfl #[.agg #[.slice A0_0 l0_0.length c0_0, .int .i64 a0_1, .int .i64 a0_2]] (by rfl) rfl rfl q5_2 ?_
        with_reducible refine (laws_toTop.calls kj24 _ _ l0_0 a0_1 a0_2 t557 t560 t561 _ ?side1 ?side2 A101.out).mono ?_
        (case side1 => exact q5_19);(case side2 => exact HC0_0.out);rintro e w111 ⟨v558, rfl, ho0, hb⟩;refine ⟨_, rfl, ?_⟩;have n4_ := z5k (Kd.R_lower (Kd.R_new' (Kd.R_new' (Kd.R_new' (Kd.R_new' ho0 (Kd.R_lt q5_5)) (Kd.R_lt q5_6)) (Kd.R_lt q5_7)) (Kd.R_lt q5_8)) (below_size q5_0))
        replace HO_537000 := z5k (Kd.R_elder' q5_5 (Kd.R_base ho0) hb)
        replace HO_543000 := z5k (Kd.R_elder' q5_6 (Kd.R_base ho0) hb)
        replace HO_549000 := z5k (Kd.R_elder' q5_7 (Kd.R_base ho0) hb)
        replace HO_556000 := z5k (Kd.R_elder' q5_8 (Kd.R_base ho0) hb)
        replace BK516 := z5bb BK516 hb
        replace BK517 := z5bb BK517 hb
        replace BK536 := z5bb BK536 hb
        replace BK542 := z5bb BK542 hb
        replace BK548 := z5bb BK548 hb
        replace BK555 := z5bb BK555 hb
        replace HB := z5k (below_step q5_0 hb)
        have HO559 := n4_;clear n4_;(try clear hb);(try clear hb2);(try clear hk);(try clear hi);(try clear ho0);obtain ⟨Ao112, co112, eo112⟩ := Kd.R_slice HO559.out;(first | subst eo112 | (injection eo112 with f1_ f2_ f3_; have f4_ := f1_.symm; have f5_ := f3_.symm; clear f1_ f2_ f3_; subst f4_; subst f5_));refine hK.out _ _ ⟨z5bc BK542 0, z5bc BK542 1, z5bc BK542 2, z5bc BK516 0, z5bc BK516 1, z5bc BK516 2⟩ (fun hHeld => ?_);clear hK K;refine norm_ (a' := ?_) ?_ ?_;rotate_left
        ·show Act.put _ (some 56) _ = _
         simp only [Act.put, z5a, z5b, z5c, i64_w, i32_w]
         rfl
        refine one_ (i := 3) (N := some 57) #[true, true, true, true, false] rfl rfl (by kernel_rfl) (by decide) (fun K hK => ?_);refine goes_ Try.func15 (by kernel_rfl) rfl #[.agg #[.slice Ao49 t537.length co49, .int .i64 t540, .int .i64 t541], .agg #[.slice Ao112 t557.length co112, .int .i64 t560, .int .i64 t561]] (by rfl) rfl rfl q5_2 ?_
        with_reducible refine (laws_eqTop.calls kj24 _ _ t537 t540 t541 _ _ t557 t560 t561 true _ ?side1 ?side2 ?side3 ?side4 A102.out).mono ?_
        (case side1 => exact q5_99);(case side2 => exact (Kd.R_reads' HO_543000.out).2.1);(case side3 => exact q5_100);(case side4 => exact (Kd.R_reads' HO559.out).2.1);rintro e w113 ⟨rfl, hb⟩;refine ⟨_, rfl, ?_⟩
        replace HO_537000 := z5k (Kd.R_below q5_5 hb)
        replace HO_543000 := z5k (Kd.R_below q5_6 hb)
        replace HO_549000 := z5k (Kd.R_below q5_7 hb)
        replace HO_556000 := z5k (Kd.R_below q5_8 hb)
        replace HO559 := z5k (Kd.R_below q5_33 hb)
        replace BK516 := z5bb BK516 hb
        replace BK517 := z5bb BK517 hb
        replace BK536 := z5bb BK536 hb
        replace BK542 := z5bb BK542 hb
        replace BK548 := z5bb BK548 hb
        replace BK555 := z5bb BK555 hb
        replace HB := z5k (below_step q5_0 hb)
        (try clear hb);(try clear hb2);(try clear hk);(try clear hi);refine hK.out _ _ ⟨z5bc BK542 0, z5bc BK542 1, z5bc BK542 2, z5bc BK516 0, z5bc BK516 1, z5bc BK516 2⟩ (fun hHeld => ?_);clear hK K;refine norm_ (a' := ?_) ?_ ?_;rotate_left
        ·show Act.put _ (some 57) _ = _
         simp only [Act.put, z5a, z5b, z5c, i64_w, i32_w]
         rfl
        refine pure_ (i := 4) (N := some 58) (v := ?_) (a' := ?_) #[true, true, true, true, true] rfl rfl (by kernel_rfl) (fun _ _ _ h => h) (Or.inl ⟨by rfl, ?_⟩) ?_ ?_;rotate_left
        ·intro w'
         go_simp
         with_reducible rfl
        rotate_left
        ·simp only [Act.put, z5a, z5b, z5c, i64_w, i32_w]
         rfl
        refine done_ (by kernel_rfl) ?_
        try go_wp2
        replace HO_537000 := z5k (Kd.R_drew HO_537000.out)
        replace HO_543000 := z5k (Kd.R_drew HO_543000.out)
        replace HO_549000 := z5k (Kd.R_drew HO_549000.out)
        replace HO_556000 := z5k (Kd.R_drew HO_556000.out)
        replace HO559 := z5k (Kd.R_drew HO559.out)
        replace BK516 := z5k (blk_drew BK516.out)
        replace BK517 := z5k (blk_drew BK517.out)
        replace BK536 := z5k (blk_drew BK536.out)
        replace BK542 := z5k (blk_drew BK542.out)
        replace BK548 := z5k (blk_drew BK548.out)
        replace BK555 := z5k (blk_drew BK555.out)
        replace HB := z5k (below_drew1 HB.out)
        refine start_ (n := 5) (S := fun w' => w'.cell? ⟨gb548, 0, none⟩ = some (.slice Ao58 t543.length co58) ∧ w'.cell? ⟨gb548, 1, none⟩ = some (.int .i64 t546) ∧ w'.cell? ⟨gb548, 2, none⟩ = some (.int .i64 t547) ∧ w'.cell? ⟨gb517, 0, none⟩ = some (.slice A1_0 l1_0.length c1_0) ∧ w'.cell? ⟨gb517, 1, none⟩ = some (.int .i64 a1_1) ∧ w'.cell? ⟨gb517, 2, none⟩ = some (.int .i64 a1_2)) (ds := []) #[false, false, false, false, false] (by kernel_rfl) rfl rfl ⟨z5bc BK548 0, z5bc BK548 1, z5bc BK548 2, z5bc BK517 0, z5bc BK517 1, z5bc BK517 2⟩ (fun hHeld => ?_)
        generalize w113.drew = w114 at HO_537000 HO_543000 HO_549000 HO_556000 HO559 BK516 BK517 BK536 BK542 BK548 BK555 HB hHeld ⊢
        refine take_ (i := 0) (N := some 59) (v := ?_) (a' := ?_) #[true, false, false, false, false] rfl rfl (by kernel_rfl) (fun _ _ _ h => h) (Or.inl ⟨by rfl, ?_⟩) hHeld ?_ ?_;rotate_left
        ·rintro w' ⟨s0, s1, s2, s3, s4, s5⟩
         go_simp
         with_reducible rfl
        rotate_left
        ·simp only [Act.put, z5a, z5b, z5c, i64_w, i32_w]
         rfl
        refine take_ (i := 1) (N := some 60) (v := ?_) (a' := ?_) #[true, true, false, false, false] rfl rfl (by kernel_rfl) (fun _ _ _ h => h) (Or.inl ⟨by rfl, ?_⟩) hHeld ?_ ?_;rotate_left
        ·rintro w' ⟨s0, s1, s2, s3, s4, s5⟩
         go_simp
         with_reducible rfl
        rotate_left
        ·simp only [Act.put, z5a, z5b, z5c, i64_w, i32_w]
         rfl
        refine one_ (i := 2) (N := some 61) #[true, true, true, false, false] rfl rfl (by kernel_rfl) (by decide) (fun K hK => ?_);refine goes_ Try.func14 (by kernel_rfl) rfl #[.agg #[.slice A1_0 l1_0.length c1_0, .int .i64 a1_1, .int .i64 a1_2]] (by rfl) rfl rfl q5_2 ?_
        with_reducible refine (laws_toTop.calls kj24 _ _ l1_0 a1_1 a1_2 t563 t566 t567 _ ?side1 ?side2 A104.out).mono ?_
        (case side1 => exact q5_20);(case side2 => exact HC1_0.out);rintro e w115 ⟨v564, rfl, ho0, hb⟩;refine ⟨_, rfl, ?_⟩;have n5_ := z5k (Kd.R_lower (Kd.R_new' (Kd.R_new' (Kd.R_new' (Kd.R_new' (Kd.R_new' ho0 (Kd.R_lt q5_5)) (Kd.R_lt q5_6)) (Kd.R_lt q5_7)) (Kd.R_lt q5_8)) (Kd.R_lt q5_33)) (below_size q5_0))
        replace HO_537000 := z5k (Kd.R_elder' q5_5 (Kd.R_base ho0) hb)
        replace HO_543000 := z5k (Kd.R_elder' q5_6 (Kd.R_base ho0) hb)
        replace HO_549000 := z5k (Kd.R_elder' q5_7 (Kd.R_base ho0) hb)
        replace HO_556000 := z5k (Kd.R_elder' q5_8 (Kd.R_base ho0) hb)
        replace HO559 := z5k (Kd.R_elder' q5_33 (Kd.R_base ho0) hb)
        replace BK516 := z5bb BK516 hb
        replace BK517 := z5bb BK517 hb
        replace BK536 := z5bb BK536 hb
        replace BK542 := z5bb BK542 hb
        replace BK548 := z5bb BK548 hb
        replace BK555 := z5bb BK555 hb
        replace HB := z5k (below_step q5_0 hb)
        have HO565 := n5_;clear n5_;(try clear hb);(try clear hb2);(try clear hk);(try clear hi);(try clear ho0);obtain ⟨Ao116, co116, eo116⟩ := Kd.R_slice HO565.out;(first | subst eo116 | (injection eo116 with f1_ f2_ f3_; have f4_ := f1_.symm; have f5_ := f3_.symm; clear f1_ f2_ f3_; subst f4_; subst f5_));refine hK.out _ _ ⟨z5bc BK548 0, z5bc BK548 1, z5bc BK548 2, z5bc BK517 0, z5bc BK517 1, z5bc BK517 2⟩ (fun hHeld => ?_);clear hK K;refine norm_ (a' := ?_) ?_ ?_;rotate_left
        ·show Act.put _ (some 61) _ = _
         simp only [Act.put, z5a, z5b, z5c, i64_w, i32_w]
         rfl
        refine one_ (i := 3) (N := some 62) #[true, true, true, true, false] rfl rfl (by kernel_rfl) (by decide) (fun K hK => ?_);refine goes_ Try.func15 (by kernel_rfl) rfl #[.agg #[.slice Ao58 t543.length co58, .int .i64 t546, .int .i64 t547], .agg #[.slice Ao116 t563.length co116, .int .i64 t566, .int .i64 t567]] (by rfl) rfl rfl q5_2 ?_
        with_reducible refine (laws_eqTop.calls kj24 _ _ t543 t546 t547 _ _ t563 t566 t567 true _ ?side1 ?side2 ?side3 ?side4 A105.out).mono ?_
        (case side1 => exact q5_110);(case side2 => exact (Kd.R_reads' HO_549000.out).2.1);(case side3 => exact q5_112);(case side4 => exact (Kd.R_reads' HO565.out).2.1);rintro e w117 ⟨rfl, hb⟩;refine ⟨_, rfl, ?_⟩
        replace HO_537000 := z5k (Kd.R_below q5_5 hb)
        replace HO_543000 := z5k (Kd.R_below q5_6 hb)
        replace HO_549000 := z5k (Kd.R_below q5_7 hb)
        replace HO_556000 := z5k (Kd.R_below q5_8 hb)
        replace HO559 := z5k (Kd.R_below q5_33 hb)
        replace HO565 := z5k (Kd.R_below q5_103 hb)
        replace BK516 := z5bb BK516 hb
        replace BK517 := z5bb BK517 hb
        replace BK536 := z5bb BK536 hb
        replace BK542 := z5bb BK542 hb
        replace BK548 := z5bb BK548 hb
        replace BK555 := z5bb BK555 hb
        replace HB := z5k (below_step q5_0 hb)
        (try clear hb);(try clear hb2);(try clear hk);(try clear hi);refine hK.out _ _ ⟨z5bc BK548 0, z5bc BK548 1, z5bc BK548 2, z5bc BK517 0, z5bc BK517 1, z5bc BK517 2⟩ (fun hHeld => ?_);clear hK K;refine norm_ (a' := ?_) ?_ ?_;rotate_left
        ·show Act.put _ (some 62) _ = _
         simp only [Act.put, z5a, z5b, z5c, i64_w, i32_w]
         rfl
        refine pure_ (i := 4) (N := some 63) (v := ?_) (a' := ?_) #[true, true, true, true, true] rfl rfl (by kernel_rfl) (fun _ _ _ h => h) (Or.inl ⟨by rfl, ?_⟩) ?_ ?_;rotate_left
        ·intro w'
         go_simp
         with_reducible rfl
        rotate_left
        ·simp only [Act.put, z5a, z5b, z5c, i64_w, i32_w]
         rfl
        refine done_ (by kernel_rfl) ?_;have hnb118 := NB542_516.out;have hnc118 := NB516_542.out;have hnb119 := NB542_517.out;have hnc119 := NB517_542.out;have hnb120 := NB542_536.out;have hnc120 := NB536_542.out;have hnb121 := NB542_548.out;have hnc121 := NB548_542.out;have hnb122 := NB542_555.out;have hnc122 := NB555_542.out;have hcz123_0 := z5bc BK542 0;have hcz123_1 := z5bc BK542 1;have hcz123_2 := z5bc BK542 2;have hfz123_0 := blk_frozen BK542.out 0;have hfz123_1 := blk_frozen BK542.out 1;have hfz123_2 := blk_frozen BK542.out 2
        go_upto_region 21 with (first | ((with_reducible refine gate_callee (f := 16) rfl ?_); refine goesL_ (some 66) rfl rfl Try.func16 (by kernel_rfl) rfl #[.agg #[.slice Ao49 t537.length co49, .int .i64 t540, .int .i64 t541], .int .i64 1] rfl q5_2 ?_; (with_reducible refine (laws_markTop.calls kj24 (fun k_ => some k_ = (.slice Ao49 t537.length co49 : Value).ownBlock) (.slice Ao49 t537.length co49) t537 t540 t541 1 t569 t570 w _ ?side1 ?side2 A107.out).mono ?_); (case side1 => exact q5_0); (case side2 => exact Kd.R_tight rfl HO_543000.out); rintro e w124 ⟨rfl, hy0, hb, hkp⟩; refine ⟨_, rfl, ?_⟩; have n4_ := z5k (blk_kept q5_9 hkp (fun hs_ => (fun e_ => (Kd.R_ne HO_543000.out BK516.out (by decide)) e_) hs_)); have n5_ := z5k (blk_kept q5_10 hkp (fun hs_ => (fun e_ => (Kd.R_ne HO_543000.out BK517.out (by decide)) e_) hs_)); have n6_ := z5k (blk_kept q5_11 hkp (fun hs_ => (fun e_ => (Kd.R_ne HO_543000.out BK536.out (by decide)) e_) hs_)); have n7_ := z5k (blk_kept q5_12 hkp (fun hs_ => (fun e_ => (Kd.R_ne HO_543000.out BK542.out (by decide)) e_) hs_)); have n8_ := z5k (blk_kept q5_13 hkp (fun hs_ => (fun e_ => (Kd.R_ne HO_543000.out BK548.out (by decide)) e_) hs_)); have n9_ := z5k (blk_kept q5_15 hkp (fun hs_ => (fun e_ => (Kd.R_ne HO_543000.out BK555.out (by decide)) e_) hs_)); replace HO_537000 := z5k (Kd.R_mono (ok' := fun k_ => some k_ ≠ (.slice Ao49 t537.length co49 : Value).ownBlock ∧ some k_ ≠ (.slice Ao58 t543.length co58 : Value).ownBlock ∧ some k_ ≠ (.slice Ao67 t549.length co67 : Value).ownBlock ∧ some k_ ≠ (.slice Ao112 t557.length co112 : Value).ownBlock ∧ some k_ ≠ (.slice Ao116 t563.length co116 : Value).ownBlock) (Kd.R_keptB (HO_537000.out) hkp (fun k_ hk_ hs_ => (hk_.1.1.1) hs_)) (fun k_ hk_ => ⟨hk_.1.1.1.1, hk_.1.1.1.2.1, hk_.1.1.1.2.2, hk_.1.1.2, hk_.1.2⟩)); replace HO_543000 := z5k (Kd.R_reok rfl hy0 (fun k_ e_ => HO_543000.out.1 k_ e_)); replace HO_549000 := z5k (Kd.R_mono (ok' := fun k_ => some k_ ≠ (.slice Ao41 t530.length co41 : Value).ownBlock ∧ some k_ ≠ (.slice Ao49 t537.length co49 : Value).ownBlock ∧ some k_ ≠ (.slice Ao67 t549.length co67 : Value).ownBlock ∧ some k_ ≠ (.slice Ao112 t557.length co112 : Value).ownBlock ∧ some k_ ≠ (.slice Ao116 t563.length co116 : Value).ownBlock) (Kd.R_keptB (HO_549000.out) hkp (fun k_ hk_ hs_ => (hk_.1.1.2.1) hs_)) (fun k_ hk_ => ⟨hk_.1.1.1.1, hk_.1.1.1.2.1, hk_.1.1.1.2.2, hk_.1.1.2, hk_.1.2⟩)); replace HO_556000 := z5k (Kd.R_mono (ok' := fun k_ => some k_ ≠ (.slice Ao41 t530.length co41 : Value).ownBlock ∧ some k_ ≠ (.slice Ao49 t537.length co49 : Value).ownBlock ∧ some k_ ≠ (.slice Ao58 t543.length co58 : Value).ownBlock ∧ some k_ ≠ (.slice Ao112 t557.length co112 : Value).ownBlock ∧ some k_ ≠ (.slice Ao116 t563.length co116 : Value).ownBlock) (Kd.R_keptB (HO_556000.out) hkp (fun k_ hk_ hs_ => (hk_.1.1.2.1) hs_)) (fun k_ hk_ => ⟨hk_.1.1.1.1, hk_.1.1.1.2.1, hk_.1.1.1.2.2, hk_.1.1.2, hk_.1.2⟩)); replace HO559 := z5k (Kd.R_mono (ok' := fun k_ => some k_ ≠ (.slice Ao41 t530.length co41 : Value).ownBlock ∧ some k_ ≠ (.slice Ao49 t537.length co49 : Value).ownBlock ∧ some k_ ≠ (.slice Ao58 t543.length co58 : Value).ownBlock ∧ some k_ ≠ (.slice Ao67 t549.length co67 : Value).ownBlock ∧ some k_ ≠ (.slice Ao116 t563.length co116 : Value).ownBlock) (Kd.R_keptB (HO559.out) hkp (fun k_ hk_ hs_ => (hk_.1.1.1.2) hs_)) (fun k_ hk_ => ⟨hk_.1.1.1.1.1.2, hk_.1.1.1.1.2, hk_.1.1.1.2, hk_.1.1.2, hk_.1.2⟩)); replace HO565 := z5k (Kd.R_mono (ok' := fun k_ => some k_ ≠ (.slice Ao41 t530.length co41 : Value).ownBlock ∧ some k_ ≠ (.slice Ao49 t537.length co49 : Value).ownBlock ∧ some k_ ≠ (.slice Ao58 t543.length co58 : Value).ownBlock ∧ some k_ ≠ (.slice Ao67 t549.length co67 : Value).ownBlock ∧ some k_ ≠ (.slice Ao112 t557.length co112 : Value).ownBlock) (Kd.R_keptB (HO565.out) hkp (fun k_ hk_ hs_ => (hk_.1.1.1.2) hs_)) (fun k_ hk_ => ⟨hk_.1.1.1.1.1.2, hk_.1.1.1.1.2, hk_.1.1.1.2, hk_.1.1.2, hk_.1.2⟩)); replace HB := z5k (hb); clear BK516; clear BK517; clear BK536; clear BK542; clear BK548; clear BK555; have BK516 := n4_; have BK517 := n5_; have BK536 := n6_; have BK542 := n7_; have BK548 := n8_; have BK555 := n9_; clear n4_ n5_ n6_ n7_ n8_ n9_; (try clear hb); (try clear hkp); (try clear hy0); have hnb125 := NB548_516.out; have hnc125 := NB516_548.out; have hnb126 := NB548_517.out; have hnc126 := NB517_548.out; have hnb127 := NB548_536.out; have hnc127 := NB536_548.out; have hnb128 := NB548_555.out; have hnc128 := NB555_548.out; have hcz129_0 := z5bc BK548 0; have hcz129_1 := z5bc BK548 1; have hcz129_2 := z5bc BK548 2; have hfz129_0 := blk_frozen BK548.out 0; have hfz129_1 := blk_frozen BK548.out 1; have hfz129_2 := blk_frozen BK548.out 2) | ((with_reducible refine gate_callee (f := 16) rfl ?_); refine goesL_ (some 69) rfl rfl Try.func16 (by kernel_rfl) rfl #[.agg #[.slice Ao58 t543.length co58, .int .i64 t546, .int .i64 t547], .int .i64 t569] rfl q5_2 ?_; (with_reducible refine (laws_markTop.calls kj24 (fun k_ => some k_ = (.slice Ao58 t543.length co58 : Value).ownBlock) (.slice Ao58 t543.length co58) t543 t546 t547 t569 t571 t572 w _ ?side1 ?side2 A108.out).mono ?_); (case side1 => exact q5_0); (case side2 => exact Kd.R_tight rfl HO_549000.out); rintro e w130 ⟨rfl, hy0, hb, hkp⟩; refine ⟨_, rfl, ?_⟩; have n4_ := z5k (blk_kept q5_9 hkp (fun hs_ => (fun e_ => (Kd.R_ne HO_549000.out BK516.out (by decide)) e_) hs_)); have n5_ := z5k (blk_kept q5_10 hkp (fun hs_ => (fun e_ => (Kd.R_ne HO_549000.out BK517.out (by decide)) e_) hs_)); have n6_ := z5k (blk_kept q5_11 hkp (fun hs_ => (fun e_ => (Kd.R_ne HO_549000.out BK536.out (by decide)) e_) hs_)); have n7_ := z5k (blk_kept q5_12 hkp (fun hs_ => (fun e_ => (Kd.R_ne HO_549000.out BK542.out (by decide)) e_) hs_)); have n8_ := z5k (blk_kept q5_13 hkp (fun hs_ => (fun e_ => (Kd.R_ne HO_549000.out BK548.out (by decide)) e_) hs_)); have n9_ := z5k (blk_kept q5_15 hkp (fun hs_ => (fun e_ => (Kd.R_ne HO_549000.out BK555.out (by decide)) e_) hs_)); replace HO_537000 := z5k (Kd.R_mono (ok' := fun k_ => some k_ ≠ (.slice Ao49 t537.length co49 : Value).ownBlock ∧ some k_ ≠ (.slice Ao58 t543.length co58 : Value).ownBlock ∧ some k_ ≠ (.slice Ao67 t549.length co67 : Value).ownBlock ∧ some k_ ≠ (.slice Ao112 t557.length co112 : Value).ownBlock ∧ some k_ ≠ (.slice Ao116 t563.length co116 : Value).ownBlock) (Kd.R_keptB (HO_537000.out) hkp (fun k_ hk_ hs_ => (hk_.2.1) hs_)) (fun k_ hk_ => ⟨hk_.1.1, hk_.1.2.1, hk_.1.2.2.1, hk_.1.2.2.2.1, hk_.1.2.2.2.2⟩)); replace HO_543000 := z5k (Kd.R_mono (ok' := fun k_ => some k_ ≠ (.slice Ao41 t530.length co41 : Value).ownBlock ∧ some k_ ≠ (.slice Ao58 t543.length co58 : Value).ownBlock ∧ some k_ ≠ (.slice Ao67 t549.length co67 : Value).ownBlock ∧ some k_ ≠ (.slice Ao112 t557.length co112 : Value).ownBlock ∧ some k_ ≠ (.slice Ao116 t563.length co116 : Value).ownBlock) (Kd.R_keptB (HO_543000.out) hkp (fun k_ hk_ hs_ => (hk_.1.1.2.1) hs_)) (fun k_ hk_ => ⟨hk_.1.1.1.1, hk_.1.1.1.2.1, hk_.1.1.1.2.2, hk_.1.1.2, hk_.1.2⟩)); replace HO_549000 := z5k (Kd.R_reok rfl hy0 (fun k_ e_ => HO_549000.out.1 k_ e_)); replace HO_556000 := z5k (Kd.R_mono (ok' := fun k_ => some k_ ≠ (.slice Ao41 t530.length co41 : Value).ownBlock ∧ some k_ ≠ (.slice Ao49 t537.length co49 : Value).ownBlock ∧ some k_ ≠ (.slice Ao58 t543.length co58 : Value).ownBlock ∧ some k_ ≠ (.slice Ao112 t557.length co112 : Value).ownBlock ∧ some k_ ≠ (.slice Ao116 t563.length co116 : Value).ownBlock) (Kd.R_keptB (HO_556000.out) hkp (fun k_ hk_ hs_ => (hk_.2.2.1) hs_)) (fun k_ hk_ => ⟨hk_.1.1, hk_.1.2.1, hk_.1.2.2.1, hk_.1.2.2.2.1, hk_.1.2.2.2.2⟩)); replace HO559 := z5k (Kd.R_mono (ok' := fun k_ => some k_ ≠ (.slice Ao41 t530.length co41 : Value).ownBlock ∧ some k_ ≠ (.slice Ao49 t537.length co49 : Value).ownBlock ∧ some k_ ≠ (.slice Ao58 t543.length co58 : Value).ownBlock ∧ some k_ ≠ (.slice Ao67 t549.length co67 : Value).ownBlock ∧ some k_ ≠ (.slice Ao116 t563.length co116 : Value).ownBlock) (Kd.R_keptB (HO559.out) hkp (fun k_ hk_ hs_ => (hk_.2.2.1) hs_)) (fun k_ hk_ => ⟨hk_.1.1, hk_.1.2.1, hk_.1.2.2.1, hk_.1.2.2.2.1, hk_.1.2.2.2.2⟩)); replace HO565 := z5k (Kd.R_mono (ok' := fun k_ => some k_ ≠ (.slice Ao41 t530.length co41 : Value).ownBlock ∧ some k_ ≠ (.slice Ao49 t537.length co49 : Value).ownBlock ∧ some k_ ≠ (.slice Ao58 t543.length co58 : Value).ownBlock ∧ some k_ ≠ (.slice Ao67 t549.length co67 : Value).ownBlock ∧ some k_ ≠ (.slice Ao112 t557.length co112 : Value).ownBlock) (Kd.R_keptB (HO565.out) hkp (fun k_ hk_ hs_ => (hk_.2.2.1) hs_)) (fun k_ hk_ => ⟨hk_.1.1, hk_.1.2.1, hk_.1.2.2.1, hk_.1.2.2.2.1, hk_.1.2.2.2.2⟩)); replace HB := z5k (hb); clear BK516; clear BK517; clear BK536; clear BK542; clear BK548; clear BK555; have BK516 := n4_; have BK517 := n5_; have BK536 := n6_; have BK542 := n7_; have BK548 := n8_; have BK555 := n9_; clear n4_ n5_ n6_ n7_ n8_ n9_; (try clear hb); (try clear hkp); (try clear hy0)))
        (try simp only [Act.put, z5a, z5b, z5c])
        go_cut [82] (fun v82 wc => ∃ (kq : Nat) (x82_108 : Bool), v82 = .bool x82_108 ∧ Aside0 (laws_FnExactTopJoin.j1 kq t535 x82_108 l0_0 a0_1 a0_2 l1_0 a1_1 a1_2 t530 t533 t534 t549 t552 t553 = some r) ∧ Aside0 (kq ≤ kj24) ∧ Aside0 (Kd.R k54 54 wc w.heap.size (fun k_ => some k_ ≠ ((.slice Ao49 t537.length co49) : Value).ownBlock ∧ some k_ ≠ ((.slice Ao58 t543.length co58) : Value).ownBlock ∧ some k_ ≠ ((.slice Ao67 t549.length co67) : Value).ownBlock) (.slice Ao41 t530.length co41) t530) ∧ Aside0 (Kd.R k54 54 wc w.heap.size (fun k_ => some k_ ≠ ((.slice Ao41 t530.length co41) : Value).ownBlock ∧ some k_ ≠ ((.slice Ao58 t543.length co58) : Value).ownBlock ∧ some k_ ≠ ((.slice Ao67 t549.length co67) : Value).ownBlock) (.slice Ao49 t537.length co49) t570) ∧ Aside0 (Kd.R k54 54 wc w.heap.size (fun k_ => some k_ ≠ ((.slice Ao41 t530.length co41) : Value).ownBlock ∧ some k_ ≠ ((.slice Ao49 t537.length co49) : Value).ownBlock ∧ some k_ ≠ ((.slice Ao67 t549.length co67) : Value).ownBlock) (.slice Ao58 t543.length co58) t572) ∧ Aside0 (Kd.R k54 54 wc w.heap.size (fun k_ => some k_ ≠ ((.slice Ao41 t530.length co41) : Value).ownBlock ∧ some k_ ≠ ((.slice Ao49 t537.length co49) : Value).ownBlock ∧ some k_ ≠ ((.slice Ao58 t543.length co58) : Value).ownBlock) (.slice Ao67 t549.length co67) t549) ∧ Aside0 (wc.heap[gb516]? = some (.cells #[(.slice A0_0 l0_0.length c0_0), .int .i64 a0_1, .int .i64 a0_2] 37 (0, 0))) ∧ Aside0 (wc.heap[gb517]? = some (.cells #[(.slice A1_0 l1_0.length c1_0), .int .i64 a1_1, .int .i64 a1_2] 37 (0, 0))) ∧ Aside0 (wc.heap[gb536]? = some (.cells #[(.slice Ao41 t530.length co41), .int .i64 t533, .int .i64 t534] 25 (0, 0))) ∧ Aside0 (wc.heap[gb542]? = some (.cells #[(.slice Ao49 t537.length co49), .int .i64 t540, .int .i64 t541] 25 (0, 0))) ∧ Aside0 (wc.heap[gb548]? = some (.cells #[(.slice Ao58 t543.length co58), .int .i64 t546, .int .i64 t547] 25 (0, 0))) ∧ Aside0 (wc.heap[gb555]? = some (.cells #[(.slice Ao67 t549.length co67), .int .i64 t552, .int .i64 t553] 25 (0, 0))) ∧ Aside0 (Below w.heap.size w wc))
        case first =>
         have H := HC109.out;clear HC109
         by_cases c131 : t571 < 0
         ·rw [if_pos c131] at H
          have c131b0 : decide (t571 < 0) = true := decide_eq_true c131
          clear c131;(first | rw [c131b0] | (simp only [i64_w, i32_w]; rw [c131b0]) | skip)
          have H' := Aside0.mk H
          clear H
          go_wp2
          go_meet
          case rel => exact ⟨_, (true), q5_104, H', ⟨by have := HJ24.out; first | omega | exact Nat.le_refl _⟩, ⟨by (with_reducible repeat (first | apply Kd.R_alloc | apply Kd.R_drewN | apply Kd.R_drew)); exact Kd.R_mono HO_537000.out (fun _ hk => ⟨hk.1, ⟨hk.2.1, hk.2.2.1⟩⟩)⟩, ⟨by (with_reducible repeat (first | apply Kd.R_alloc | apply Kd.R_drewN | apply Kd.R_drew)); exact Kd.R_mono HO_543000.out (fun _ hk => ⟨hk.1, ⟨hk.2.1, hk.2.2.1⟩⟩)⟩, ⟨by (with_reducible repeat (first | apply Kd.R_alloc | apply Kd.R_drewN | apply Kd.R_drew)); exact Kd.R_mono HO_549000.out (fun _ hk => ⟨hk.1, ⟨hk.2.1, hk.2.2.1⟩⟩)⟩, ⟨by (with_reducible repeat (first | apply Kd.R_alloc | apply Kd.R_drewN | apply Kd.R_drew)); exact Kd.R_mono HO_556000.out (fun _ hk => ⟨hk.1, ⟨hk.2.1, hk.2.2.1⟩⟩)⟩, ⟨by (with_reducible repeat (first | refine blk_drewN ?_ _ | refine blk_drew ?_ | refine blk_alloc ?_ _)); exact BK516.out⟩, ⟨by (with_reducible repeat (first | refine blk_drewN ?_ _ | refine blk_drew ?_ | refine blk_alloc ?_ _)); exact BK517.out⟩, ⟨by (with_reducible repeat (first | refine blk_drewN ?_ _ | refine blk_drew ?_ | refine blk_alloc ?_ _)); exact BK536.out⟩, ⟨by (with_reducible repeat (first | refine blk_drewN ?_ _ | refine blk_drew ?_ | refine blk_alloc ?_ _)); exact BK542.out⟩, ⟨by (with_reducible repeat (first | refine blk_drewN ?_ _ | refine blk_drew ?_ | refine blk_alloc ?_ _)); exact BK548.out⟩, ⟨by (with_reducible repeat (first | refine blk_drewN ?_ _ | refine blk_drew ?_ | refine blk_alloc ?_ _)); exact BK555.out⟩, ⟨q5_0⟩⟩
         ·rw [if_neg c131] at H
          have c131b0 : decide (t571 < 0) = false := decide_eq_false c131
          clear c131;(first | rw [c131b0] | (simp only [i64_w, i32_w]; rw [c131b0]) | skip)
          replace H := Option.bind_eq_some_iff.mp H
          obtain ⟨t573, A1320, H⟩ := H
          replace H : (if t573 = true then (laws_FnExactTopJoin.j1 kj24 t535 (t554 != t535) l0_0 a0_1 a0_2 l1_0 a1_1 a1_2 t530 t533 t534 t549 t552 t553) else (laws_FnExactTopJoin.j1 kj24 t535 true l0_0 a0_1 a0_2 l1_0 a1_1 a1_2 t530 t533 t534 t549 t552 t553)) = some r := H
          have A132 := Aside0.mk A1320;clear A1320
          by_cases c133 : t573 = true
          ·subst c133
           have H1 : (laws_FnExactTopJoin.j1 kj24 t535 (t554 != t535) l0_0 a0_1 a0_2 l1_0 a1_1 a1_2 t530 t533 t534 t549 t552 t553) = some r := by rw [if_pos rfl] at H; exact H
           clear H;have H := H1;clear H1
           have H' := Aside0.mk H
           clear H;have hnb134 := NB555_516.out;have hnc134 := NB516_555.out;have hnb135 := NB555_517.out;have hnc135 := NB517_555.out;have hnb136 := NB555_536.out;have hnc136 := NB536_555.out;have hnb137 := NB555_542.out;have hnc137 := NB542_555.out;have hnb138 := NB555_548.out;have hnc138 := NB548_555.out;have hcz139_0 := z5bc BK555 0;have hcz139_1 := z5bc BK555 1;have hcz139_2 := z5bc BK555 2;have hfz139_0 := blk_frozen BK555.out 0;have hfz139_1 := blk_frozen BK555.out 1;have hfz139_2 := blk_frozen BK555.out 2;have hnb140 := NB536_516.out;have hnc140 := NB516_536.out;have hnb141 := NB536_517.out;have hnc141 := NB517_536.out;have hnb142 := NB536_542.out;have hnc142 := NB542_536.out;have hnb143 := NB536_548.out;have hnc143 := NB548_536.out;have hcz144_0 := z5bc BK536 0;have hcz144_1 := z5bc BK536 1;have hcz144_2 := z5bc BK536 2;have hfz144_0 := blk_frozen BK536.out 0;have hfz144_1 := blk_frozen BK536.out 1;have hfz144_2 := blk_frozen BK536.out 2
           go_wp2_with (first | (go_at_call 15; (with_reducible refine (laws_eqTop.calls kj24 _ _ t549 t552 t553 _ _ t530 t533 t534 true _ ?side1 ?side2 ?side3 ?side4 A132.out).mono ?_); (case side1 => exact q5_29); (case side2 => exact (Kd.R_reads' HO_556000.out).2.1); (case side3 => exact q5_111); (case side4 => exact (Kd.R_reads' HO_537000.out).2.1); rintro e w145 ⟨rfl, hb⟩; replace HO_537000 := z5k (Kd.R_below q5_5 hb); replace HO_543000 := z5k (Kd.R_below q5_6 hb); replace HO_549000 := z5k (Kd.R_below q5_7 hb); replace HO_556000 := z5k (Kd.R_below q5_8 hb); replace HO559 := z5k (Kd.R_below q5_33 hb); replace HO565 := z5k (Kd.R_below q5_103 hb); replace BK516 := z5bb BK516 hb; replace BK517 := z5bb BK517 hb; replace BK536 := z5bb BK536 hb; replace BK542 := z5bb BK542 hb; replace BK548 := z5bb BK548 hb; replace BK555 := z5bb BK555 hb; replace HB := z5k (below_step q5_0 hb); (try clear hb); (try clear hb2); (try clear hk); (try clear hi)))
           go_meet
           case rel => exact ⟨_, ((t554 != t535)), q5_104, H', ⟨by have := HJ24.out; first | omega | exact Nat.le_refl _⟩, ⟨by (with_reducible repeat (first | apply Kd.R_alloc | apply Kd.R_drewN | apply Kd.R_drew)); exact Kd.R_mono HO_537000.out (fun _ hk => ⟨hk.1, ⟨hk.2.1, hk.2.2.1⟩⟩)⟩, ⟨by (with_reducible repeat (first | apply Kd.R_alloc | apply Kd.R_drewN | apply Kd.R_drew)); exact Kd.R_mono HO_543000.out (fun _ hk => ⟨hk.1, ⟨hk.2.1, hk.2.2.1⟩⟩)⟩, ⟨by (with_reducible repeat (first | apply Kd.R_alloc | apply Kd.R_drewN | apply Kd.R_drew)); exact Kd.R_mono HO_549000.out (fun _ hk => ⟨hk.1, ⟨hk.2.1, hk.2.2.1⟩⟩)⟩, ⟨by (with_reducible repeat (first | apply Kd.R_alloc | apply Kd.R_drewN | apply Kd.R_drew)); exact Kd.R_mono HO_556000.out (fun _ hk => ⟨hk.1, ⟨hk.2.1, hk.2.2.1⟩⟩)⟩, ⟨by (with_reducible repeat (first | refine blk_drewN ?_ _ | refine blk_drew ?_ | refine blk_alloc ?_ _)); exact BK516.out⟩, ⟨by (with_reducible repeat (first | refine blk_drewN ?_ _ | refine blk_drew ?_ | refine blk_alloc ?_ _)); exact BK517.out⟩, ⟨by (with_reducible repeat (first | refine blk_drewN ?_ _ | refine blk_drew ?_ | refine blk_alloc ?_ _)); exact BK536.out⟩, ⟨by (with_reducible repeat (first | refine blk_drewN ?_ _ | refine blk_drew ?_ | refine blk_alloc ?_ _)); exact BK542.out⟩, ⟨by (with_reducible repeat (first | refine blk_drewN ?_ _ | refine blk_drew ?_ | refine blk_alloc ?_ _)); exact BK548.out⟩, ⟨by (with_reducible repeat (first | refine blk_drewN ?_ _ | refine blk_drew ?_ | refine blk_alloc ?_ _)); exact BK555.out⟩, ⟨q5_0⟩⟩
          ·replace c133 := Bool.eq_false_iff.mpr c133
           subst c133
           have H1 : (laws_FnExactTopJoin.j1 kj24 t535 true l0_0 a0_1 a0_2 l1_0 a1_1 a1_2 t530 t533 t534 t549 t552 t553) = some r := by rw [if_neg (show ¬ (false = true) by decide)] at H; exact H
           clear H;have H := H1;clear H1
           have H' := Aside0.mk H
           clear H;have hnb146 := NB555_516.out;have hnc146 := NB516_555.out;have hnb147 := NB555_517.out;have hnc147 := NB517_555.out;have hnb148 := NB555_536.out;have hnc148 := NB536_555.out;have hnb149 := NB555_542.out;have hnc149 := NB542_555.out;have hnb150 := NB555_548.out;have hnc150 := NB548_555.out;have hcz151_0 := z5bc BK555 0;have hcz151_1 := z5bc BK555 1;have hcz151_2 := z5bc BK555 2;have hfz151_0 := blk_frozen BK555.out 0;have hfz151_1 := blk_frozen BK555.out 1;have hfz151_2 := blk_frozen BK555.out 2;have hnb152 := NB536_516.out;have hnc152 := NB516_536.out;have hnb153 := NB536_517.out;have hnc153 := NB517_536.out;have hnb154 := NB536_542.out;have hnc154 := NB542_536.out;have hnb155 := NB536_548.out;have hnc155 := NB548_536.out;have hcz156_0 := z5bc BK536 0;have hcz156_1 := z5bc BK536 1;have hcz156_2 := z5bc BK536 2;have hfz156_0 := blk_frozen BK536.out 0;have hfz156_1 := blk_frozen BK536.out 1;have hfz156_2 := blk_frozen BK536.out 2
           go_wp2_with (first | (go_at_call 15; (with_reducible refine (laws_eqTop.calls kj24 _ _ t549 t552 t553 _ _ t530 t533 t534 false _ ?side1 ?side2 ?side3 ?side4 A132.out).mono ?_); (case side1 => exact q5_29); (case side2 => exact (Kd.R_reads' HO_556000.out).2.1); (case side3 => exact q5_111); (case side4 => exact (Kd.R_reads' HO_537000.out).2.1); rintro e w157 ⟨rfl, hb⟩; replace HO_537000 := z5k (Kd.R_below q5_5 hb); replace HO_543000 := z5k (Kd.R_below q5_6 hb); replace HO_549000 := z5k (Kd.R_below q5_7 hb); replace HO_556000 := z5k (Kd.R_below q5_8 hb); replace HO559 := z5k (Kd.R_below q5_33 hb); replace HO565 := z5k (Kd.R_below q5_103 hb); replace BK516 := z5bb BK516 hb; replace BK517 := z5bb BK517 hb; replace BK536 := z5bb BK536 hb; replace BK542 := z5bb BK542 hb; replace BK548 := z5bb BK548 hb; replace BK555 := z5bb BK555 hb; replace HB := z5k (below_step q5_0 hb); (try clear hb); (try clear hb2); (try clear hk); (try clear hi)))
           go_meet
           case rel => exact ⟨_, (true), q5_104, H', ⟨by have := HJ24.out; first | omega | exact Nat.le_refl _⟩, ⟨by (with_reducible repeat (first | apply Kd.R_alloc | apply Kd.R_drewN | apply Kd.R_drew)); exact Kd.R_mono HO_537000.out (fun _ hk => ⟨hk.1, ⟨hk.2.1, hk.2.2.1⟩⟩)⟩, ⟨by (with_reducible repeat (first | apply Kd.R_alloc | apply Kd.R_drewN | apply Kd.R_drew)); exact Kd.R_mono HO_543000.out (fun _ hk => ⟨hk.1, ⟨hk.2.1, hk.2.2.1⟩⟩)⟩, ⟨by (with_reducible repeat (first | apply Kd.R_alloc | apply Kd.R_drewN | apply Kd.R_drew)); exact Kd.R_mono HO_549000.out (fun _ hk => ⟨hk.1, ⟨hk.2.1, hk.2.2.1⟩⟩)⟩, ⟨by (with_reducible repeat (first | apply Kd.R_alloc | apply Kd.R_drewN | apply Kd.R_drew)); exact Kd.R_mono HO_556000.out (fun _ hk => ⟨hk.1, ⟨hk.2.1, hk.2.2.1⟩⟩)⟩, ⟨by (with_reducible repeat (first | refine blk_drewN ?_ _ | refine blk_drew ?_ | refine blk_alloc ?_ _)); exact BK516.out⟩, ⟨by (with_reducible repeat (first | refine blk_drewN ?_ _ | refine blk_drew ?_ | refine blk_alloc ?_ _)); exact BK517.out⟩, ⟨by (with_reducible repeat (first | refine blk_drewN ?_ _ | refine blk_drew ?_ | refine blk_alloc ?_ _)); exact BK536.out⟩, ⟨by (with_reducible repeat (first | refine blk_drewN ?_ _ | refine blk_drew ?_ | refine blk_alloc ?_ _)); exact BK542.out⟩, ⟨by (with_reducible repeat (first | refine blk_drewN ?_ _ | refine blk_drew ?_ | refine blk_alloc ?_ _)); exact BK548.out⟩, ⟨by (with_reducible repeat (first | refine blk_drewN ?_ _ | refine blk_drew ?_ | refine blk_alloc ?_ _)); exact BK555.out⟩, ⟨q5_0⟩⟩
        case rest =>
         clear HC109
         try clear c1
         try clear p2
         try clear c10
         try clear c11
         try clear c12
         try clear c13
         try clear c14
         try clear c15
         try clear c16
         try clear c100
         try clear c103
         try clear c106
         try clear c118
         try clear c119
         try clear c120
         try clear c121
         try clear c122
         try clear c125
         try clear c126
         try clear c127
         try clear c128
         try clear c131
         try clear c131b0
         try clear c133
         try clear c134
         try clear c135
         try clear c136
         try clear c137
         try clear c138
         try clear c140
         try clear c141
         try clear c142
         try clear c143
         try clear c146
         try clear c147
         try clear c148
         try clear c149
         try clear c150
         try clear c152
         try clear c153
         try clear c154
         try clear c155
         try clear hcz123_0
         try clear hcz123_1
         try clear hcz123_2
         try clear hcz129_0
         try clear hcz129_1
         try clear hcz129_2
         try clear hcz139_0
         try clear hcz139_1
         try clear hcz139_2
         try clear hcz144_0
         try clear hcz144_1
         try clear hcz144_2
         try clear hcz151_0
         try clear hcz151_1
         try clear hcz151_2
         try clear hcz156_0
         try clear hcz156_1
         try clear hcz156_2
         try clear hcz64_1
         try clear hcz64_2
         try clear hcz73_0
         try clear hcz73_1
         try clear hcz73_2
         try clear hcz81_0
         try clear hcz81_1
         try clear hcz81_2
         try clear hcz86_0
         try clear hcz86_1
         try clear hcz86_2
         try clear hcz93_0
         try clear hcz93_1
         try clear hcz93_2
         try clear hcz98_0
         try clear hcz98_1
         try clear hcz98_2
         try clear hfz123_0
         try clear hfz123_1
         try clear hfz123_2
         try clear hfz129_0
         try clear hfz129_1
         try clear hfz129_2
         try clear hfz139_0
         try clear hfz139_1
         try clear hfz139_2
         try clear hfz144_0
         try clear hfz144_1
         try clear hfz144_2
         try clear hfz151_0
         try clear hfz151_1
         try clear hfz151_2
         try clear hfz156_0
         try clear hfz156_1
         try clear hfz156_2
         try clear hfz46_0
         try clear hfz46_1
         try clear hfz46_2
         try clear hfz53_0
         try clear hfz53_1
         try clear hfz53_2
         try clear hfz55_0
         try clear hfz55_1
         try clear hfz55_2
         try clear hfz63_0
         try clear hfz63_1
         try clear hfz63_2
         try clear hfz64_0
         try clear hfz64_1
         try clear hfz64_2
         try clear hfz73_0
         try clear hfz73_1
         try clear hfz73_2
         try clear hfz81_0
         try clear hfz81_1
         try clear hfz81_2
         try clear hfz86_0
         try clear hfz86_1
         try clear hfz86_2
         try clear hfz93_0
         try clear hfz93_1
         try clear hfz93_2
         try clear hfz98_0
         try clear hfz98_1
         try clear hfz98_2
         obtain ⟨kq, x82_108, rfl, HA, HJ108, HO_537000, HO_543000, HO_549000, HO_556000, BK516, BK517, BK536, BK542, BK548, BK555, HB⟩ := hcut;have hl543000_108 := (Kd.R_reads' HO_543000.out).1
         rw [hl543000_108] at HO_543000
         (try simp only [hl543000_108])
         (try simp only [hl543000_108] at BK516)
         (try simp only [hl543000_108] at BK517)
         (try simp only [hl543000_108] at BK536)
         (try simp only [hl543000_108] at BK542)
         (try simp only [hl543000_108] at BK548)
         (try simp only [hl543000_108] at BK555)
         (try simp only [hl543000_108] at HO_537000)
         (try simp only [hl543000_108] at HO_549000)
         (try simp only [hl543000_108] at HO_556000)
         have hl549000_108 := (Kd.R_reads' HO_549000.out).1
         rw [hl549000_108] at HO_549000
         (try simp only [hl549000_108])
         (try simp only [hl549000_108] at BK516)
         (try simp only [hl549000_108] at BK517)
         (try simp only [hl549000_108] at BK536)
         (try simp only [hl549000_108] at BK542)
         (try simp only [hl549000_108] at BK548)
         (try simp only [hl549000_108] at BK555)
         (try simp only [hl549000_108] at HO_537000)
         (try simp only [hl549000_108] at HO_543000)
         (try simp only [hl549000_108] at HO_556000)
         cases kq with
         | zero => exact absurd HA.out (by simp [laws_FnExactTopJoin.j1])
         | succ kj108 =>
          have H := HA.out;clear HA
          simp only [laws_FnExactTopJoin.j1] at H
          by_cases c158 : x82_108 = true
          ·subst c158
           have H1 : (some false) = some r := by rw [if_pos rfl] at H; exact H
           clear H;have H := H1;clear H1
           obtain rfl := Option.some.inj H
           go_wp2
           go_ret
           exact ⟨q5_34, q5_0⟩
          ·replace c158 := Bool.eq_false_iff.mpr c158
           subst c158
           have H1 : ((laws_markTop.f kj108 t549 t552 t553 1).bind fun bt574 => ((laws_heldTop.f kj108 bt574.2 t552 t553 1).bind fun t576 => (if t576 < 0 then (some false) else (if t576 = bt574.1 then ((laws_toTop.f kj108 l0_0 a0_1 a0_2).bind fun bt577 => ((laws_toTop.f kj108 l1_0 a1_1 a1_2).bind fun bt582 => ((impl_TopJoin.f kj108 bt577.1 bt577.2.1 bt577.2.2 bt582.1 bt582.2.1 bt582.2.2).bind fun bt587 => ((laws_eqTop.f kj108 bt587.1 bt587.2.1 bt587.2.2.1 t530 t533 t534).bind fun t594 => (if t594 = true then (laws_FnExactTopJoin.j2 kj108 bt574.1 (bt587.2.2.2 != t535) bt574.2 t552 t553) else (laws_FnExactTopJoin.j2 kj108 bt574.1 true bt574.2 t552 t553)))))) else (some false))))) = some r := by rw [if_neg (show ¬ (false = true) by decide)] at H; exact H
           clear H;have H := H1;clear H1
           replace H := Option.bind_eq_some_iff.mp H
           obtain ⟨⟨t574, t575⟩, A1590, H⟩ := H
           replace H : ((laws_heldTop.f kj108 t575 t552 t553 1).bind fun t576 => (if t576 < 0 then (some false) else (if t576 = t574 then ((laws_toTop.f kj108 l0_0 a0_1 a0_2).bind fun bt577 => ((laws_toTop.f kj108 l1_0 a1_1 a1_2).bind fun bt582 => ((impl_TopJoin.f kj108 bt577.1 bt577.2.1 bt577.2.2 bt582.1 bt582.2.1 bt582.2.2).bind fun bt587 => ((laws_eqTop.f kj108 bt587.1 bt587.2.1 bt587.2.2.1 t530 t533 t534).bind fun t594 => (if t594 = true then (laws_FnExactTopJoin.j2 kj108 t574 (bt587.2.2.2 != t535) t575 t552 t553) else (laws_FnExactTopJoin.j2 kj108 t574 true t575 t552 t553)))))) else (some false)))) = some r := H
           have A159 := Aside0.mk A1590;clear A1590
           replace H := Option.bind_eq_some_iff.mp H
           obtain ⟨t576, A1600, H⟩ := H
           replace H : (if t576 < 0 then (some false) else (if t576 = t574 then ((laws_toTop.f kj108 l0_0 a0_1 a0_2).bind fun bt577 => ((laws_toTop.f kj108 l1_0 a1_1 a1_2).bind fun bt582 => ((impl_TopJoin.f kj108 bt577.1 bt577.2.1 bt577.2.2 bt582.1 bt582.2.1 bt582.2.2).bind fun bt587 => ((laws_eqTop.f kj108 bt587.1 bt587.2.1 bt587.2.2.1 t530 t533 t534).bind fun t594 => (if t594 = true then (laws_FnExactTopJoin.j2 kj108 t574 (bt587.2.2.2 != t535) t575 t552 t553) else (laws_FnExactTopJoin.j2 kj108 t574 true t575 t552 t553)))))) else (some false))) = some r := H
           have A160 := Aside0.mk A1600;clear A1600
           by_cases c161 : t576 < 0
           ·rw [if_pos c161] at H
            have c161b0 : decide (t576 < 0) = true := decide_eq_true c161
            clear c161
            obtain rfl := Option.some.inj H
            have hnb162 := NB555_516.out;have hnc162 := NB516_555.out;have hnb163 := NB555_517.out;have hnc163 := NB517_555.out;have hnb164 := NB555_536.out;have hnc164 := NB536_555.out;have hnb165 := NB555_542.out;have hnc165 := NB542_555.out;have hnb166 := NB555_548.out;have hnc166 := NB548_555.out;have hcz167_0 := z5bc BK555 0;have hcz167_1 := z5bc BK555 1;have hcz167_2 := z5bc BK555 2;have hfz167_0 := blk_frozen BK555.out 0;have hfz167_1 := blk_frozen BK555.out 1;have hfz167_2 := blk_frozen BK555.out 2
            go_wp2_with (first | ((with_reducible refine gate_callee (f := 16) rfl ?_); refine goesL_ (some 85) rfl rfl Try.func16 (by kernel_rfl) rfl #[.agg #[.slice Ao67 t549.length co67, .int .i64 t552, .int .i64 t553], .int .i64 1] rfl q5_2 ?_; (with_reducible refine (laws_markTop.calls kj108 (fun k_ => some k_ = (.slice Ao67 t549.length co67 : Value).ownBlock) (.slice Ao67 t549.length co67) t549 t552 t553 1 t574 t575 w _ ?side1 ?side2 A159.out).mono ?_); (case side1 => exact q5_0); (case side2 => exact Kd.R_tight rfl HO_556000.out); rintro e w168 ⟨rfl, hy0, hb, hkp⟩; refine ⟨_, rfl, ?_⟩; have n4_ := z5k (blk_kept q5_9 hkp (fun hs_ => (fun e_ => (Kd.R_ne HO_556000.out BK516.out (by decide)) e_) hs_)); have n5_ := z5k (blk_kept q5_10 hkp (fun hs_ => (fun e_ => (Kd.R_ne HO_556000.out BK517.out (by decide)) e_) hs_)); have n6_ := z5k (blk_kept q5_11 hkp (fun hs_ => (fun e_ => (Kd.R_ne HO_556000.out BK536.out (by decide)) e_) hs_)); have n7_ := z5k (blk_kept q5_12 hkp (fun hs_ => (fun e_ => (Kd.R_ne HO_556000.out BK542.out (by decide)) e_) hs_)); have n8_ := z5k (blk_kept q5_13 hkp (fun hs_ => (fun e_ => (Kd.R_ne HO_556000.out BK548.out (by decide)) e_) hs_)); have n9_ := z5k (blk_kept q5_15 hkp (fun hs_ => (fun e_ => (Kd.R_ne HO_556000.out BK555.out (by decide)) e_) hs_)); replace HO_537000 := z5k (Kd.R_mono (ok' := fun k_ => some k_ ≠ (.slice Ao49 t570.length co49 : Value).ownBlock ∧ some k_ ≠ (.slice Ao58 t572.length co58 : Value).ownBlock ∧ some k_ ≠ (.slice Ao67 t549.length co67 : Value).ownBlock) (Kd.R_keptB (HO_537000.out) hkp (fun k_ hk_ hs_ => (hk_.2.2) hs_)) (fun k_ hk_ => ⟨hk_.1.1, hk_.1.2.1, hk_.1.2.2⟩)); replace HO_543000 := z5k (Kd.R_mono (ok' := fun k_ => some k_ ≠ (.slice Ao41 t530.length co41 : Value).ownBlock ∧ some k_ ≠ (.slice Ao58 t572.length co58 : Value).ownBlock ∧ some k_ ≠ (.slice Ao67 t549.length co67 : Value).ownBlock) (Kd.R_keptB (HO_543000.out) hkp (fun k_ hk_ hs_ => (hk_.2.2) hs_)) (fun k_ hk_ => ⟨hk_.1.1, hk_.1.2.1, hk_.1.2.2⟩)); replace HO_549000 := z5k (Kd.R_mono (ok' := fun k_ => some k_ ≠ (.slice Ao41 t530.length co41 : Value).ownBlock ∧ some k_ ≠ (.slice Ao49 t570.length co49 : Value).ownBlock ∧ some k_ ≠ (.slice Ao67 t549.length co67 : Value).ownBlock) (Kd.R_keptB (HO_549000.out) hkp (fun k_ hk_ hs_ => (hk_.2.2) hs_)) (fun k_ hk_ => ⟨hk_.1.1, hk_.1.2.1, hk_.1.2.2⟩)); replace HO_556000 := z5k (Kd.R_reok rfl hy0 (fun k_ e_ => HO_556000.out.1 k_ e_)); replace HB := z5k (hb); clear BK516; clear BK517; clear BK536; clear BK542; clear BK548; clear BK555; have BK516 := n4_; have BK517 := n5_; have BK536 := n6_; have BK542 := n7_; have BK548 := n8_; have BK555 := n9_; clear n4_ n5_ n6_ n7_ n8_ n9_; (try clear hb); (try clear hkp); (try clear hy0); have hcz169_0 := z5bc BK555 0; have hcz169_1 := z5bc BK555 1; have hcz169_2 := z5bc BK555 2; have hfz169_0 := blk_frozen BK555.out 0; have hfz169_1 := blk_frozen BK555.out 1; have hfz169_2 := blk_frozen BK555.out 2) | ((with_reducible refine gate_callee (f := 17) rfl ?_); refine goesL_ (some 88) rfl rfl Try.func17 (by kernel_rfl) rfl #[.agg #[.slice Ao67 t575.length co67, .int .i64 t552, .int .i64 t553], .int .i64 1] rfl q5_68 ?_; (with_reducible refine (laws_heldTop.calls kj108 _ _ t575 t552 t553 1 t576 _ ?side1 ?side2 A160.out).mono ?_); (case side1 => exact q5_29); (case side2 => exact q5_105); rintro e w170 ⟨rfl, hb⟩; refine ⟨_, rfl, ?_⟩; replace HO_537000 := z5k (Kd.R_below q5_5 hb); replace HO_543000 := z5k (Kd.R_below q5_6 hb); replace HO_549000 := z5k (Kd.R_below q5_7 hb); replace HO_556000 := z5k (Kd.R_below q5_8 hb); replace BK516 := z5bb BK516 hb; replace BK517 := z5bb BK517 hb; replace BK536 := z5bb BK536 hb; replace BK542 := z5bb BK542 hb; replace BK548 := z5bb BK548 hb; replace BK555 := z5bb BK555 hb; replace HB := z5k (below_step q5_0 hb); (try clear hb); (try clear hb2); (try clear hk); (try clear hi)))
            go_ret
            exact ⟨q5_34, q5_0⟩
           ·rw [if_neg c161] at H
            have c161b0 : decide (t576 < 0) = false := decide_eq_false c161
            clear c161
            by_cases c171 : t576 = t574
            ·rw [if_pos c171] at H
             have c171b0 : (t576 == t574) = true := beq_iff_eq.mpr c171
             have c171b1 : (t576 != t574) = false := bne_eq_false_iff_eq.mpr c171
             clear c171
             replace H := Option.bind_eq_some_iff.mp H
             obtain ⟨⟨t577, t580, t581⟩, A1720, H⟩ := H
             replace H : ((laws_toTop.f kj108 l1_0 a1_1 a1_2).bind fun bt582 => ((impl_TopJoin.f kj108 t577 t580 t581 bt582.1 bt582.2.1 bt582.2.2).bind fun bt587 => ((laws_eqTop.f kj108 bt587.1 bt587.2.1 bt587.2.2.1 t530 t533 t534).bind fun t594 => (if t594 = true then (laws_FnExactTopJoin.j2 kj108 t574 (bt587.2.2.2 != t535) t575 t552 t553) else (laws_FnExactTopJoin.j2 kj108 t574 true t575 t552 t553))))) = some r := H
             have A172 := Aside0.mk A1720;clear A1720
             replace H := Option.bind_eq_some_iff.mp H
             obtain ⟨⟨t582, t585, t586⟩, A1730, H⟩ := H
             replace H : ((impl_TopJoin.f kj108 t577 t580 t581 t582 t585 t586).bind fun bt587 => ((laws_eqTop.f kj108 bt587.1 bt587.2.1 bt587.2.2.1 t530 t533 t534).bind fun t594 => (if t594 = true then (laws_FnExactTopJoin.j2 kj108 t574 (bt587.2.2.2 != t535) t575 t552 t553) else (laws_FnExactTopJoin.j2 kj108 t574 true t575 t552 t553)))) = some r := H
             have A173 := Aside0.mk A1730;clear A1730
             replace H := Option.bind_eq_some_iff.mp H
             obtain ⟨⟨t587, t590, t591, t592⟩, A1740, H⟩ := H
             replace H : ((laws_eqTop.f kj108 t587 t590 t591 t530 t533 t534).bind fun t594 => (if t594 = true then (laws_FnExactTopJoin.j2 kj108 t574 (t592 != t535) t575 t552 t553) else (laws_FnExactTopJoin.j2 kj108 t574 true t575 t552 t553))) = some r := H
             have A174 := Aside0.mk A1740;clear A1740;have HC175 := Aside0.mk H;clear H;have hnb176 := NB555_516.out;have hnc176 := NB516_555.out;have hnb177 := NB555_517.out;have hnc177 := NB517_555.out;have hnb178 := NB555_536.out;have hnc178 := NB536_555.out;have hnb179 := NB555_542.out;have hnc179 := NB542_555.out;have hnb180 := NB555_548.out;have hnc180 := NB548_555.out;have hcz181_0 := z5bc BK555 0;have hcz181_1 := z5bc BK555 1;have hcz181_2 := z5bc BK555 2;have hfz181_0 := blk_frozen BK555.out 0;have hfz181_1 := blk_frozen BK555.out 1;have hfz181_2 := blk_frozen BK555.out 2
             try go_wp2_with (first | ((with_reducible refine gate_callee (f := 16) rfl ?_); refine goesL_ (some 85) rfl rfl Try.func16 (by kernel_rfl) rfl #[.agg #[.slice Ao67 t549.length co67, .int .i64 t552, .int .i64 t553], .int .i64 1] rfl q5_2 ?_; (with_reducible refine (laws_markTop.calls kj108 (fun k_ => some k_ = (.slice Ao67 t549.length co67 : Value).ownBlock) (.slice Ao67 t549.length co67) t549 t552 t553 1 t574 t575 w _ ?side1 ?side2 A159.out).mono ?_); (case side1 => exact q5_0); (case side2 => exact Kd.R_tight rfl HO_556000.out); rintro e w182 ⟨rfl, hy0, hb, hkp⟩; refine ⟨_, rfl, ?_⟩; have n4_ := z5k (blk_kept q5_9 hkp (fun hs_ => (fun e_ => (Kd.R_ne HO_556000.out BK516.out (by decide)) e_) hs_)); have n5_ := z5k (blk_kept q5_10 hkp (fun hs_ => (fun e_ => (Kd.R_ne HO_556000.out BK517.out (by decide)) e_) hs_)); have n6_ := z5k (blk_kept q5_11 hkp (fun hs_ => (fun e_ => (Kd.R_ne HO_556000.out BK536.out (by decide)) e_) hs_)); have n7_ := z5k (blk_kept q5_12 hkp (fun hs_ => (fun e_ => (Kd.R_ne HO_556000.out BK542.out (by decide)) e_) hs_)); have n8_ := z5k (blk_kept q5_13 hkp (fun hs_ => (fun e_ => (Kd.R_ne HO_556000.out BK548.out (by decide)) e_) hs_)); have n9_ := z5k (blk_kept q5_15 hkp (fun hs_ => (fun e_ => (Kd.R_ne HO_556000.out BK555.out (by decide)) e_) hs_)); replace HO_537000 := z5k (Kd.R_mono (ok' := fun k_ => some k_ ≠ (.slice Ao49 t570.length co49 : Value).ownBlock ∧ some k_ ≠ (.slice Ao58 t572.length co58 : Value).ownBlock ∧ some k_ ≠ (.slice Ao67 t549.length co67 : Value).ownBlock) (Kd.R_keptB (HO_537000.out) hkp (fun k_ hk_ hs_ => (hk_.2.2) hs_)) (fun k_ hk_ => ⟨hk_.1.1, hk_.1.2.1, hk_.1.2.2⟩)); replace HO_543000 := z5k (Kd.R_mono (ok' := fun k_ => some k_ ≠ (.slice Ao41 t530.length co41 : Value).ownBlock ∧ some k_ ≠ (.slice Ao58 t572.length co58 : Value).ownBlock ∧ some k_ ≠ (.slice Ao67 t549.length co67 : Value).ownBlock) (Kd.R_keptB (HO_543000.out) hkp (fun k_ hk_ hs_ => (hk_.2.2) hs_)) (fun k_ hk_ => ⟨hk_.1.1, hk_.1.2.1, hk_.1.2.2⟩)); replace HO_549000 := z5k (Kd.R_mono (ok' := fun k_ => some k_ ≠ (.slice Ao41 t530.length co41 : Value).ownBlock ∧ some k_ ≠ (.slice Ao49 t570.length co49 : Value).ownBlock ∧ some k_ ≠ (.slice Ao67 t549.length co67 : Value).ownBlock) (Kd.R_keptB (HO_549000.out) hkp (fun k_ hk_ hs_ => (hk_.2.2) hs_)) (fun k_ hk_ => ⟨hk_.1.1, hk_.1.2.1, hk_.1.2.2⟩)); replace HO_556000 := z5k (Kd.R_reok rfl hy0 (fun k_ e_ => HO_556000.out.1 k_ e_)); replace HB := z5k (hb); clear BK516; clear BK517; clear BK536; clear BK542; clear BK548; clear BK555; have BK516 := n4_; have BK517 := n5_; have BK536 := n6_; have BK542 := n7_; have BK548 := n8_; have BK555 := n9_; clear n4_ n5_ n6_ n7_ n8_ n9_; (try clear hb); (try clear hkp); (try clear hy0); have hcz183_0 := z5bc BK555 0; have hcz183_1 := z5bc BK555 1; have hcz183_2 := z5bc BK555 2; have hfz183_0 := blk_frozen BK555.out 0; have hfz183_1 := blk_frozen BK555.out 1; have hfz183_2 := blk_frozen BK555.out 2) | ((with_reducible refine gate_callee (f := 17) rfl ?_); refine goesL_ (some 88) rfl rfl Try.func17 (by kernel_rfl) rfl #[.agg #[.slice Ao67 t575.length co67, .int .i64 t552, .int .i64 t553], .int .i64 1] rfl q5_68 ?_; (with_reducible refine (laws_heldTop.calls kj108 _ _ t575 t552 t553 1 t576 _ ?side1 ?side2 A160.out).mono ?_); (case side1 => exact q5_29); (case side2 => exact q5_105); rintro e w184 ⟨rfl, hb⟩; refine ⟨_, rfl, ?_⟩; replace HO_537000 := z5k (Kd.R_below q5_5 hb); replace HO_543000 := z5k (Kd.R_below q5_6 hb); replace HO_549000 := z5k (Kd.R_below q5_7 hb); replace HO_556000 := z5k (Kd.R_below q5_8 hb); replace BK516 := z5bb BK516 hb; replace BK517 := z5bb BK517 hb; replace BK536 := z5bb BK536 hb; replace BK542 := z5bb BK542 hb; replace BK548 := z5bb BK548 hb; replace BK555 := z5bb BK555 hb; replace HB := z5k (below_step q5_0 hb); (try clear hb); (try clear hb2); (try clear hk); (try clear hi)))
             replace HO_537000 := z5k (Kd.R_drew HO_537000.out)
             replace HO_543000 := z5k (Kd.R_drew HO_543000.out)
             replace HO_549000 := z5k (Kd.R_drew HO_549000.out)
             replace HO_556000 := z5k (Kd.R_drew HO_556000.out)
             replace BK516 := z5k (blk_drew BK516.out)
             replace BK517 := z5k (blk_drew BK517.out)
             replace BK536 := z5k (blk_drew BK536.out)
             replace BK542 := z5k (blk_drew BK542.out)
             replace BK548 := z5k (blk_drew BK548.out)
             replace BK555 := z5k (blk_drew BK555.out)
             replace HB := z5k (below_drew1 HB.out)
             refine start_ (n := 11) (S := fun w' => w'.cell? ⟨gb516, 0, none⟩ = some (.slice A0_0 l0_0.length c0_0) ∧ w'.cell? ⟨gb516, 1, none⟩ = some (.int .i64 a0_1) ∧ w'.cell? ⟨gb516, 2, none⟩ = some (.int .i64 a0_2) ∧ w'.cell? ⟨gb517, 0, none⟩ = some (.slice A1_0 l1_0.length c1_0) ∧ w'.cell? ⟨gb517, 1, none⟩ = some (.int .i64 a1_1) ∧ w'.cell? ⟨gb517, 2, none⟩ = some (.int .i64 a1_2)) (ds := []) z5D0 (by kernel_rfl) rfl rfl ⟨z5bc BK516 0, z5bc BK516 1, z5bc BK516 2, z5bc BK517 0, z5bc BK517 1, z5bc BK517 2⟩ (fun hHeld => ?_); refine with_tabW laws_FnExactTopJoin.tab31 laws_FnExactTopJoin.bits31 (fun HT_ HW_ => ?_)
             generalize w184.drew = w185 at HO_537000 HO_543000 HO_549000 HO_556000 BK516 BK517 BK536 BK542 BK548 BK555 HB hHeld ⊢
             refine take_ (i := 0) (N := some 95) (v := ?_) (a' := ?_) z5D1 rfl rfl (take_ofW HT_.out HW_.out (by kernel_rfl)) (fun _ _ _ h => h) (Or.inl ⟨by rfl, ?_⟩) hHeld ?_ ?_;rotate_left
             ·rintro w' ⟨s0, s1, s2, s3, s4, s5⟩
              go_simp
              with_reducible rfl
             rotate_left
             ·simp only [Act.put, z5a, z5b, z5c, i64_w, i32_w]
              rfl
             refine take_ (i := 2) (N := some 97) (v := ?_) (a' := ?_) z5D2 rfl rfl (take_ofW HT_.out HW_.out (by kernel_rfl)) (fun _ _ _ h => h) (Or.inl ⟨by rfl, ?_⟩) hHeld ?_ ?_;rotate_left
             ·rintro w' ⟨s0, s1, s2, s3, s4, s5⟩
              go_simp
              with_reducible rfl
             rotate_left
             ·simp only [Act.put, z5a, z5b, z5c, i64_w, i32_w]
              rfl
             refine join_ (σ := Value × Value × Value × Nat) 2 z5D3 (fun s_ => [(96, .agg #[s_.1, .int .i64 t580, .int .i64 t581]), (98, .agg #[s_.2.1, .int .i64 t585, .int .i64 t586]), (99, .tuple #[.agg #[s_.2.2.1, .int .i64 t590, .int .i64 t591], .bool t592]), (15, .pointer (some ⟨s_.2.2.2, 0, none⟩)), (94, .tuple #[.agg #[s_.2.2.1, .int .i64 t590, .int .i64 t591], .bool t592]), (100, .agg #[s_.2.2.1, .int .i64 t590, .int .i64 t591]), (101, .bool t592)]) (fun s_ w' => (w'.cell? ⟨gb516, 0, none⟩ = some (.slice A0_0 l0_0.length c0_0) ∧ w'.cell? ⟨gb516, 1, none⟩ = some (.int .i64 a0_1) ∧ w'.cell? ⟨gb516, 2, none⟩ = some (.int .i64 a0_2) ∧ w'.cell? ⟨gb517, 0, none⟩ = some (.slice A1_0 l1_0.length c1_0) ∧ w'.cell? ⟨gb517, 1, none⟩ = some (.int .i64 a1_1) ∧ w'.cell? ⟨gb517, 2, none⟩ = some (.int .i64 a1_2)) ∧ (Kd.R k54 54 w' w.heap.size (fun k_ => some k_ ≠ (s_.2.1 : Value).ownBlock ∧ some k_ ≠ (s_.2.2.1 : Value).ownBlock ∧ some k_ ≠ (.slice Ao41 t530.length co41 : Value).ownBlock ∧ some k_ ≠ (.slice Ao49 t570.length co49 : Value).ownBlock ∧ some k_ ≠ (.slice Ao58 t572.length co58 : Value).ownBlock ∧ some k_ ≠ (.slice Ao67 t549.length co67 : Value).ownBlock) s_.1 t577) ∧ (Kd.R k54 54 w' w.heap.size (fun k_ => some k_ ≠ (s_.1 : Value).ownBlock ∧ some k_ ≠ (s_.2.2.1 : Value).ownBlock ∧ some k_ ≠ (.slice Ao41 t530.length co41 : Value).ownBlock ∧ some k_ ≠ (.slice Ao49 t570.length co49 : Value).ownBlock ∧ some k_ ≠ (.slice Ao58 t572.length co58 : Value).ownBlock ∧ some k_ ≠ (.slice Ao67 t549.length co67 : Value).ownBlock) s_.2.1 t582) ∧ (Kd.R k54 54 w' w.heap.size (fun k_ => some k_ ≠ (s_.1 : Value).ownBlock ∧ some k_ ≠ (s_.2.1 : Value).ownBlock ∧ some k_ ≠ (.slice Ao41 t530.length co41 : Value).ownBlock ∧ some k_ ≠ (.slice Ao49 t570.length co49 : Value).ownBlock ∧ some k_ ≠ (.slice Ao58 t572.length co58 : Value).ownBlock ∧ some k_ ≠ (.slice Ao67 t549.length co67 : Value).ownBlock) s_.2.2.1 t587) ∧ (Kd.R k54 54 w' w.heap.size (fun k_ => some k_ ≠ (s_.1 : Value).ownBlock ∧ some k_ ≠ (s_.2.1 : Value).ownBlock ∧ some k_ ≠ (s_.2.2.1 : Value).ownBlock ∧ some k_ ≠ (.slice Ao49 t570.length co49 : Value).ownBlock ∧ some k_ ≠ (.slice Ao58 t572.length co58 : Value).ownBlock ∧ some k_ ≠ (.slice Ao67 t549.length co67 : Value).ownBlock) (.slice Ao41 t530.length co41) t530) ∧ (Kd.R k54 54 w' w.heap.size (fun k_ => some k_ ≠ (s_.1 : Value).ownBlock ∧ some k_ ≠ (s_.2.1 : Value).ownBlock ∧ some k_ ≠ (s_.2.2.1 : Value).ownBlock ∧ some k_ ≠ (.slice Ao41 t530.length co41 : Value).ownBlock ∧ some k_ ≠ (.slice Ao58 t572.length co58 : Value).ownBlock ∧ some k_ ≠ (.slice Ao67 t549.length co67 : Value).ownBlock) (.slice Ao49 t570.length co49) t570) ∧ (Kd.R k54 54 w' w.heap.size (fun k_ => some k_ ≠ (s_.1 : Value).ownBlock ∧ some k_ ≠ (s_.2.1 : Value).ownBlock ∧ some k_ ≠ (s_.2.2.1 : Value).ownBlock ∧ some k_ ≠ (.slice Ao41 t530.length co41 : Value).ownBlock ∧ some k_ ≠ (.slice Ao49 t570.length co49 : Value).ownBlock ∧ some k_ ≠ (.slice Ao67 t549.length co67 : Value).ownBlock) (.slice Ao58 t572.length co58) t572) ∧ (Kd.R k54 54 w' w.heap.size (fun k_ => some k_ ≠ (s_.1 : Value).ownBlock ∧ some k_ ≠ (s_.2.1 : Value).ownBlock ∧ some k_ ≠ (s_.2.2.1 : Value).ownBlock ∧ some k_ ≠ (.slice Ao41 t530.length co41 : Value).ownBlock ∧ some k_ ≠ (.slice Ao49 t570.length co49 : Value).ownBlock ∧ some k_ ≠ (.slice Ao58 t572.length co58 : Value).ownBlock) (.slice Ao67 t549.length co67) t575) ∧ (w'.heap[gb516]? = some (.cells #[.slice A0_0 l0_0.length c0_0, .int .i64 a0_1, .int .i64 a0_2] 37 (0, 0))) ∧ (w'.heap[gb517]? = some (.cells #[.slice A1_0 l1_0.length c1_0, .int .i64 a1_1, .int .i64 a1_2] 37 (0, 0))) ∧ (w'.heap[gb536]? = some (.cells #[.slice Ao41 t530.length co41, .int .i64 t533, .int .i64 t534] 25 (0, 0))) ∧ (w'.heap[gb542]? = some (.cells #[.slice Ao49 t570.length co49, .int .i64 t540, .int .i64 t541] 25 (0, 0))) ∧ (w'.heap[gb548]? = some (.cells #[.slice Ao58 t572.length co58, .int .i64 t546, .int .i64 t547] 25 (0, 0))) ∧ (w'.heap[gb555]? = some (.cells #[.slice Ao67 t549.length co67, .int .i64 t552, .int .i64 t553] 25 (0, 0))) ∧ (w'.heap[s_.2.2.2]? = some (.cells #[.slice none 0 0, .int .i64 0, .int .i64 0] 25 (0, 0))) ∧ (w.heap.size ≤ s_.2.2.2) ∧ (w.heap.size ≤ s_.2.2.2) ∧ (gb516 ≠ s_.2.2.2) ∧ (s_.2.2.2 ≠ gb516) ∧ (gb517 ≠ s_.2.2.2) ∧ (s_.2.2.2 ≠ gb517) ∧ (gb536 ≠ s_.2.2.2) ∧ (s_.2.2.2 ≠ gb536) ∧ (gb542 ≠ s_.2.2.2) ∧ (s_.2.2.2 ≠ gb542) ∧ (gb548 ≠ s_.2.2.2) ∧ (s_.2.2.2 ≠ gb548) ∧ (gb555 ≠ s_.2.2.2) ∧ (s_.2.2.2 ≠ gb555) ∧ (Below w.heap.size w w')) ?_ ?_;rotate_left
             ·intro hCont;refine two_ (i := 1) (j := 8) (Ni := some 96) (Nj := some 15) z5D4 z5D5 rfl rfl rfl rfl (two_of HT_.out (by kernel_rfl)) (by decide) (by decide) (fun K hK => ?_) (fun K hK => ?_)
              ·refine goes_ Try.func14 (by kernel_rfl) rfl #[.agg #[.slice A0_0 l0_0.length c0_0, .int .i64 a0_1, .int .i64 a0_2]] (by rfl) rfl rfl q5_2 ?_
               with_reducible refine (laws_toTop.calls kj108 _ _ l0_0 a0_1 a0_2 t577 t580 t581 _ ?side1 ?side2 A172.out).mono ?_
               (case side1 => exact q5_19);(case side2 => exact HC0_0.out);rintro e w186 ⟨v578, rfl, ho0, hb⟩;refine ⟨_, rfl, ?_⟩;have n4_ := z5k (Kd.R_lower (Kd.R_new' (Kd.R_new' (Kd.R_new' (Kd.R_new' ho0 (Kd.R_lt q5_5)) (Kd.R_lt q5_6)) (Kd.R_lt q5_7)) (Kd.R_lt q5_8)) (below_size q5_0))
               replace HO_537000 := z5k (Kd.R_elder' q5_5 (Kd.R_base ho0) hb)
               replace HO_543000 := z5k (Kd.R_elder' q5_6 (Kd.R_base ho0) hb)
               replace HO_549000 := z5k (Kd.R_elder' q5_7 (Kd.R_base ho0) hb)
               replace HO_556000 := z5k (Kd.R_elder' q5_8 (Kd.R_base ho0) hb)
               replace BK516 := z5bb BK516 hb
               replace BK517 := z5bb BK517 hb
               replace BK536 := z5bb BK536 hb
               replace BK542 := z5bb BK542 hb
               replace BK548 := z5bb BK548 hb
               replace BK555 := z5bb BK555 hb
               replace HB := z5k (below_step q5_0 hb)
               have HO579 := n4_;clear n4_;(try clear hb);(try clear hb2);(try clear hk);(try clear hi);(try clear ho0);refine hK.out _ _ ⟨z5bc BK516 0, z5bc BK516 1, z5bc BK516 2, z5bc BK517 0, z5bc BK517 1, z5bc BK517 2⟩ (fun hHeld => ?_);clear hK K;refine norm_ (a' := ?_) ?_ ?_;rotate_left
               ·show Act.put _ (some 96) _ = _
                simp only [Act.put, z5a, z5b, z5c, i64_w, i32_w]
                rfl
               refine two_ (i := 3) (j := 8) (Ni := some 98) (Nj := some 15) z5D6 z5D7 rfl rfl rfl rfl (two_of HT_.out (by kernel_rfl)) (by decide) (by decide) (fun K hK => ?_) (fun K hK => ?_)
               ·refine goes_ Try.func14 (by kernel_rfl) rfl #[.agg #[.slice A1_0 l1_0.length c1_0, .int .i64 a1_1, .int .i64 a1_2]] (by rfl) rfl rfl q5_2 ?_
                with_reducible refine (laws_toTop.calls kj108 _ _ l1_0 a1_1 a1_2 t582 t585 t586 _ ?side1 ?side2 A173.out).mono ?_
                (case side1 => exact q5_20);(case side2 => exact HC1_0.out);rintro e w187 ⟨v583, rfl, ho0, hb⟩;refine ⟨_, rfl, ?_⟩;have n5_ := z5k (Kd.R_lower (Kd.R_new' (Kd.R_new' (Kd.R_new' (Kd.R_new' (Kd.R_new' ho0 (Kd.R_lt q5_5)) (Kd.R_lt q5_6)) (Kd.R_lt q5_7)) (Kd.R_lt q5_8)) (Kd.R_lt q5_18)) (below_size q5_0))
                replace HO_537000 := z5k (Kd.R_elder' q5_5 (Kd.R_base ho0) hb)
                replace HO_543000 := z5k (Kd.R_elder' q5_6 (Kd.R_base ho0) hb)
                replace HO_549000 := z5k (Kd.R_elder' q5_7 (Kd.R_base ho0) hb)
                replace HO_556000 := z5k (Kd.R_elder' q5_8 (Kd.R_base ho0) hb)
                replace HO579 := z5k (Kd.R_elder' q5_18 (Kd.R_base ho0) hb)
                replace BK516 := z5bb BK516 hb
                replace BK517 := z5bb BK517 hb
                replace BK536 := z5bb BK536 hb
                replace BK542 := z5bb BK542 hb
                replace BK548 := z5bb BK548 hb
                replace BK555 := z5bb BK555 hb
                replace HB := z5k (below_step q5_0 hb)
                have HO584 := n5_;clear n5_;(try clear hb);(try clear hb2);(try clear hk);(try clear hi);(try clear ho0);obtain ⟨Ao188, co188, eo188⟩ := Kd.R_slice HO579.out;(first | subst eo188 | (injection eo188 with f1_ f2_ f3_; have f4_ := f1_.symm; have f5_ := f3_.symm; clear f1_ f2_ f3_; subst f4_; subst f5_));obtain ⟨Ao189, co189, eo189⟩ := Kd.R_slice HO584.out;(first | subst eo189 | (injection eo189 with f1_ f2_ f3_; have f4_ := f1_.symm; have f5_ := f3_.symm; clear f1_ f2_ f3_; subst f4_; subst f5_));refine hK.out _ _ ⟨z5bc BK516 0, z5bc BK516 1, z5bc BK516 2, z5bc BK517 0, z5bc BK517 1, z5bc BK517 2⟩ (fun hHeld => ?_);clear hK K;refine norm_ (a' := ?_) ?_ ?_;rotate_left
                ·show Act.put _ (some 98) _ = _
                 simp only [Act.put, z5a, z5b, z5c, i64_w, i32_w]
                 rfl
                refine two_ (i := 4) (j := 8) (Ni := some 99) (Nj := some 15) z5D8 z5D9 rfl rfl rfl rfl (two_of HT_.out (by kernel_rfl)) (by decide) (by decide) (fun K hK => ?_) (fun K hK => ?_)
                ·refine goes_ Try.func19 (by kernel_rfl) rfl #[.agg #[.slice Ao188 t577.length co188, .int .i64 t580, .int .i64 t581], .agg #[.slice Ao189 t582.length co189, .int .i64 t585, .int .i64 t586]] (by rfl) rfl rfl q5_2 ?_
                 with_reducible refine (impl_TopJoin.calls kj108 _ _ t577 t580 t581 _ _ t582 t585 t586 t587 t590 t591 t592 _ ?side1 ?side2 ?side3 ?side4 A174.out).mono ?_
                 (case side1 => exact q5_64);(case side2 => exact (Kd.R_reads' HO579.out).2.1);(case side3 => exact q5_65);(case side4 => exact (Kd.R_reads' HO584.out).2.1);rintro e w190 ⟨v588, rfl, ho0, hb⟩;refine ⟨_, rfl, ?_⟩;have n6_ := z5k (Kd.R_lower (Kd.R_new' (Kd.R_new' (Kd.R_new' (Kd.R_new' (Kd.R_new' (Kd.R_new' ho0 (Kd.R_lt q5_5)) (Kd.R_lt q5_6)) (Kd.R_lt q5_7)) (Kd.R_lt q5_8)) (Kd.R_lt q5_18)) (Kd.R_lt q5_35)) (below_size q5_0))
                 replace HO_537000 := z5k (Kd.R_elder' q5_5 (Kd.R_base ho0) hb)
                 replace HO_543000 := z5k (Kd.R_elder' q5_6 (Kd.R_base ho0) hb)
                 replace HO_549000 := z5k (Kd.R_elder' q5_7 (Kd.R_base ho0) hb)
                 replace HO_556000 := z5k (Kd.R_elder' q5_8 (Kd.R_base ho0) hb)
                 replace HO579 := z5k (Kd.R_elder' q5_18 (Kd.R_base ho0) hb)
                 replace HO584 := z5k (Kd.R_elder' q5_35 (Kd.R_base ho0) hb)
                 replace BK516 := z5bb BK516 hb
                 replace BK517 := z5bb BK517 hb
                 replace BK536 := z5bb BK536 hb
                 replace BK542 := z5bb BK542 hb
                 replace BK548 := z5bb BK548 hb
                 replace BK555 := z5bb BK555 hb
                 replace HB := z5k (below_step q5_0 hb)
                 have HO589 := n6_;clear n6_;(try clear hb);(try clear hb2);(try clear hk);(try clear hi);(try clear ho0);refine hK.out _ _ ⟨z5bc BK516 0, z5bc BK516 1, z5bc BK516 2, z5bc BK517 0, z5bc BK517 1, z5bc BK517 2⟩ (fun hHeld => ?_);clear hK K;refine norm_ (a' := ?_) ?_ ?_;rotate_left
                 ·show Act.put _ (some 99) _ = _
                  simp only [Act.put, z5a, z5b, z5c, i64_w, i32_w]
                  rfl
                 refine pure_ (i := 5) (N := some 94) (v := ?_) (a' := ?_) z5D10 rfl rfl (any_of HT_.out (by kernel_rfl)) (fun _ _ _ h => h) (Or.inl ⟨by rfl, ?_⟩) ?_ ?_;rotate_left
                 ·intro w'
                  go_simp
                  with_reducible rfl
                 rotate_left
                 ·simp only [Act.put, z5a, z5b, z5c, i64_w, i32_w]
                  rfl
                 refine pure_ (i := 6) (N := some 100) (v := ?_) (a' := ?_) z5D11 rfl rfl (any_of HT_.out (by kernel_rfl)) (fun _ _ _ h => h) (Or.inl ⟨by rfl, ?_⟩) ?_ ?_;rotate_left
                 ·intro w'
                  go_simp
                  with_reducible rfl
                 rotate_left
                 ·simp only [Act.put, z5a, z5b, z5c, i64_w, i32_w]
                  rfl
                 refine pure_ (i := 7) (N := some 101) (v := ?_) (a' := ?_) z5D12 rfl rfl (any_of HT_.out (by kernel_rfl)) (fun _ _ _ h => h) (Or.inl ⟨by rfl, ?_⟩) ?_ ?_;rotate_left
                 ·intro w'
                  go_simp
                  with_reducible rfl
                 rotate_left
                 ·simp only [Act.put, z5a, z5b, z5c, i64_w, i32_w]
                  rfl
                 refine one_ (i := 8) (N := some 15) z5D3 rfl rfl (one_of HT_.out (by kernel_rfl)) (by decide) (fun K hK => ?_);refine box_step ?hg (N := 15) ?hd (cs := #[.slice none 0 0, .int .i64 0, .int .i64 0]) (t := 25) ?hr ?_; (case hd => rfl); (case hg => rfl); (case hr => exact q5_50);intro gb593 hg w191 hbox hb;have n14_ := z5k (hbox);have n15_ := z5k ((q5_109 : w.heap.size ≤ gb593));have n16_ := z5k ((q5_109 : w.heap.size ≤ gb593));have n17_ := z5k ((q5_16 : gb516 ≠ gb593));have n18_ := z5k ((q5_17 : gb593 ≠ gb516));have n19_ := z5k ((q5_21 : gb517 ≠ gb593));have n20_ := z5k ((q5_22 : gb593 ≠ gb517));have n21_ := z5k ((q5_36 : gb536 ≠ gb593));have n22_ := z5k ((q5_37 : gb593 ≠ gb536));have n23_ := z5k ((q5_72 : gb542 ≠ gb593));have n24_ := z5k ((q5_73 : gb593 ≠ gb542));have n25_ := z5k ((q5_74 : gb548 ≠ gb593));have n26_ := z5k ((q5_75 : gb593 ≠ gb548));have n27_ := z5k ((q5_76 : gb555 ≠ gb593));have n28_ := z5k ((q5_77 : gb593 ≠ gb555))
                 replace HO_537000 := z5k (Kd.R_below q5_5 hb)
                 replace HO_543000 := z5k (Kd.R_below q5_6 hb)
                 replace HO_549000 := z5k (Kd.R_below q5_7 hb)
                 replace HO_556000 := z5k (Kd.R_below q5_8 hb)
                 replace HO579 := z5k (Kd.R_below q5_18 hb)
                 replace HO584 := z5k (Kd.R_below q5_35 hb)
                 replace HO589 := z5k (Kd.R_below (by (with_reducible repeat (first | apply Kd.R_alloc | apply Kd.R_drewN | apply Kd.R_drew)); exact HO589.out) hb)
                 replace BK516 := z5bb BK516 hb
                 replace BK517 := z5bb BK517 hb
                 replace BK536 := z5bb BK536 hb
                 replace BK542 := z5bb BK542 hb
                 replace BK548 := z5bb BK548 hb
                 replace BK555 := z5bb BK555 hb
                 replace HB := z5k (below_step q5_0 hb)
                 have BK593 := n14_;have GW593 := n15_;have GE593 := n16_;have NB516_593 := n17_;have NB593_516 := n18_;have NB517_593 := n19_;have NB593_517 := n20_;have NB536_593 := n21_;have NB593_536 := n22_;have NB542_593 := n23_;have NB593_542 := n24_;have NB548_593 := n25_;have NB593_548 := n26_;have NB555_593 := n27_;have NB593_555 := n28_;clear n14_ n15_ n16_ n17_ n18_ n19_ n20_ n21_ n22_ n23_ n24_ n25_ n26_ n27_ n28_ hb hbox hg;refine hK.out _ _ ⟨z5bc BK516 0, z5bc BK516 1, z5bc BK516 2, z5bc BK517 0, z5bc BK517 1, z5bc BK517 2⟩ (fun hHeld => ?_);clear hK K;refine norm_ (a' := ?_) ?_ ?_;rotate_left
                 ·show Act.put _ (some 15) _ = _
                  simp only [Act.put, z5a, z5b, z5c, i64_w, i32_w]
                  rfl
                 exact norm_ q5_49 (hCont (.slice Ao188 t577.length co188, .slice Ao189 t582.length co189, v588, gb593) _ ⟨hHeld, q5_46, q5_47, q5_48, q5_42, q5_43, q5_44, q5_45, q5_9, q5_10, q5_11, q5_12, q5_13, q5_15, q5_101, GW593.out, GE593.out, NB516_593.out, NB593_516.out, NB517_593.out, NB593_517.out, NB536_593.out, NB593_536.out, NB542_593.out, NB593_542.out, NB548_593.out, NB593_548.out, NB555_593.out, NB593_555.out, q5_1⟩)
                ·refine box_step ?hg (N := 15) ?hd (cs := #[.slice none 0 0, .int .i64 0, .int .i64 0]) (t := 25) ?hr ?_; (case hd => rfl); (case hg => rfl); (case hr => exact q5_50);intro gb593 hg w188 hbox hb;have n13_ := z5k (hbox);have n14_ := z5k ((q5_109 : w.heap.size ≤ gb593));have n15_ := z5k ((q5_109 : w.heap.size ≤ gb593));have n16_ := z5k ((q5_16 : gb516 ≠ gb593));have n17_ := z5k ((q5_17 : gb593 ≠ gb516));have n18_ := z5k ((q5_21 : gb517 ≠ gb593));have n19_ := z5k ((q5_22 : gb593 ≠ gb517));have n20_ := z5k ((q5_36 : gb536 ≠ gb593));have n21_ := z5k ((q5_37 : gb593 ≠ gb536));have n22_ := z5k ((q5_72 : gb542 ≠ gb593));have n23_ := z5k ((q5_73 : gb593 ≠ gb542));have n24_ := z5k ((q5_74 : gb548 ≠ gb593));have n25_ := z5k ((q5_75 : gb593 ≠ gb548));have n26_ := z5k ((q5_76 : gb555 ≠ gb593));have n27_ := z5k ((q5_77 : gb593 ≠ gb555))
                 replace HO_537000 := z5k (Kd.R_below q5_5 hb)
                 replace HO_543000 := z5k (Kd.R_below q5_6 hb)
                 replace HO_549000 := z5k (Kd.R_below q5_7 hb)
                 replace HO_556000 := z5k (Kd.R_below q5_8 hb)
                 replace HO579 := z5k (Kd.R_below q5_18 hb)
                 replace HO584 := z5k (Kd.R_below q5_35 hb)
                 replace BK516 := z5bb BK516 hb
                 replace BK517 := z5bb BK517 hb
                 replace BK536 := z5bb BK536 hb
                 replace BK542 := z5bb BK542 hb
                 replace BK548 := z5bb BK548 hb
                 replace BK555 := z5bb BK555 hb
                 replace HB := z5k (below_step q5_0 hb)
                 have BK593 := n13_;have GW593 := n14_;have GE593 := n15_;have NB516_593 := n16_;have NB593_516 := n17_;have NB517_593 := n18_;have NB593_517 := n19_;have NB536_593 := n20_;have NB593_536 := n21_;have NB542_593 := n22_;have NB593_542 := n23_;have NB548_593 := n24_;have NB593_548 := n25_;have NB555_593 := n26_;have NB593_555 := n27_;clear n13_ n14_ n15_ n16_ n17_ n18_ n19_ n20_ n21_ n22_ n23_ n24_ n25_ n26_ n27_ hb hbox hg;obtain ⟨Ao189, co189, eo189⟩ := Kd.R_slice HO579.out;(first | subst eo189 | (injection eo189 with f1_ f2_ f3_; have f4_ := f1_.symm; have f5_ := f3_.symm; clear f1_ f2_ f3_; subst f4_; subst f5_));obtain ⟨Ao190, co190, eo190⟩ := Kd.R_slice HO584.out;(first | subst eo190 | (injection eo190 with f1_ f2_ f3_; have f4_ := f1_.symm; have f5_ := f3_.symm; clear f1_ f2_ f3_; subst f4_; subst f5_));refine hK.out _ _ ⟨z5bc BK516 0, z5bc BK516 1, z5bc BK516 2, z5bc BK517 0, z5bc BK517 1, z5bc BK517 2⟩ (fun hHeld => ?_);clear hK K;refine norm_ (a' := ?_) ?_ ?_;rotate_left
                 ·show Act.put _ (some 15) _ = _
                  simp only [Act.put, z5a, z5b, z5c, i64_w, i32_w]
                  rfl
                 refine one_ (i := 4) (N := some 99) z5D13 rfl rfl (one_of HT_.out (by kernel_rfl)) (by decide) (fun K hK => ?_);refine goes_ Try.func19 (by kernel_rfl) rfl #[.agg #[.slice Ao189 t577.length co189, .int .i64 t580, .int .i64 t581], .agg #[.slice Ao190 t582.length co190, .int .i64 t585, .int .i64 t586]] (by rfl) rfl rfl q5_2 ?_
                 with_reducible refine (impl_TopJoin.calls kj108 _ _ t577 t580 t581 _ _ t582 t585 t586 t587 t590 t591 t592 _ ?side1 ?side2 ?side3 ?side4 A174.out).mono ?_
                 (case side1 => exact q5_64);(case side2 => exact (Kd.R_reads' HO579.out).2.1);(case side3 => exact q5_65);(case side4 => exact (Kd.R_reads' HO584.out).2.1);rintro e w191 ⟨v588, rfl, ho0, hb⟩;refine ⟨_, rfl, ?_⟩;have n6_ := z5k (Kd.R_lower (Kd.R_new' (Kd.R_new' (Kd.R_new' (Kd.R_new' (Kd.R_new' (Kd.R_new' ho0 (Kd.R_lt q5_5)) (Kd.R_lt q5_6)) (Kd.R_lt q5_7)) (Kd.R_lt q5_8)) (Kd.R_lt q5_18)) (Kd.R_lt q5_35)) (below_size q5_1))
                 replace HO_537000 := z5k (Kd.R_elder' q5_5 (Kd.R_base ho0) hb)
                 replace HO_543000 := z5k (Kd.R_elder' q5_6 (Kd.R_base ho0) hb)
                 replace HO_549000 := z5k (Kd.R_elder' q5_7 (Kd.R_base ho0) hb)
                 replace HO_556000 := z5k (Kd.R_elder' q5_8 (Kd.R_base ho0) hb)
                 replace HO579 := z5k (Kd.R_elder' q5_18 (Kd.R_base ho0) hb)
                 replace HO584 := z5k (Kd.R_elder' q5_35 (Kd.R_base ho0) hb)
                 replace BK516 := z5bb BK516 hb
                 replace BK517 := z5bb BK517 hb
                 replace BK536 := z5bb BK536 hb
                 replace BK542 := z5bb BK542 hb
                 replace BK548 := z5bb BK548 hb
                 replace BK555 := z5bb BK555 hb
                 replace BK593 := z5bb BK593 hb
                 replace HB := z5k (below_step q5_1 hb)
                 have HO589 := n6_;clear n6_;(try clear hb);(try clear hb2);(try clear hk);(try clear hi);(try clear ho0);refine hK.out _ _ ⟨z5bc BK516 0, z5bc BK516 1, z5bc BK516 2, z5bc BK517 0, z5bc BK517 1, z5bc BK517 2⟩ (fun hHeld => ?_);clear hK K;refine norm_ (a' := ?_) ?_ ?_;rotate_left
                 ·show Act.put _ (some 99) _ = _
                  simp only [Act.put, z5a, z5b, z5c, i64_w, i32_w]
                  rfl
                 refine pure_ (i := 5) (N := some 94) (v := ?_) (a' := ?_) z5D14 rfl rfl (any_of HT_.out (by kernel_rfl)) (fun _ _ _ h => h) (Or.inl ⟨by rfl, ?_⟩) ?_ ?_;rotate_left
                 ·intro w'
                  go_simp
                  with_reducible rfl
                 rotate_left
                 ·simp only [Act.put, z5a, z5b, z5c, i64_w, i32_w]
                  rfl
                 refine pure_ (i := 6) (N := some 100) (v := ?_) (a' := ?_) z5D15 rfl rfl (any_of HT_.out (by kernel_rfl)) (fun _ _ _ h => h) (Or.inl ⟨by rfl, ?_⟩) ?_ ?_;rotate_left
                 ·intro w'
                  go_simp
                  with_reducible rfl
                 rotate_left
                 ·simp only [Act.put, z5a, z5b, z5c, i64_w, i32_w]
                  rfl
                 refine pure_ (i := 7) (N := some 101) (v := ?_) (a' := ?_) z5D3 rfl rfl (any_of HT_.out (by kernel_rfl)) (fun _ _ _ h => h) (Or.inl ⟨by rfl, ?_⟩) ?_ ?_;rotate_left
                 ·intro w'
                  go_simp
                  with_reducible rfl
                 rotate_left
                 ·simp only [Act.put, z5a, z5b, z5c, i64_w, i32_w]
                  rfl
                 exact norm_ q5_49 (hCont (.slice Ao189 t577.length co189, .slice Ao190 t582.length co190, v588, gb593) _ ⟨hHeld, q5_46, q5_47, q5_48, q5_42, q5_43, q5_44, q5_45, q5_9, q5_10, q5_11, q5_12, q5_13, q5_15, q5_101, GW593.out, GE593.out, NB516_593.out, NB593_516.out, NB517_593.out, NB593_517.out, NB536_593.out, NB593_536.out, NB542_593.out, NB593_542.out, NB548_593.out, NB593_548.out, NB555_593.out, NB593_555.out, q5_1⟩)
               ·refine box_step ?hg (N := 15) ?hd (cs := #[.slice none 0 0, .int .i64 0, .int .i64 0]) (t := 25) ?hr ?_; (case hd => rfl); (case hg => rfl); (case hr => exact q5_50);intro gb593 hg w187 hbox hb;have n12_ := z5k (hbox);have n13_ := z5k ((q5_109 : w.heap.size ≤ gb593));have n14_ := z5k ((q5_109 : w.heap.size ≤ gb593));have n15_ := z5k ((q5_16 : gb516 ≠ gb593));have n16_ := z5k ((q5_17 : gb593 ≠ gb516));have n17_ := z5k ((q5_21 : gb517 ≠ gb593));have n18_ := z5k ((q5_22 : gb593 ≠ gb517));have n19_ := z5k ((q5_36 : gb536 ≠ gb593));have n20_ := z5k ((q5_37 : gb593 ≠ gb536));have n21_ := z5k ((q5_72 : gb542 ≠ gb593));have n22_ := z5k ((q5_73 : gb593 ≠ gb542));have n23_ := z5k ((q5_74 : gb548 ≠ gb593));have n24_ := z5k ((q5_75 : gb593 ≠ gb548));have n25_ := z5k ((q5_76 : gb555 ≠ gb593));have n26_ := z5k ((q5_77 : gb593 ≠ gb555))
                replace HO_537000 := z5k (Kd.R_below q5_5 hb)
                replace HO_543000 := z5k (Kd.R_below q5_6 hb)
                replace HO_549000 := z5k (Kd.R_below q5_7 hb)
                replace HO_556000 := z5k (Kd.R_below q5_8 hb)
                replace HO579 := z5k (Kd.R_below q5_18 hb)
                replace BK516 := z5bb BK516 hb
                replace BK517 := z5bb BK517 hb
                replace BK536 := z5bb BK536 hb
                replace BK542 := z5bb BK542 hb
                replace BK548 := z5bb BK548 hb
                replace BK555 := z5bb BK555 hb
                replace HB := z5k (below_step q5_0 hb)
                have BK593 := n12_;have GW593 := n13_;have GE593 := n14_;have NB516_593 := n15_;have NB593_516 := n16_;have NB517_593 := n17_;have NB593_517 := n18_;have NB536_593 := n19_;have NB593_536 := n20_;have NB542_593 := n21_;have NB593_542 := n22_;have NB548_593 := n23_;have NB593_548 := n24_;have NB555_593 := n25_;have NB593_555 := n26_;clear n12_ n13_ n14_ n15_ n16_ n17_ n18_ n19_ n20_ n21_ n22_ n23_ n24_ n25_ n26_ hb hbox hg;refine hK.out _ _ ⟨z5bc BK516 0, z5bc BK516 1, z5bc BK516 2, z5bc BK517 0, z5bc BK517 1, z5bc BK517 2⟩ (fun hHeld => ?_);clear hK K;refine norm_ (a' := ?_) ?_ ?_;rotate_left
                ·show Act.put _ (some 15) _ = _
                 simp only [Act.put, z5a, z5b, z5c, i64_w, i32_w]
                 rfl
                refine one_ (i := 3) (N := some 98) z5D9 rfl rfl (one_of HT_.out (by kernel_rfl)) (by decide) (fun K hK => ?_);refine goes_ Try.func14 (by kernel_rfl) rfl #[.agg #[.slice A1_0 l1_0.length c1_0, .int .i64 a1_1, .int .i64 a1_2]] (by rfl) rfl rfl q5_2 ?_
                with_reducible refine (laws_toTop.calls kj108 _ _ l1_0 a1_1 a1_2 t582 t585 t586 _ ?side1 ?side2 A173.out).mono ?_
                (case side1 => exact q5_20);(case side2 => exact HC1_0.out);rintro e w188 ⟨v583, rfl, ho0, hb⟩;refine ⟨_, rfl, ?_⟩;have n5_ := z5k (Kd.R_lower (Kd.R_new' (Kd.R_new' (Kd.R_new' (Kd.R_new' (Kd.R_new' ho0 (Kd.R_lt q5_5)) (Kd.R_lt q5_6)) (Kd.R_lt q5_7)) (Kd.R_lt q5_8)) (Kd.R_lt q5_18)) (below_size q5_1))
                replace HO_537000 := z5k (Kd.R_elder' q5_5 (Kd.R_base ho0) hb)
                replace HO_543000 := z5k (Kd.R_elder' q5_6 (Kd.R_base ho0) hb)
                replace HO_549000 := z5k (Kd.R_elder' q5_7 (Kd.R_base ho0) hb)
                replace HO_556000 := z5k (Kd.R_elder' q5_8 (Kd.R_base ho0) hb)
                replace HO579 := z5k (Kd.R_elder' q5_18 (Kd.R_base ho0) hb)
                replace BK516 := z5bb BK516 hb
                replace BK517 := z5bb BK517 hb
                replace BK536 := z5bb BK536 hb
                replace BK542 := z5bb BK542 hb
                replace BK548 := z5bb BK548 hb
                replace BK555 := z5bb BK555 hb
                replace BK593 := z5bb BK593 hb
                replace HB := z5k (below_step q5_1 hb)
                have HO584 := n5_;clear n5_;(try clear hb);(try clear hb2);(try clear hk);(try clear hi);(try clear ho0);obtain ⟨Ao189, co189, eo189⟩ := Kd.R_slice HO579.out;(first | subst eo189 | (injection eo189 with f1_ f2_ f3_; have f4_ := f1_.symm; have f5_ := f3_.symm; clear f1_ f2_ f3_; subst f4_; subst f5_));obtain ⟨Ao190, co190, eo190⟩ := Kd.R_slice HO584.out;(first | subst eo190 | (injection eo190 with f1_ f2_ f3_; have f4_ := f1_.symm; have f5_ := f3_.symm; clear f1_ f2_ f3_; subst f4_; subst f5_));refine hK.out _ _ ⟨z5bc BK516 0, z5bc BK516 1, z5bc BK516 2, z5bc BK517 0, z5bc BK517 1, z5bc BK517 2⟩ (fun hHeld => ?_);clear hK K;refine norm_ (a' := ?_) ?_ ?_;rotate_left
                ·show Act.put _ (some 98) _ = _
                 simp only [Act.put, z5a, z5b, z5c, i64_w, i32_w]
                 rfl
                refine one_ (i := 4) (N := some 99) z5D13 rfl rfl (one_of HT_.out (by kernel_rfl)) (by decide) (fun K hK => ?_);refine goes_ Try.func19 (by kernel_rfl) rfl #[.agg #[.slice Ao189 t577.length co189, .int .i64 t580, .int .i64 t581], .agg #[.slice Ao190 t582.length co190, .int .i64 t585, .int .i64 t586]] (by rfl) rfl rfl q5_2 ?_
                with_reducible refine (impl_TopJoin.calls kj108 _ _ t577 t580 t581 _ _ t582 t585 t586 t587 t590 t591 t592 _ ?side1 ?side2 ?side3 ?side4 A174.out).mono ?_
                (case side1 => exact q5_64);(case side2 => exact (Kd.R_reads' HO579.out).2.1);(case side3 => exact q5_65);(case side4 => exact (Kd.R_reads' HO584.out).2.1);rintro e w191 ⟨v588, rfl, ho0, hb⟩;refine ⟨_, rfl, ?_⟩;have n6_ := z5k (Kd.R_lower (Kd.R_new' (Kd.R_new' (Kd.R_new' (Kd.R_new' (Kd.R_new' (Kd.R_new' ho0 (Kd.R_lt q5_5)) (Kd.R_lt q5_6)) (Kd.R_lt q5_7)) (Kd.R_lt q5_8)) (Kd.R_lt q5_18)) (Kd.R_lt q5_35)) (below_size q5_1))
                replace HO_537000 := z5k (Kd.R_elder' q5_5 (Kd.R_base ho0) hb)
                replace HO_543000 := z5k (Kd.R_elder' q5_6 (Kd.R_base ho0) hb)
                replace HO_549000 := z5k (Kd.R_elder' q5_7 (Kd.R_base ho0) hb)
                replace HO_556000 := z5k (Kd.R_elder' q5_8 (Kd.R_base ho0) hb)
                replace HO579 := z5k (Kd.R_elder' q5_18 (Kd.R_base ho0) hb)
                replace HO584 := z5k (Kd.R_elder' q5_35 (Kd.R_base ho0) hb)
                replace BK516 := z5bb BK516 hb
                replace BK517 := z5bb BK517 hb
                replace BK536 := z5bb BK536 hb
                replace BK542 := z5bb BK542 hb
                replace BK548 := z5bb BK548 hb
                replace BK555 := z5bb BK555 hb
                replace BK593 := z5bb BK593 hb
                replace HB := z5k (below_step q5_1 hb)
                have HO589 := n6_;clear n6_;(try clear hb);(try clear hb2);(try clear hk);(try clear hi);(try clear ho0);refine hK.out _ _ ⟨z5bc BK516 0, z5bc BK516 1, z5bc BK516 2, z5bc BK517 0, z5bc BK517 1, z5bc BK517 2⟩ (fun hHeld => ?_);clear hK K;refine norm_ (a' := ?_) ?_ ?_;rotate_left
                ·show Act.put _ (some 99) _ = _
                 simp only [Act.put, z5a, z5b, z5c, i64_w, i32_w]
                 rfl
                refine pure_ (i := 5) (N := some 94) (v := ?_) (a' := ?_) z5D14 rfl rfl (any_of HT_.out (by kernel_rfl)) (fun _ _ _ h => h) (Or.inl ⟨by rfl, ?_⟩) ?_ ?_;rotate_left
                ·intro w'
                 go_simp
                 with_reducible rfl
                rotate_left
                ·simp only [Act.put, z5a, z5b, z5c, i64_w, i32_w]
                 rfl
                refine pure_ (i := 6) (N := some 100) (v := ?_) (a' := ?_) z5D15 rfl rfl (any_of HT_.out (by kernel_rfl)) (fun _ _ _ h => h) (Or.inl ⟨by rfl, ?_⟩) ?_ ?_;rotate_left
                ·intro w'
                 go_simp
                 with_reducible rfl
                rotate_left
                ·simp only [Act.put, z5a, z5b, z5c, i64_w, i32_w]
                 rfl
                refine pure_ (i := 7) (N := some 101) (v := ?_) (a' := ?_) z5D3 rfl rfl (any_of HT_.out (by kernel_rfl)) (fun _ _ _ h => h) (Or.inl ⟨by rfl, ?_⟩) ?_ ?_;rotate_left
                ·intro w'
                 go_simp
                 with_reducible rfl
                rotate_left
                ·simp only [Act.put, z5a, z5b, z5c, i64_w, i32_w]
                 rfl
                exact norm_ q5_49 (hCont (.slice Ao189 t577.length co189, .slice Ao190 t582.length co190, v588, gb593) _ ⟨hHeld, q5_46, q5_47, q5_48, q5_42, q5_43, q5_44, q5_45, q5_9, q5_10, q5_11, q5_12, q5_13, q5_15, q5_101, GW593.out, GE593.out, NB516_593.out, NB593_516.out, NB517_593.out, NB593_517.out, NB536_593.out, NB593_536.out, NB542_593.out, NB593_542.out, NB548_593.out, NB593_548.out, NB555_593.out, NB593_555.out, q5_1⟩)
              ·refine box_step ?hg (N := 15) ?hd (cs := #[.slice none 0 0, .int .i64 0, .int .i64 0]) (t := 25) ?hr ?_; (case hd => rfl); (case hg => rfl); (case hr => exact q5_50);intro gb593 hg w186 hbox hb;have n11_ := z5k (hbox);have n12_ := z5k ((q5_109 : w.heap.size ≤ gb593));have n13_ := z5k ((q5_109 : w.heap.size ≤ gb593));have n14_ := z5k ((q5_16 : gb516 ≠ gb593));have n15_ := z5k ((q5_17 : gb593 ≠ gb516));have n16_ := z5k ((q5_21 : gb517 ≠ gb593));have n17_ := z5k ((q5_22 : gb593 ≠ gb517));have n18_ := z5k ((q5_36 : gb536 ≠ gb593));have n19_ := z5k ((q5_37 : gb593 ≠ gb536));have n20_ := z5k ((q5_72 : gb542 ≠ gb593));have n21_ := z5k ((q5_73 : gb593 ≠ gb542));have n22_ := z5k ((q5_74 : gb548 ≠ gb593));have n23_ := z5k ((q5_75 : gb593 ≠ gb548));have n24_ := z5k ((q5_76 : gb555 ≠ gb593));have n25_ := z5k ((q5_77 : gb593 ≠ gb555))
               replace HO_537000 := z5k (Kd.R_below q5_5 hb)
               replace HO_543000 := z5k (Kd.R_below q5_6 hb)
               replace HO_549000 := z5k (Kd.R_below q5_7 hb)
               replace HO_556000 := z5k (Kd.R_below q5_8 hb)
               replace BK516 := z5bb BK516 hb
               replace BK517 := z5bb BK517 hb
               replace BK536 := z5bb BK536 hb
               replace BK542 := z5bb BK542 hb
               replace BK548 := z5bb BK548 hb
               replace BK555 := z5bb BK555 hb
               replace HB := z5k (below_step q5_0 hb)
               have BK593 := n11_;have GW593 := n12_;have GE593 := n13_;have NB516_593 := n14_;have NB593_516 := n15_;have NB517_593 := n16_;have NB593_517 := n17_;have NB536_593 := n18_;have NB593_536 := n19_;have NB542_593 := n20_;have NB593_542 := n21_;have NB548_593 := n22_;have NB593_548 := n23_;have NB555_593 := n24_;have NB593_555 := n25_;clear n11_ n12_ n13_ n14_ n15_ n16_ n17_ n18_ n19_ n20_ n21_ n22_ n23_ n24_ n25_ hb hbox hg;refine hK.out _ _ ⟨z5bc BK516 0, z5bc BK516 1, z5bc BK516 2, z5bc BK517 0, z5bc BK517 1, z5bc BK517 2⟩ (fun hHeld => ?_);clear hK K;refine norm_ (a' := ?_) ?_ ?_;rotate_left
               ·show Act.put _ (some 15) _ = _
                simp only [Act.put, z5a, z5b, z5c, i64_w, i32_w]
                rfl
               refine one_ (i := 1) (N := some 96) z5D7 rfl rfl (one_of HT_.out (by kernel_rfl)) (by decide) (fun K hK => ?_);refine goes_ Try.func14 (by kernel_rfl) rfl #[.agg #[.slice A0_0 l0_0.length c0_0, .int .i64 a0_1, .int .i64 a0_2]] (by rfl) rfl rfl q5_2 ?_
               with_reducible refine (laws_toTop.calls kj108 _ _ l0_0 a0_1 a0_2 t577 t580 t581 _ ?side1 ?side2 A172.out).mono ?_
               (case side1 => exact q5_19);(case side2 => exact HC0_0.out);rintro e w187 ⟨v578, rfl, ho0, hb⟩;refine ⟨_, rfl, ?_⟩;have n4_ := z5k (Kd.R_lower (Kd.R_new' (Kd.R_new' (Kd.R_new' (Kd.R_new' ho0 (Kd.R_lt q5_5)) (Kd.R_lt q5_6)) (Kd.R_lt q5_7)) (Kd.R_lt q5_8)) (below_size q5_1))
               replace HO_537000 := z5k (Kd.R_elder' q5_5 (Kd.R_base ho0) hb)
               replace HO_543000 := z5k (Kd.R_elder' q5_6 (Kd.R_base ho0) hb)
               replace HO_549000 := z5k (Kd.R_elder' q5_7 (Kd.R_base ho0) hb)
               replace HO_556000 := z5k (Kd.R_elder' q5_8 (Kd.R_base ho0) hb)
               replace BK516 := z5bb BK516 hb
               replace BK517 := z5bb BK517 hb
               replace BK536 := z5bb BK536 hb
               replace BK542 := z5bb BK542 hb
               replace BK548 := z5bb BK548 hb
               replace BK555 := z5bb BK555 hb
               replace BK593 := z5bb BK593 hb
               replace HB := z5k (below_step q5_1 hb)
               have HO579 := n4_;clear n4_;(try clear hb);(try clear hb2);(try clear hk);(try clear hi);(try clear ho0);refine hK.out _ _ ⟨z5bc BK516 0, z5bc BK516 1, z5bc BK516 2, z5bc BK517 0, z5bc BK517 1, z5bc BK517 2⟩ (fun hHeld => ?_);clear hK K;refine norm_ (a' := ?_) ?_ ?_;rotate_left
               ·show Act.put _ (some 96) _ = _
                simp only [Act.put, z5a, z5b, z5c, i64_w, i32_w]
                rfl
               refine one_ (i := 3) (N := some 98) z5D9 rfl rfl (one_of HT_.out (by kernel_rfl)) (by decide) (fun K hK => ?_);refine goes_ Try.func14 (by kernel_rfl) rfl #[.agg #[.slice A1_0 l1_0.length c1_0, .int .i64 a1_1, .int .i64 a1_2]] (by rfl) rfl rfl q5_2 ?_
               with_reducible refine (laws_toTop.calls kj108 _ _ l1_0 a1_1 a1_2 t582 t585 t586 _ ?side1 ?side2 A173.out).mono ?_
               (case side1 => exact q5_20);(case side2 => exact HC1_0.out);rintro e w188 ⟨v583, rfl, ho0, hb⟩;refine ⟨_, rfl, ?_⟩;have n5_ := z5k (Kd.R_lower (Kd.R_new' (Kd.R_new' (Kd.R_new' (Kd.R_new' (Kd.R_new' ho0 (Kd.R_lt q5_5)) (Kd.R_lt q5_6)) (Kd.R_lt q5_7)) (Kd.R_lt q5_8)) (Kd.R_lt q5_18)) (below_size q5_1))
               replace HO_537000 := z5k (Kd.R_elder' q5_5 (Kd.R_base ho0) hb)
               replace HO_543000 := z5k (Kd.R_elder' q5_6 (Kd.R_base ho0) hb)
               replace HO_549000 := z5k (Kd.R_elder' q5_7 (Kd.R_base ho0) hb)
               replace HO_556000 := z5k (Kd.R_elder' q5_8 (Kd.R_base ho0) hb)
               replace HO579 := z5k (Kd.R_elder' q5_18 (Kd.R_base ho0) hb)
               replace BK516 := z5bb BK516 hb
               replace BK517 := z5bb BK517 hb
               replace BK536 := z5bb BK536 hb
               replace BK542 := z5bb BK542 hb
               replace BK548 := z5bb BK548 hb
               replace BK555 := z5bb BK555 hb
               replace BK593 := z5bb BK593 hb
               replace HB := z5k (below_step q5_1 hb)
               have HO584 := n5_;clear n5_;(try clear hb);(try clear hb2);(try clear hk);(try clear hi);(try clear ho0);obtain ⟨Ao189, co189, eo189⟩ := Kd.R_slice HO579.out;(first | subst eo189 | (injection eo189 with f1_ f2_ f3_; have f4_ := f1_.symm; have f5_ := f3_.symm; clear f1_ f2_ f3_; subst f4_; subst f5_));obtain ⟨Ao190, co190, eo190⟩ := Kd.R_slice HO584.out;(first | subst eo190 | (injection eo190 with f1_ f2_ f3_; have f4_ := f1_.symm; have f5_ := f3_.symm; clear f1_ f2_ f3_; subst f4_; subst f5_));refine hK.out _ _ ⟨z5bc BK516 0, z5bc BK516 1, z5bc BK516 2, z5bc BK517 0, z5bc BK517 1, z5bc BK517 2⟩ (fun hHeld => ?_);clear hK K;refine norm_ (a' := ?_) ?_ ?_;rotate_left
               ·show Act.put _ (some 98) _ = _
                simp only [Act.put, z5a, z5b, z5c, i64_w, i32_w]
                rfl
               refine one_ (i := 4) (N := some 99) z5D13 rfl rfl (one_of HT_.out (by kernel_rfl)) (by decide) (fun K hK => ?_);refine goes_ Try.func19 (by kernel_rfl) rfl #[.agg #[.slice Ao189 t577.length co189, .int .i64 t580, .int .i64 t581], .agg #[.slice Ao190 t582.length co190, .int .i64 t585, .int .i64 t586]] (by rfl) rfl rfl q5_2 ?_
               with_reducible refine (impl_TopJoin.calls kj108 _ _ t577 t580 t581 _ _ t582 t585 t586 t587 t590 t591 t592 _ ?side1 ?side2 ?side3 ?side4 A174.out).mono ?_
               (case side1 => exact q5_64);(case side2 => exact (Kd.R_reads' HO579.out).2.1);(case side3 => exact q5_65);(case side4 => exact (Kd.R_reads' HO584.out).2.1);rintro e w191 ⟨v588, rfl, ho0, hb⟩;refine ⟨_, rfl, ?_⟩;have n6_ := z5k (Kd.R_lower (Kd.R_new' (Kd.R_new' (Kd.R_new' (Kd.R_new' (Kd.R_new' (Kd.R_new' ho0 (Kd.R_lt q5_5)) (Kd.R_lt q5_6)) (Kd.R_lt q5_7)) (Kd.R_lt q5_8)) (Kd.R_lt q5_18)) (Kd.R_lt q5_35)) (below_size q5_1))
               replace HO_537000 := z5k (Kd.R_elder' q5_5 (Kd.R_base ho0) hb)
               replace HO_543000 := z5k (Kd.R_elder' q5_6 (Kd.R_base ho0) hb)
               replace HO_549000 := z5k (Kd.R_elder' q5_7 (Kd.R_base ho0) hb)
               replace HO_556000 := z5k (Kd.R_elder' q5_8 (Kd.R_base ho0) hb)
               replace HO579 := z5k (Kd.R_elder' q5_18 (Kd.R_base ho0) hb)
               replace HO584 := z5k (Kd.R_elder' q5_35 (Kd.R_base ho0) hb)
               replace BK516 := z5bb BK516 hb
               replace BK517 := z5bb BK517 hb
               replace BK536 := z5bb BK536 hb
               replace BK542 := z5bb BK542 hb
               replace BK548 := z5bb BK548 hb
               replace BK555 := z5bb BK555 hb
               replace BK593 := z5bb BK593 hb
               replace HB := z5k (below_step q5_1 hb)
               have HO589 := n6_;clear n6_;(try clear hb);(try clear hb2);(try clear hk);(try clear hi);(try clear ho0);refine hK.out _ _ ⟨z5bc BK516 0, z5bc BK516 1, z5bc BK516 2, z5bc BK517 0, z5bc BK517 1, z5bc BK517 2⟩ (fun hHeld => ?_);clear hK K;refine norm_ (a' := ?_) ?_ ?_;rotate_left
               ·show Act.put _ (some 99) _ = _
                simp only [Act.put, z5a, z5b, z5c, i64_w, i32_w]
                rfl
               refine pure_ (i := 5) (N := some 94) (v := ?_) (a' := ?_) z5D14 rfl rfl (any_of HT_.out (by kernel_rfl)) (fun _ _ _ h => h) (Or.inl ⟨by rfl, ?_⟩) ?_ ?_;rotate_left
               ·intro w'
                go_simp
                with_reducible rfl
               rotate_left
               ·simp only [Act.put, z5a, z5b, z5c, i64_w, i32_w]
                rfl
               refine pure_ (i := 6) (N := some 100) (v := ?_) (a' := ?_) z5D15 rfl rfl (any_of HT_.out (by kernel_rfl)) (fun _ _ _ h => h) (Or.inl ⟨by rfl, ?_⟩) ?_ ?_;rotate_left
               ·intro w'
                go_simp
                with_reducible rfl
               rotate_left
               ·simp only [Act.put, z5a, z5b, z5c, i64_w, i32_w]
                rfl
               refine pure_ (i := 7) (N := some 101) (v := ?_) (a' := ?_) z5D3 rfl rfl (any_of HT_.out (by kernel_rfl)) (fun _ _ _ h => h) (Or.inl ⟨by rfl, ?_⟩) ?_ ?_;rotate_left
               ·intro w'
                go_simp
                with_reducible rfl
               rotate_left
               ·simp only [Act.put, z5a, z5b, z5c, i64_w, i32_w]
                rfl
               exact norm_ q5_49 (hCont (.slice Ao189 t577.length co189, .slice Ao190 t582.length co190, v588, gb593) _ ⟨hHeld, q5_46, q5_47, q5_48, q5_42, q5_43, q5_44, q5_45, q5_9, q5_10, q5_11, q5_12, q5_13, q5_15, q5_101, GW593.out, GE593.out, NB516_593.out, NB593_516.out, NB517_593.out, NB593_517.out, NB536_593.out, NB593_536.out, NB542_593.out, NB593_542.out, NB548_593.out, NB593_548.out, NB555_593.out, NB593_555.out, q5_1⟩)
             rintro ⟨v578, v583, v588, gb593⟩ w192 ⟨hS_, h0_, h1_, h2_, h3_, h4_, h5_, h6_, h7_, h8_, h9_, h10_, h11_, h12_, h13_, h14_, h15_, h16_, h17_, h18_, h19_, h20_, h21_, h22_, h23_, h24_, h25_, h26_, h27_, h28_⟩
             have n0_ : Aside0 (Kd.R k54 54 w192 w.heap.size (fun k_ => some k_ ≠ (v583 : Value).ownBlock ∧ some k_ ≠ (v588 : Value).ownBlock ∧ some k_ ≠ (.slice Ao41 t530.length co41 : Value).ownBlock ∧ some k_ ≠ (.slice Ao49 t570.length co49 : Value).ownBlock ∧ some k_ ≠ (.slice Ao58 t572.length co58 : Value).ownBlock ∧ some k_ ≠ (.slice Ao67 t549.length co67 : Value).ownBlock) v578 t577) := ⟨h0_⟩
             have n1_ : Aside0 (Kd.R k54 54 w192 w.heap.size (fun k_ => some k_ ≠ (v578 : Value).ownBlock ∧ some k_ ≠ (v588 : Value).ownBlock ∧ some k_ ≠ (.slice Ao41 t530.length co41 : Value).ownBlock ∧ some k_ ≠ (.slice Ao49 t570.length co49 : Value).ownBlock ∧ some k_ ≠ (.slice Ao58 t572.length co58 : Value).ownBlock ∧ some k_ ≠ (.slice Ao67 t549.length co67 : Value).ownBlock) v583 t582) := ⟨h1_⟩
             have n2_ : Aside0 (Kd.R k54 54 w192 w.heap.size (fun k_ => some k_ ≠ (v578 : Value).ownBlock ∧ some k_ ≠ (v583 : Value).ownBlock ∧ some k_ ≠ (.slice Ao41 t530.length co41 : Value).ownBlock ∧ some k_ ≠ (.slice Ao49 t570.length co49 : Value).ownBlock ∧ some k_ ≠ (.slice Ao58 t572.length co58 : Value).ownBlock ∧ some k_ ≠ (.slice Ao67 t549.length co67 : Value).ownBlock) v588 t587) := ⟨h2_⟩
             have n3_ : Aside0 (Kd.R k54 54 w192 w.heap.size (fun k_ => some k_ ≠ (v578 : Value).ownBlock ∧ some k_ ≠ (v583 : Value).ownBlock ∧ some k_ ≠ (v588 : Value).ownBlock ∧ some k_ ≠ (.slice Ao49 t570.length co49 : Value).ownBlock ∧ some k_ ≠ (.slice Ao58 t572.length co58 : Value).ownBlock ∧ some k_ ≠ (.slice Ao67 t549.length co67 : Value).ownBlock) (.slice Ao41 t530.length co41) t530) := ⟨h3_⟩
             have n4_ : Aside0 (Kd.R k54 54 w192 w.heap.size (fun k_ => some k_ ≠ (v578 : Value).ownBlock ∧ some k_ ≠ (v583 : Value).ownBlock ∧ some k_ ≠ (v588 : Value).ownBlock ∧ some k_ ≠ (.slice Ao41 t530.length co41 : Value).ownBlock ∧ some k_ ≠ (.slice Ao58 t572.length co58 : Value).ownBlock ∧ some k_ ≠ (.slice Ao67 t549.length co67 : Value).ownBlock) (.slice Ao49 t570.length co49) t570) := ⟨h4_⟩
             have n5_ : Aside0 (Kd.R k54 54 w192 w.heap.size (fun k_ => some k_ ≠ (v578 : Value).ownBlock ∧ some k_ ≠ (v583 : Value).ownBlock ∧ some k_ ≠ (v588 : Value).ownBlock ∧ some k_ ≠ (.slice Ao41 t530.length co41 : Value).ownBlock ∧ some k_ ≠ (.slice Ao49 t570.length co49 : Value).ownBlock ∧ some k_ ≠ (.slice Ao67 t549.length co67 : Value).ownBlock) (.slice Ao58 t572.length co58) t572) := ⟨h5_⟩
             have n6_ : Aside0 (Kd.R k54 54 w192 w.heap.size (fun k_ => some k_ ≠ (v578 : Value).ownBlock ∧ some k_ ≠ (v583 : Value).ownBlock ∧ some k_ ≠ (v588 : Value).ownBlock ∧ some k_ ≠ (.slice Ao41 t530.length co41 : Value).ownBlock ∧ some k_ ≠ (.slice Ao49 t570.length co49 : Value).ownBlock ∧ some k_ ≠ (.slice Ao58 t572.length co58 : Value).ownBlock) (.slice Ao67 t549.length co67) t575) := ⟨h6_⟩
             have n7_ : Aside0 (w192.heap[gb516]? = some (.cells #[.slice A0_0 l0_0.length c0_0, .int .i64 a0_1, .int .i64 a0_2] 37 (0, 0))) := ⟨h7_⟩
             have n8_ : Aside0 (w192.heap[gb517]? = some (.cells #[.slice A1_0 l1_0.length c1_0, .int .i64 a1_1, .int .i64 a1_2] 37 (0, 0))) := ⟨h8_⟩
             have n9_ : Aside0 (w192.heap[gb536]? = some (.cells #[.slice Ao41 t530.length co41, .int .i64 t533, .int .i64 t534] 25 (0, 0))) := ⟨h9_⟩
             have n10_ : Aside0 (w192.heap[gb542]? = some (.cells #[.slice Ao49 t570.length co49, .int .i64 t540, .int .i64 t541] 25 (0, 0))) := ⟨h10_⟩
             have n11_ : Aside0 (w192.heap[gb548]? = some (.cells #[.slice Ao58 t572.length co58, .int .i64 t546, .int .i64 t547] 25 (0, 0))) := ⟨h11_⟩
             have n12_ : Aside0 (w192.heap[gb555]? = some (.cells #[.slice Ao67 t549.length co67, .int .i64 t552, .int .i64 t553] 25 (0, 0))) := ⟨h12_⟩
             have n13_ : Aside0 (w192.heap[gb593]? = some (.cells #[.slice none 0 0, .int .i64 0, .int .i64 0] 25 (0, 0))) := ⟨h13_⟩
             have n14_ : Aside0 (w.heap.size ≤ gb593) := ⟨h14_⟩
             have n15_ : Aside0 (w.heap.size ≤ gb593) := ⟨h15_⟩
             have n16_ : Aside0 (gb516 ≠ gb593) := ⟨h16_⟩
             have n17_ : Aside0 (gb593 ≠ gb516) := ⟨h17_⟩
             have n18_ : Aside0 (gb517 ≠ gb593) := ⟨h18_⟩
             have n19_ : Aside0 (gb593 ≠ gb517) := ⟨h19_⟩
             have n20_ : Aside0 (gb536 ≠ gb593) := ⟨h20_⟩
             have n21_ : Aside0 (gb593 ≠ gb536) := ⟨h21_⟩
             have n22_ : Aside0 (gb542 ≠ gb593) := ⟨h22_⟩
             have n23_ : Aside0 (gb593 ≠ gb542) := ⟨h23_⟩
             have n24_ : Aside0 (gb548 ≠ gb593) := ⟨h24_⟩
             have n25_ : Aside0 (gb593 ≠ gb548) := ⟨h25_⟩
             have n26_ : Aside0 (gb555 ≠ gb593) := ⟨h26_⟩
             have n27_ : Aside0 (gb593 ≠ gb555) := ⟨h27_⟩
             have n28_ : Aside0 (Below w.heap.size w w192) := ⟨h28_⟩
             clear HO_537000 HO_543000 HO_549000 HO_556000 BK516 BK517 BK536 BK542 BK548 BK555 HB h0_ h1_ h2_ h3_ h4_ h5_ h6_ h7_ h8_ h9_ h10_ h11_ h12_ h13_ h14_ h15_ h16_ h17_ h18_ h19_ h20_ h21_ h22_ h23_ h24_ h25_ h26_ h27_ h28_;have HO579 := n0_;have HO584 := n1_;have HO589 := n2_;have HO_537000 := n3_;have HO_543000 := n4_;have HO_549000 := n5_;have HO_556000 := n6_;have BK516 := n7_;have BK517 := n8_;have BK536 := n9_;have BK542 := n10_;have BK548 := n11_;have BK555 := n12_;have BK593 := n13_;have GW593 := n14_;have GE593 := n15_;have NB516_593 := n16_;have NB593_516 := n17_;have NB517_593 := n18_;have NB593_517 := n19_;have NB536_593 := n20_;have NB593_536 := n21_;have NB542_593 := n22_;have NB593_542 := n23_;have NB548_593 := n24_;have NB593_548 := n25_;have NB555_593 := n26_;have NB593_555 := n27_;have HB := n28_;clear n0_ n1_ n2_ n3_ n4_ n5_ n6_ n7_ n8_ n9_ n10_ n11_ n12_ n13_ n14_ n15_ n16_ n17_ n18_ n19_ n20_ n21_ n22_ n23_ n24_ n25_ n26_ n27_ n28_
             have hHeld : w192.cell? ⟨gb516, 0, none⟩ = some (.slice A0_0 l0_0.length c0_0) ∧ w192.cell? ⟨gb516, 1, none⟩ = some (.int .i64 a0_1) ∧ w192.cell? ⟨gb516, 2, none⟩ = some (.int .i64 a0_2) ∧ w192.cell? ⟨gb517, 0, none⟩ = some (.slice A1_0 l1_0.length c1_0) ∧ w192.cell? ⟨gb517, 1, none⟩ = some (.int .i64 a1_1) ∧ w192.cell? ⟨gb517, 2, none⟩ = some (.int .i64 a1_2) := hS_
             obtain ⟨Ao193, co193, eo193⟩ := Kd.R_slice HO589.out;(first | subst eo193 | (injection eo193 with f1_ f2_ f3_; have f4_ := f1_.symm; have f5_ := f3_.symm; clear f1_ f2_ f3_; subst f4_; subst f5_));refine norm_ (a' := ?_) ?_ ?_;rotate_left
             ·simp only [putAll, Act.put, z5a, z5b, z5c]
              rfl
             refine one_ (i := 9) (N := none) z5D16 rfl rfl (one_of HT_.out (by kernel_rfl)) (by decide) (fun K hK => ?_)
             have hs194 : w192.cell? ⟨gb593, 0, none⟩ = some (.slice none 0 0) := z5bc BK593 0
             have hfs194 := blk_frozen BK593.out 0;have hns194_0 := NB516_593.out;have hns194_1 := NB517_593.out;have hns194_2 := NB536_593.out;have hns194_3 := NB542_593.out;have hns194_4 := NB548_593.out;have hns194_5 := NB555_593.out;have hms194_0 := NB593_516.out;have hms194_1 := NB593_517.out;have hms194_2 := NB593_536.out;have hms194_3 := NB593_542.out;have hms194_4 := NB593_548.out;have hms194_5 := NB593_555.out
             have hs195 : w192.cell? ⟨gb593, 1, none⟩ = some (.int .i64 0) := z5bc BK593 1
             have hfs195 := blk_frozen BK593.out 1;have hns195_0 := NB516_593.out;have hns195_1 := NB517_593.out;have hns195_2 := NB536_593.out;have hns195_3 := NB542_593.out;have hns195_4 := NB548_593.out;have hns195_5 := NB555_593.out;have hms195_0 := NB593_516.out;have hms195_1 := NB593_517.out;have hms195_2 := NB593_536.out;have hms195_3 := NB593_542.out;have hms195_4 := NB593_548.out;have hms195_5 := NB593_555.out
             have hs196 : w192.cell? ⟨gb593, 2, none⟩ = some (.int .i64 0) := z5bc BK593 2
             have hfs196 := blk_frozen BK593.out 2;have hns196_0 := NB516_593.out;have hns196_1 := NB517_593.out;have hns196_2 := NB536_593.out;have hns196_3 := NB542_593.out;have hns196_4 := NB548_593.out;have hns196_5 := NB555_593.out;have hms196_0 := NB593_516.out;have hms196_1 := NB593_517.out;have hms196_2 := NB593_536.out;have hms196_3 := NB593_542.out;have hms196_4 := NB593_548.out;have hms196_5 := NB593_555.out;refine skip_ (w1 := ?_) (by rfl) rfl ?_ ?_;rotate_left
             ·go_simp
              rfl
             refine hK.out _ _ ⟨((cell_far (p := ⟨gb593, _, none⟩) NB516_593.out _).trans (((cell_far (p := ⟨gb593, _, none⟩) NB516_593.out _).trans (((cell_far (p := ⟨gb593, _, none⟩) NB516_593.out _).trans (hHeld.1)))))), ((cell_far (p := ⟨gb593, _, none⟩) NB516_593.out _).trans (((cell_far (p := ⟨gb593, _, none⟩) NB516_593.out _).trans (((cell_far (p := ⟨gb593, _, none⟩) NB516_593.out _).trans (hHeld.2.1)))))), ((cell_far (p := ⟨gb593, _, none⟩) NB516_593.out _).trans (((cell_far (p := ⟨gb593, _, none⟩) NB516_593.out _).trans (((cell_far (p := ⟨gb593, _, none⟩) NB516_593.out _).trans (hHeld.2.2.1)))))), ((cell_far (p := ⟨gb593, _, none⟩) NB517_593.out _).trans (((cell_far (p := ⟨gb593, _, none⟩) NB517_593.out _).trans (((cell_far (p := ⟨gb593, _, none⟩) NB517_593.out _).trans (hHeld.2.2.2.1)))))), ((cell_far (p := ⟨gb593, _, none⟩) NB517_593.out _).trans (((cell_far (p := ⟨gb593, _, none⟩) NB517_593.out _).trans (((cell_far (p := ⟨gb593, _, none⟩) NB517_593.out _).trans (hHeld.2.2.2.2.1)))))), ((cell_far (p := ⟨gb593, _, none⟩) NB517_593.out _).trans (((cell_far (p := ⟨gb593, _, none⟩) NB517_593.out _).trans (((cell_far (p := ⟨gb593, _, none⟩) NB517_593.out _).trans (hHeld.2.2.2.2.2))))))⟩ (fun hHeld => ?_);clear hK K;refine pure_ (i := 10) (N := some 16) (v := ?_) (a' := ?_) z5D17 rfl rfl (any_of HT_.out (by kernel_rfl)) (fun _ _ _ h => h) (Or.inl ⟨by rfl, ?_⟩) ?_ ?_;rotate_left
             ·intro w'
              go_simp
              with_reducible rfl
             rotate_left
             ·simp only [Act.put, z5a, z5b, z5c, i64_w, i32_w]
              rfl
             refine done_ (done_of HT_.out (by kernel_rfl)) ?_
             go_upto_region 32 with (fail)
             go_cut [110] (fun v110 wc => ∃ (kq : Nat) (x110_174 : Bool), v110 = .bool x110_174 ∧ Aside0 (laws_FnExactTopJoin.j2 kq t574 x110_174 t575 t552 t553 = some r) ∧ Aside0 (kq ≤ kj108) ∧ Aside0 (Kd.R k54 54 wc w.heap.size (fun k_ => some k_ ≠ ((.slice Ao49 t570.length co49) : Value).ownBlock ∧ some k_ ≠ ((.slice Ao58 t572.length co58) : Value).ownBlock ∧ some k_ ≠ ((.slice Ao67 t549.length co67) : Value).ownBlock ∧ some k_ ≠ ((.slice Ao193 t587.length co193) : Value).ownBlock) (.slice Ao41 t530.length co41) t530) ∧ Aside0 (Kd.R k54 54 wc w.heap.size (fun k_ => some k_ ≠ ((.slice Ao41 t530.length co41) : Value).ownBlock ∧ some k_ ≠ ((.slice Ao58 t572.length co58) : Value).ownBlock ∧ some k_ ≠ ((.slice Ao67 t549.length co67) : Value).ownBlock ∧ some k_ ≠ ((.slice Ao193 t587.length co193) : Value).ownBlock) (.slice Ao49 t570.length co49) t570) ∧ Aside0 (Kd.R k54 54 wc w.heap.size (fun k_ => some k_ ≠ ((.slice Ao41 t530.length co41) : Value).ownBlock ∧ some k_ ≠ ((.slice Ao49 t570.length co49) : Value).ownBlock ∧ some k_ ≠ ((.slice Ao67 t549.length co67) : Value).ownBlock ∧ some k_ ≠ ((.slice Ao193 t587.length co193) : Value).ownBlock) (.slice Ao58 t572.length co58) t572) ∧ Aside0 (Kd.R k54 54 wc w.heap.size (fun k_ => some k_ ≠ ((.slice Ao41 t530.length co41) : Value).ownBlock ∧ some k_ ≠ ((.slice Ao49 t570.length co49) : Value).ownBlock ∧ some k_ ≠ ((.slice Ao58 t572.length co58) : Value).ownBlock ∧ some k_ ≠ ((.slice Ao193 t587.length co193) : Value).ownBlock) (.slice Ao67 t549.length co67) t575) ∧ Aside0 (Kd.R k54 54 wc w.heap.size (fun k_ => some k_ ≠ ((.slice Ao41 t530.length co41) : Value).ownBlock ∧ some k_ ≠ ((.slice Ao49 t570.length co49) : Value).ownBlock ∧ some k_ ≠ ((.slice Ao58 t572.length co58) : Value).ownBlock ∧ some k_ ≠ ((.slice Ao67 t549.length co67) : Value).ownBlock) (.slice Ao193 t587.length co193) t587) ∧ Aside0 (wc.heap[gb516]? = some (.cells #[(.slice A0_0 l0_0.length c0_0), .int .i64 a0_1, .int .i64 a0_2] 37 (0, 0))) ∧ Aside0 (wc.heap[gb517]? = some (.cells #[(.slice A1_0 l1_0.length c1_0), .int .i64 a1_1, .int .i64 a1_2] 37 (0, 0))) ∧ Aside0 (wc.heap[gb536]? = some (.cells #[(.slice Ao41 t530.length co41), .int .i64 t533, .int .i64 t534] 25 (0, 0))) ∧ Aside0 (wc.heap[gb542]? = some (.cells #[(.slice Ao49 t570.length co49), .int .i64 t540, .int .i64 t541] 25 (0, 0))) ∧ Aside0 (wc.heap[gb548]? = some (.cells #[(.slice Ao58 t572.length co58), .int .i64 t546, .int .i64 t547] 25 (0, 0))) ∧ Aside0 (wc.heap[gb555]? = some (.cells #[(.slice Ao67 t549.length co67), .int .i64 t552, .int .i64 t553] 25 (0, 0))) ∧ Aside0 (wc.heap[gb593]? = some (.cells #[(.slice Ao193 t587.length co193), .int .i64 t590, .int .i64 t591] 25 (0, 0))) ∧ Aside0 (Below w.heap.size w wc))
             case first =>
              have H := HC175.out;clear HC175
              replace H := Option.bind_eq_some_iff.mp H
              obtain ⟨t594, A1970, H⟩ := H
              replace H : (if t594 = true then (laws_FnExactTopJoin.j2 kj108 t574 (t592 != t535) t575 t552 t553) else (laws_FnExactTopJoin.j2 kj108 t574 true t575 t552 t553)) = some r := H
              have A197 := Aside0.mk A1970;clear A1970
              by_cases c198 : t594 = true
              ·subst c198
               have H1 : (laws_FnExactTopJoin.j2 kj108 t574 (t592 != t535) t575 t552 t553) = some r := by rw [if_pos rfl] at H; exact H
               clear H;have H := H1;clear H1
               have H' := Aside0.mk H
               clear H;have hnb199 := NB593_516.out;have hnc199 := NB516_593.out;have hnb200 := NB593_517.out;have hnc200 := NB517_593.out;have hnb201 := NB593_536.out;have hnc201 := NB536_593.out;have hnb202 := NB593_542.out;have hnc202 := NB542_593.out;have hnb203 := NB593_548.out;have hnc203 := NB548_593.out;have hnb204 := NB593_555.out;have hnc204 := NB555_593.out;have hcz205_0 := z5bc BK593 0;have hcz205_1 := z5bc BK593 1;have hcz205_2 := z5bc BK593 2;have hfz205_0 := blk_frozen BK593.out 0;have hfz205_1 := blk_frozen BK593.out 1;have hfz205_2 := blk_frozen BK593.out 2;have hnb206 := NB536_516.out;have hnc206 := NB516_536.out;have hnb207 := NB536_517.out;have hnc207 := NB517_536.out;have hnb208 := NB536_542.out;have hnc208 := NB542_536.out;have hnb209 := NB536_548.out;have hnc209 := NB548_536.out;have hnb210 := NB536_555.out;have hnc210 := NB555_536.out;have hcz211_0 := z5bc BK536 0;have hcz211_1 := z5bc BK536 1;have hcz211_2 := z5bc BK536 2;have hfz211_0 := blk_frozen BK536.out 0;have hfz211_1 := blk_frozen BK536.out 1;have hfz211_2 := blk_frozen BK536.out 2
               go_wp2_with (first | ((with_reducible refine gate_callee (f := 15) rfl ?_); refine goesL_ (some 104) rfl rfl Try.func15 (by kernel_rfl) rfl #[.agg #[.slice Ao193 t587.length co193, .int .i64 t590, .int .i64 t591], .agg #[.slice Ao41 t530.length co41, .int .i64 t533, .int .i64 t534]] rfl q5_2 ?_; (with_reducible refine (laws_eqTop.calls kj108 _ _ t587 t590 t591 _ _ t530 t533 t534 true _ ?side1 ?side2 ?side3 ?side4 A197.out).mono ?_); (case side1 => exact q5_67); (case side2 => exact (Kd.R_reads' HO589.out).2.1); (case side3 => exact q5_66); (case side4 => exact (Kd.R_reads' HO_537000.out).2.1); rintro e w212 ⟨rfl, hb⟩; refine ⟨_, rfl, ?_⟩; have n0_ := z5k (Kd.R_below q5_25 hb); have n1_ := z5k (Kd.R_below q5_78 hb); have n2_ := z5k (Kd.R_below q5_79 hb); have n3_ := z5k (Kd.R_below q5_80 hb); have n4_ := z5k (Kd.R_below q5_81 hb); have n5_ := z5k (Kd.R_below q5_82 hb); have n6_ := z5k (Kd.R_below q5_26 hb); replace BK516 := z5k (blk_below (g := gb516) (o := .cells #[.slice A0_0 l0_0.length c0_0, .int .i64 a0_1, .int .i64 a0_2] 37 (0, 0)) q5_56 hb); replace BK517 := z5k (blk_below (g := gb517) (o := .cells #[.slice A1_0 l1_0.length c1_0, .int .i64 a1_1, .int .i64 a1_2] 37 (0, 0)) q5_57 hb); replace BK536 := z5k (blk_below (g := gb536) (o := .cells #[.slice Ao41 t530.length co41, .int .i64 t533, .int .i64 t534] 25 (0, 0)) q5_58 hb); replace BK542 := z5k (blk_below (g := gb542) (o := .cells #[.slice Ao49 t570.length co49, .int .i64 t540, .int .i64 t541] 25 (0, 0)) q5_59 hb); replace BK548 := z5k (blk_below (g := gb548) (o := .cells #[.slice Ao58 t572.length co58, .int .i64 t546, .int .i64 t547] 25 (0, 0)) q5_60 hb); replace BK555 := z5k (blk_below (g := gb555) (o := .cells #[.slice Ao67 t549.length co67, .int .i64 t552, .int .i64 t553] 25 (0, 0)) q5_61 hb); replace BK593 := z5k (blk_below (g := gb593) (o := .cells #[.slice Ao193 t587.length co193, .int .i64 t590, .int .i64 t591] 25 (0, 0)) q5_40 hb); replace HB := z5k (below_step q5_1 hb); clear HO_537000; clear HO_543000; clear HO_549000; clear HO_556000; clear HO579; clear HO584; clear HO589; have HO_537000 := n0_; have HO_543000 := n1_; have HO_549000 := n2_; have HO_556000 := n3_; have HO579 := n4_; have HO584 := n5_; have HO589 := n6_; clear n0_ n1_ n2_ n3_ n4_ n5_ n6_; (try clear hb); (try clear hb2); (try clear hk); (try clear hi)))
               go_meet
               case rel => exact ⟨_, ((t592 != t535)), q5_104, H', ⟨by have := HJ24.out; have := HJ108.out; first | omega | exact Nat.le_refl _⟩, ⟨by (try simp only [hl543000_108]); (try simp only [hl549000_108]); (with_reducible repeat (first | apply Kd.R_alloc | apply Kd.R_drewN | apply Kd.R_drew)); exact Kd.R_mono HO_537000.out (fun _ hk => ⟨hk.2.2.2.1, ⟨hk.2.2.2.2.1, ⟨hk.2.2.2.2.2, hk.2.2.1⟩⟩⟩)⟩, ⟨by (try simp only [hl543000_108]); (try simp only [hl549000_108]); (with_reducible repeat (first | apply Kd.R_alloc | apply Kd.R_drewN | apply Kd.R_drew)); exact Kd.R_mono HO_543000.out (fun _ hk => ⟨hk.2.2.2.1, ⟨hk.2.2.2.2.1, ⟨hk.2.2.2.2.2, hk.2.2.1⟩⟩⟩)⟩, ⟨by (try simp only [hl543000_108]); (try simp only [hl549000_108]); (with_reducible repeat (first | apply Kd.R_alloc | apply Kd.R_drewN | apply Kd.R_drew)); exact Kd.R_mono HO_549000.out (fun _ hk => ⟨hk.2.2.2.1, ⟨hk.2.2.2.2.1, ⟨hk.2.2.2.2.2, hk.2.2.1⟩⟩⟩)⟩, ⟨by (try simp only [hl543000_108]); (try simp only [hl549000_108]); (with_reducible repeat (first | apply Kd.R_alloc | apply Kd.R_drewN | apply Kd.R_drew)); exact Kd.R_mono HO_556000.out (fun _ hk => ⟨hk.2.2.2.1, ⟨hk.2.2.2.2.1, ⟨hk.2.2.2.2.2, hk.2.2.1⟩⟩⟩)⟩, ⟨by (try simp only [hl543000_108]); (try simp only [hl549000_108]); (with_reducible repeat (first | apply Kd.R_alloc | apply Kd.R_drewN | apply Kd.R_drew)); exact Kd.R_mono HO589.out (fun _ hk => ⟨hk.2.2.1, ⟨hk.2.2.2.1, ⟨hk.2.2.2.2.1, hk.2.2.2.2.2⟩⟩⟩)⟩, ⟨by (try simp only [hl543000_108]); (try simp only [hl549000_108]); (with_reducible repeat (first | refine blk_drewN ?_ _ | refine blk_drew ?_ | refine blk_alloc ?_ _)); exact BK516.out⟩, ⟨by (try simp only [hl543000_108]); (try simp only [hl549000_108]); (with_reducible repeat (first | refine blk_drewN ?_ _ | refine blk_drew ?_ | refine blk_alloc ?_ _)); exact BK517.out⟩, ⟨by (try simp only [hl543000_108]); (try simp only [hl549000_108]); (with_reducible repeat (first | refine blk_drewN ?_ _ | refine blk_drew ?_ | refine blk_alloc ?_ _)); exact BK536.out⟩, ⟨by (try simp only [hl543000_108]); (try simp only [hl549000_108]); (with_reducible repeat (first | refine blk_drewN ?_ _ | refine blk_drew ?_ | refine blk_alloc ?_ _)); exact BK542.out⟩, ⟨by (try simp only [hl543000_108]); (try simp only [hl549000_108]); (with_reducible repeat (first | refine blk_drewN ?_ _ | refine blk_drew ?_ | refine blk_alloc ?_ _)); exact BK548.out⟩, ⟨by (try simp only [hl543000_108]); (try simp only [hl549000_108]); (with_reducible repeat (first | refine blk_drewN ?_ _ | refine blk_drew ?_ | refine blk_alloc ?_ _)); exact BK555.out⟩, ⟨by (try simp only [hl543000_108]); (try simp only [hl549000_108]); (with_reducible repeat (first | refine blk_drewN ?_ _ | refine blk_drew ?_ | refine blk_alloc ?_ _)); exact BK593.out⟩, ⟨q5_1⟩⟩
              ·replace c198 := Bool.eq_false_iff.mpr c198
               subst c198
               have H1 : (laws_FnExactTopJoin.j2 kj108 t574 true t575 t552 t553) = some r := by rw [if_neg (show ¬ (false = true) by decide)] at H; exact H
               clear H;have H := H1;clear H1
               have H' := Aside0.mk H
               clear H;have hnb213 := NB593_516.out;have hnc213 := NB516_593.out;have hnb214 := NB593_517.out;have hnc214 := NB517_593.out;have hnb215 := NB593_536.out;have hnc215 := NB536_593.out;have hnb216 := NB593_542.out;have hnc216 := NB542_593.out;have hnb217 := NB593_548.out;have hnc217 := NB548_593.out;have hnb218 := NB593_555.out;have hnc218 := NB555_593.out;have hcz219_0 := z5bc BK593 0;have hcz219_1 := z5bc BK593 1;have hcz219_2 := z5bc BK593 2;have hfz219_0 := blk_frozen BK593.out 0;have hfz219_1 := blk_frozen BK593.out 1;have hfz219_2 := blk_frozen BK593.out 2;have hnb220 := NB536_516.out;have hnc220 := NB516_536.out;have hnb221 := NB536_517.out;have hnc221 := NB517_536.out;have hnb222 := NB536_542.out;have hnc222 := NB542_536.out;have hnb223 := NB536_548.out;have hnc223 := NB548_536.out;have hnb224 := NB536_555.out;have hnc224 := NB555_536.out;have hcz225_0 := z5bc BK536 0;have hcz225_1 := z5bc BK536 1;have hcz225_2 := z5bc BK536 2;have hfz225_0 := blk_frozen BK536.out 0;have hfz225_1 := blk_frozen BK536.out 1;have hfz225_2 := blk_frozen BK536.out 2
               go_wp2_with (first | ((with_reducible refine gate_callee (f := 15) rfl ?_); refine goesL_ (some 104) rfl rfl Try.func15 (by kernel_rfl) rfl #[.agg #[.slice Ao193 t587.length co193, .int .i64 t590, .int .i64 t591], .agg #[.slice Ao41 t530.length co41, .int .i64 t533, .int .i64 t534]] rfl q5_2 ?_; (with_reducible refine (laws_eqTop.calls kj108 _ _ t587 t590 t591 _ _ t530 t533 t534 false _ ?side1 ?side2 ?side3 ?side4 A197.out).mono ?_); (case side1 => exact q5_67); (case side2 => exact (Kd.R_reads' HO589.out).2.1); (case side3 => exact q5_66); (case side4 => exact (Kd.R_reads' HO_537000.out).2.1); rintro e w226 ⟨rfl, hb⟩; refine ⟨_, rfl, ?_⟩; have n0_ := z5k (Kd.R_below q5_25 hb); have n1_ := z5k (Kd.R_below q5_78 hb); have n2_ := z5k (Kd.R_below q5_79 hb); have n3_ := z5k (Kd.R_below q5_80 hb); have n4_ := z5k (Kd.R_below q5_81 hb); have n5_ := z5k (Kd.R_below q5_82 hb); have n6_ := z5k (Kd.R_below q5_26 hb); replace BK516 := z5k (blk_below (g := gb516) (o := .cells #[.slice A0_0 l0_0.length c0_0, .int .i64 a0_1, .int .i64 a0_2] 37 (0, 0)) q5_56 hb); replace BK517 := z5k (blk_below (g := gb517) (o := .cells #[.slice A1_0 l1_0.length c1_0, .int .i64 a1_1, .int .i64 a1_2] 37 (0, 0)) q5_57 hb); replace BK536 := z5k (blk_below (g := gb536) (o := .cells #[.slice Ao41 t530.length co41, .int .i64 t533, .int .i64 t534] 25 (0, 0)) q5_58 hb); replace BK542 := z5k (blk_below (g := gb542) (o := .cells #[.slice Ao49 t570.length co49, .int .i64 t540, .int .i64 t541] 25 (0, 0)) q5_59 hb); replace BK548 := z5k (blk_below (g := gb548) (o := .cells #[.slice Ao58 t572.length co58, .int .i64 t546, .int .i64 t547] 25 (0, 0)) q5_60 hb); replace BK555 := z5k (blk_below (g := gb555) (o := .cells #[.slice Ao67 t549.length co67, .int .i64 t552, .int .i64 t553] 25 (0, 0)) q5_61 hb); replace BK593 := z5k (blk_below (g := gb593) (o := .cells #[.slice Ao193 t587.length co193, .int .i64 t590, .int .i64 t591] 25 (0, 0)) q5_40 hb); replace HB := z5k (below_step q5_1 hb); clear HO_537000; clear HO_543000; clear HO_549000; clear HO_556000; clear HO579; clear HO584; clear HO589; have HO_537000 := n0_; have HO_543000 := n1_; have HO_549000 := n2_; have HO_556000 := n3_; have HO579 := n4_; have HO584 := n5_; have HO589 := n6_; clear n0_ n1_ n2_ n3_ n4_ n5_ n6_; (try clear hb); (try clear hb2); (try clear hk); (try clear hi)))
               go_meet
               case rel => exact ⟨_, (true), q5_104, H', ⟨by have := HJ24.out; have := HJ108.out; first | omega | exact Nat.le_refl _⟩, ⟨by (try simp only [hl543000_108]); (try simp only [hl549000_108]); (with_reducible repeat (first | apply Kd.R_alloc | apply Kd.R_drewN | apply Kd.R_drew)); exact Kd.R_mono HO_537000.out (fun _ hk => ⟨hk.2.2.2.1, ⟨hk.2.2.2.2.1, ⟨hk.2.2.2.2.2, hk.2.2.1⟩⟩⟩)⟩, ⟨by (try simp only [hl543000_108]); (try simp only [hl549000_108]); (with_reducible repeat (first | apply Kd.R_alloc | apply Kd.R_drewN | apply Kd.R_drew)); exact Kd.R_mono HO_543000.out (fun _ hk => ⟨hk.2.2.2.1, ⟨hk.2.2.2.2.1, ⟨hk.2.2.2.2.2, hk.2.2.1⟩⟩⟩)⟩, ⟨by (try simp only [hl543000_108]); (try simp only [hl549000_108]); (with_reducible repeat (first | apply Kd.R_alloc | apply Kd.R_drewN | apply Kd.R_drew)); exact Kd.R_mono HO_549000.out (fun _ hk => ⟨hk.2.2.2.1, ⟨hk.2.2.2.2.1, ⟨hk.2.2.2.2.2, hk.2.2.1⟩⟩⟩)⟩, ⟨by (try simp only [hl543000_108]); (try simp only [hl549000_108]); (with_reducible repeat (first | apply Kd.R_alloc | apply Kd.R_drewN | apply Kd.R_drew)); exact Kd.R_mono HO_556000.out (fun _ hk => ⟨hk.2.2.2.1, ⟨hk.2.2.2.2.1, ⟨hk.2.2.2.2.2, hk.2.2.1⟩⟩⟩)⟩, ⟨by (try simp only [hl543000_108]); (try simp only [hl549000_108]); (with_reducible repeat (first | apply Kd.R_alloc | apply Kd.R_drewN | apply Kd.R_drew)); exact Kd.R_mono HO589.out (fun _ hk => ⟨hk.2.2.1, ⟨hk.2.2.2.1, ⟨hk.2.2.2.2.1, hk.2.2.2.2.2⟩⟩⟩)⟩, ⟨by (try simp only [hl543000_108]); (try simp only [hl549000_108]); (with_reducible repeat (first | refine blk_drewN ?_ _ | refine blk_drew ?_ | refine blk_alloc ?_ _)); exact BK516.out⟩, ⟨by (try simp only [hl543000_108]); (try simp only [hl549000_108]); (with_reducible repeat (first | refine blk_drewN ?_ _ | refine blk_drew ?_ | refine blk_alloc ?_ _)); exact BK517.out⟩, ⟨by (try simp only [hl543000_108]); (try simp only [hl549000_108]); (with_reducible repeat (first | refine blk_drewN ?_ _ | refine blk_drew ?_ | refine blk_alloc ?_ _)); exact BK536.out⟩, ⟨by (try simp only [hl543000_108]); (try simp only [hl549000_108]); (with_reducible repeat (first | refine blk_drewN ?_ _ | refine blk_drew ?_ | refine blk_alloc ?_ _)); exact BK542.out⟩, ⟨by (try simp only [hl543000_108]); (try simp only [hl549000_108]); (with_reducible repeat (first | refine blk_drewN ?_ _ | refine blk_drew ?_ | refine blk_alloc ?_ _)); exact BK548.out⟩, ⟨by (try simp only [hl543000_108]); (try simp only [hl549000_108]); (with_reducible repeat (first | refine blk_drewN ?_ _ | refine blk_drew ?_ | refine blk_alloc ?_ _)); exact BK555.out⟩, ⟨by (try simp only [hl543000_108]); (try simp only [hl549000_108]); (with_reducible repeat (first | refine blk_drewN ?_ _ | refine blk_drew ?_ | refine blk_alloc ?_ _)); exact BK593.out⟩, ⟨q5_1⟩⟩
             case rest =>
              clear HC175
              try clear c1
              try clear c2
              try clear p2
              try clear c14
              try clear c15
              try clear c19
              try clear c20
              try clear c21
              try clear c22
              try clear c198
              try clear c199
              try clear c200
              try clear c201
              try clear c202
              try clear c203
              try clear c204
              try clear c206
              try clear c207
              try clear c208
              try clear c209
              try clear c210
              try clear c213
              try clear c214
              try clear c215
              try clear c216
              try clear c217
              try clear c218
              try clear c220
              try clear c221
              try clear c222
              try clear c223
              try clear c224
              try clear hcz205_0
              try clear hcz205_1
              try clear hcz205_2
              try clear hcz211_0
              try clear hcz211_1
              try clear hcz211_2
              try clear hcz219_0
              try clear hcz219_1
              try clear hcz219_2
              try clear hcz225_0
              try clear hcz225_1
              try clear hcz225_2
              try clear hfz205_0
              try clear hfz205_1
              try clear hfz205_2
              try clear hfz211_0
              try clear hfz211_1
              try clear hfz211_2
              try clear hfz219_0
              try clear hfz219_1
              try clear hfz219_2
              try clear hfz225_0
              try clear hfz225_1
              try clear hfz225_2
              obtain ⟨kq, x110_174, rfl, HA, HJ174, HO_537000, HO_543000, HO_549000, HO_556000, HO_594000, BK516, BK517, BK536, BK542, BK548, BK555, BK593, HB⟩ := hcut;have hl556000_174 := (Kd.R_reads' HO_556000.out).1
              rw [hl556000_174] at HO_556000
              (try simp only [hl556000_174])
              (try simp only [hl556000_174] at BK516)
              (try simp only [hl556000_174] at BK517)
              (try simp only [hl556000_174] at BK536)
              (try simp only [hl556000_174] at BK542)
              (try simp only [hl556000_174] at BK548)
              (try simp only [hl556000_174] at BK555)
              (try simp only [hl556000_174] at BK593)
              (try simp only [hl556000_174] at HO_537000)
              (try simp only [hl556000_174] at HO_543000)
              (try simp only [hl556000_174] at HO_549000)
              (try simp only [hl556000_174] at HO_594000)
              cases kq with
              | zero => exact absurd HA.out (by simp [laws_FnExactTopJoin.j2])
              | succ kj174 =>
               have H := HA.out;clear HA
               simp only [laws_FnExactTopJoin.j2] at H
               by_cases c227 : x110_174 = true
               ·subst c227
                have H1 : (some false) = some r := by rw [if_pos rfl] at H; exact H
                clear H;have H := H1;clear H1
                obtain rfl := Option.some.inj H
                go_wp2
                go_ret
                exact ⟨q5_34, q5_1⟩
               ·replace c227 := Bool.eq_false_iff.mpr c227
                subst c227
                have H1 : ((laws_heldTop.f kj174 t575 t552 t553 1).bind fun t595 => (if t595 < 0 then (some false) else (if t595 = t574 then (some true) else (some false)))) = some r := by rw [if_neg (show ¬ (false = true) by decide)] at H; exact H
                clear H;have H := H1;clear H1
                replace H := Option.bind_eq_some_iff.mp H
                obtain ⟨t595, A2280, H⟩ := H
                replace H : (if t595 < 0 then (some false) else (if t595 = t574 then (some true) else (some false))) = some r := H
                have A228 := Aside0.mk A2280;clear A2280
                by_cases c229 : t595 < 0
                ·rw [if_pos c229] at H
                 have c229b0 : decide (t595 < 0) = true := decide_eq_true c229
                 clear c229
                 obtain rfl := Option.some.inj H
                 have hnb230 := NB555_516.out;have hnc230 := NB516_555.out;have hnb231 := NB555_517.out;have hnc231 := NB517_555.out;have hnb232 := NB555_536.out;have hnc232 := NB536_555.out;have hnb233 := NB555_542.out;have hnc233 := NB542_555.out;have hnb234 := NB555_548.out;have hnc234 := NB548_555.out;have hnb235 := NB555_593.out;have hnc235 := NB593_555.out;have hcz236_0 := z5bc BK555 0;have hcz236_1 := z5bc BK555 1;have hcz236_2 := z5bc BK555 2;have hfz236_0 := blk_frozen BK555.out 0;have hfz236_1 := blk_frozen BK555.out 1;have hfz236_2 := blk_frozen BK555.out 2
                 go_wp2_with (first | ((with_reducible refine gate_callee (f := 17) rfl ?_); refine goesL_ (some 113) rfl rfl Try.func17 (by kernel_rfl) rfl #[.agg #[.slice Ao67 t575.length co67, .int .i64 t552, .int .i64 t553], .int .i64 1] rfl q5_2 ?_; (with_reducible refine (laws_heldTop.calls kj174 _ _ t575 t552 t553 1 t595 _ ?side1 ?side2 A228.out).mono ?_); (case side1 => exact q5_29); (case side2 => exact (Kd.R_reads' HO_556000.out).2.1); rintro e w237 ⟨rfl, hb⟩; refine ⟨_, rfl, ?_⟩; replace HO_537000 := z5k (Kd.R_below q5_5 hb); replace HO_543000 := z5k (Kd.R_below q5_6 hb); replace HO_549000 := z5k (Kd.R_below q5_7 hb); replace HO_556000 := z5k (Kd.R_below q5_8 hb); replace HO_594000 := z5k (Kd.R_below q5_106 hb); replace BK516 := z5bb BK516 hb; replace BK517 := z5bb BK517 hb; replace BK536 := z5bb BK536 hb; replace BK542 := z5bb BK542 hb; replace BK548 := z5bb BK548 hb; replace BK555 := z5bb BK555 hb; replace BK593 := z5bb BK593 hb; replace HB := z5k (below_step q5_1 hb); (try clear hb); (try clear hb2); (try clear hk); (try clear hi)))
                 go_ret
                 exact ⟨q5_34, q5_1⟩
                ·rw [if_neg c229] at H
                 have c229b0 : decide (t595 < 0) = false := decide_eq_false c229
                 clear c229
                 by_cases c238 : t595 = t574
                 ·rw [if_pos c238] at H
                  have c238b0 : (t595 == t574) = true := beq_iff_eq.mpr c238
                  have c238b1 : (t595 != t574) = false := bne_eq_false_iff_eq.mpr c238
                  clear c238
                  obtain rfl := Option.some.inj H
                  have hnb239 := NB555_516.out;have hnc239 := NB516_555.out;have hnb240 := NB555_517.out;have hnc240 := NB517_555.out;have hnb241 := NB555_536.out;have hnc241 := NB536_555.out;have hnb242 := NB555_542.out;have hnc242 := NB542_555.out;have hnb243 := NB555_548.out;have hnc243 := NB548_555.out;have hnb244 := NB555_593.out;have hnc244 := NB593_555.out;have hcz245_0 := z5bc BK555 0;have hcz245_1 := z5bc BK555 1;have hcz245_2 := z5bc BK555 2;have hfz245_0 := blk_frozen BK555.out 0;have hfz245_1 := blk_frozen BK555.out 1;have hfz245_2 := blk_frozen BK555.out 2
                  go_wp2_with (first | ((with_reducible refine gate_callee (f := 17) rfl ?_); refine goesL_ (some 113) rfl rfl Try.func17 (by kernel_rfl) rfl #[.agg #[.slice Ao67 t575.length co67, .int .i64 t552, .int .i64 t553], .int .i64 1] rfl q5_2 ?_; (with_reducible refine (laws_heldTop.calls kj174 _ _ t575 t552 t553 1 t595 _ ?side1 ?side2 A228.out).mono ?_); (case side1 => exact q5_29); (case side2 => exact (Kd.R_reads' HO_556000.out).2.1); rintro e w246 ⟨rfl, hb⟩; refine ⟨_, rfl, ?_⟩; replace HO_537000 := z5k (Kd.R_below q5_5 hb); replace HO_543000 := z5k (Kd.R_below q5_6 hb); replace HO_549000 := z5k (Kd.R_below q5_7 hb); replace HO_556000 := z5k (Kd.R_below q5_8 hb); replace HO_594000 := z5k (Kd.R_below q5_106 hb); replace BK516 := z5bb BK516 hb; replace BK517 := z5bb BK517 hb; replace BK536 := z5bb BK536 hb; replace BK542 := z5bb BK542 hb; replace BK548 := z5bb BK548 hb; replace BK555 := z5bb BK555 hb; replace BK593 := z5bb BK593 hb; replace HB := z5k (below_step q5_1 hb); (try clear hb); (try clear hb2); (try clear hk); (try clear hi)))
                  go_ret
                  exact ⟨q5_34, q5_1⟩
                 ·rw [if_neg c238] at H
                  have c238b0 : (t595 == t574) = false := beq_eq_false_iff_ne.mpr c238
                  have c238b1 : (t595 != t574) = true := bne_iff_ne.mpr c238
                  obtain rfl := Option.some.inj H
                  have hnb247 := NB555_516.out;have hnc247 := NB516_555.out;have hnb248 := NB555_517.out;have hnc248 := NB517_555.out;have hnb249 := NB555_536.out;have hnc249 := NB536_555.out;have hnb250 := NB555_542.out;have hnc250 := NB542_555.out;have hnb251 := NB555_548.out;have hnc251 := NB548_555.out;have hnb252 := NB555_593.out;have hnc252 := NB593_555.out;have hcz253_0 := z5bc BK555 0;have hcz253_1 := z5bc BK555 1;have hcz253_2 := z5bc BK555 2;have hfz253_0 := blk_frozen BK555.out 0;have hfz253_1 := blk_frozen BK555.out 1;have hfz253_2 := blk_frozen BK555.out 2
                  go_wp2_with (first | ((with_reducible refine gate_callee (f := 17) rfl ?_); refine goesL_ (some 113) rfl rfl Try.func17 (by kernel_rfl) rfl #[.agg #[.slice Ao67 t575.length co67, .int .i64 t552, .int .i64 t553], .int .i64 1] rfl q5_2 ?_; (with_reducible refine (laws_heldTop.calls kj174 _ _ t575 t552 t553 1 t595 _ ?side1 ?side2 A228.out).mono ?_); (case side1 => exact q5_29); (case side2 => exact (Kd.R_reads' HO_556000.out).2.1); rintro e w254 ⟨rfl, hb⟩; refine ⟨_, rfl, ?_⟩; replace HO_537000 := z5k (Kd.R_below q5_5 hb); replace HO_543000 := z5k (Kd.R_below q5_6 hb); replace HO_549000 := z5k (Kd.R_below q5_7 hb); replace HO_556000 := z5k (Kd.R_below q5_8 hb); replace HO_594000 := z5k (Kd.R_below q5_106 hb); replace BK516 := z5bb BK516 hb; replace BK517 := z5bb BK517 hb; replace BK536 := z5bb BK536 hb; replace BK542 := z5bb BK542 hb; replace BK548 := z5bb BK548 hb; replace BK555 := z5bb BK555 hb; replace BK593 := z5bb BK593 hb; replace HB := z5k (below_step q5_1 hb); (try clear hb); (try clear hb2); (try clear hk); (try clear hi)))
                  go_ret
                  exact ⟨q5_34, q5_1⟩
            ·rw [if_neg c171] at H
             have c171b0 : (t576 == t574) = false := beq_eq_false_iff_ne.mpr c171
             have c171b1 : (t576 != t574) = true := bne_iff_ne.mpr c171
             obtain rfl := Option.some.inj H
             have hnb255 := NB555_516.out;have hnc255 := NB516_555.out;have hnb256 := NB555_517.out;have hnc256 := NB517_555.out;have hnb257 := NB555_536.out;have hnc257 := NB536_555.out;have hnb258 := NB555_542.out;have hnc258 := NB542_555.out;have hnb259 := NB555_548.out;have hnc259 := NB548_555.out;have hcz260_0 := z5bc BK555 0;have hcz260_1 := z5bc BK555 1;have hcz260_2 := z5bc BK555 2;have hfz260_0 := blk_frozen BK555.out 0;have hfz260_1 := blk_frozen BK555.out 1;have hfz260_2 := blk_frozen BK555.out 2
             go_wp2_with (first | ((with_reducible refine gate_callee (f := 16) rfl ?_); refine goesL_ (some 85) rfl rfl Try.func16 (by kernel_rfl) rfl #[.agg #[.slice Ao67 t549.length co67, .int .i64 t552, .int .i64 t553], .int .i64 1] rfl q5_2 ?_; (with_reducible refine (laws_markTop.calls kj108 (fun k_ => some k_ = (.slice Ao67 t549.length co67 : Value).ownBlock) (.slice Ao67 t549.length co67) t549 t552 t553 1 t574 t575 w _ ?side1 ?side2 A159.out).mono ?_); (case side1 => exact q5_0); (case side2 => exact Kd.R_tight rfl HO_556000.out); rintro e w261 ⟨rfl, hy0, hb, hkp⟩; refine ⟨_, rfl, ?_⟩; have n4_ := z5k (blk_kept q5_9 hkp (fun hs_ => (fun e_ => (Kd.R_ne HO_556000.out BK516.out (by decide)) e_) hs_)); have n5_ := z5k (blk_kept q5_10 hkp (fun hs_ => (fun e_ => (Kd.R_ne HO_556000.out BK517.out (by decide)) e_) hs_)); have n6_ := z5k (blk_kept q5_11 hkp (fun hs_ => (fun e_ => (Kd.R_ne HO_556000.out BK536.out (by decide)) e_) hs_)); have n7_ := z5k (blk_kept q5_12 hkp (fun hs_ => (fun e_ => (Kd.R_ne HO_556000.out BK542.out (by decide)) e_) hs_)); have n8_ := z5k (blk_kept q5_13 hkp (fun hs_ => (fun e_ => (Kd.R_ne HO_556000.out BK548.out (by decide)) e_) hs_)); have n9_ := z5k (blk_kept q5_15 hkp (fun hs_ => (fun e_ => (Kd.R_ne HO_556000.out BK555.out (by decide)) e_) hs_)); replace HO_537000 := z5k (Kd.R_mono (ok' := fun k_ => some k_ ≠ (.slice Ao49 t570.length co49 : Value).ownBlock ∧ some k_ ≠ (.slice Ao58 t572.length co58 : Value).ownBlock ∧ some k_ ≠ (.slice Ao67 t549.length co67 : Value).ownBlock) (Kd.R_keptB (HO_537000.out) hkp (fun k_ hk_ hs_ => (hk_.2.2) hs_)) (fun k_ hk_ => ⟨hk_.1.1, hk_.1.2.1, hk_.1.2.2⟩)); replace HO_543000 := z5k (Kd.R_mono (ok' := fun k_ => some k_ ≠ (.slice Ao41 t530.length co41 : Value).ownBlock ∧ some k_ ≠ (.slice Ao58 t572.length co58 : Value).ownBlock ∧ some k_ ≠ (.slice Ao67 t549.length co67 : Value).ownBlock) (Kd.R_keptB (HO_543000.out) hkp (fun k_ hk_ hs_ => (hk_.2.2) hs_)) (fun k_ hk_ => ⟨hk_.1.1, hk_.1.2.1, hk_.1.2.2⟩)); replace HO_549000 := z5k (Kd.R_mono (ok' := fun k_ => some k_ ≠ (.slice Ao41 t530.length co41 : Value).ownBlock ∧ some k_ ≠ (.slice Ao49 t570.length co49 : Value).ownBlock ∧ some k_ ≠ (.slice Ao67 t549.length co67 : Value).ownBlock) (Kd.R_keptB (HO_549000.out) hkp (fun k_ hk_ hs_ => (hk_.2.2) hs_)) (fun k_ hk_ => ⟨hk_.1.1, hk_.1.2.1, hk_.1.2.2⟩)); replace HO_556000 := z5k (Kd.R_reok rfl hy0 (fun k_ e_ => HO_556000.out.1 k_ e_)); replace HB := z5k (hb); clear BK516; clear BK517; clear BK536; clear BK542; clear BK548; clear BK555; have BK516 := n4_; have BK517 := n5_; have BK536 := n6_; have BK542 := n7_; have BK548 := n8_; have BK555 := n9_; clear n4_ n5_ n6_ n7_ n8_ n9_; (try clear hb); (try clear hkp); (try clear hy0); have hcz262_0 := z5bc BK555 0; have hcz262_1 := z5bc BK555 1; have hcz262_2 := z5bc BK555 2; have hfz262_0 := blk_frozen BK555.out 0; have hfz262_1 := blk_frozen BK555.out 1; have hfz262_2 := blk_frozen BK555.out 2) | ((with_reducible refine gate_callee (f := 17) rfl ?_); refine goesL_ (some 88) rfl rfl Try.func17 (by kernel_rfl) rfl #[.agg #[.slice Ao67 t575.length co67, .int .i64 t552, .int .i64 t553], .int .i64 1] rfl q5_68 ?_; (with_reducible refine (laws_heldTop.calls kj108 _ _ t575 t552 t553 1 t576 _ ?side1 ?side2 A160.out).mono ?_); (case side1 => exact q5_29); (case side2 => exact q5_105); rintro e w263 ⟨rfl, hb⟩; refine ⟨_, rfl, ?_⟩; replace HO_537000 := z5k (Kd.R_below q5_5 hb); replace HO_543000 := z5k (Kd.R_below q5_6 hb); replace HO_549000 := z5k (Kd.R_below q5_7 hb); replace HO_556000 := z5k (Kd.R_below q5_8 hb); replace BK516 := z5bb BK516 hb; replace BK517 := z5bb BK517 hb; replace BK536 := z5bb BK536 hb; replace BK542 := z5bb BK542 hb; replace BK548 := z5bb BK548 hb; replace BK555 := z5bb BK555 hb; replace HB := z5k (below_step q5_0 hb); (try clear hb); (try clear hb2); (try clear hk); (try clear hi)))
             go_ret
             exact ⟨q5_34, q5_0⟩
       ·replace c106 := Bool.eq_false_iff.mpr c106
        subst c106
        have H1 : (some false) = some r := by rw [if_neg (show ¬ (false = true) by decide)] at H; exact H
        clear H;have H := H1;clear H1
        obtain rfl := Option.some.inj H
        try go_wp2
        replace HO_537000 := z5k (Kd.R_drew HO_537000.out)
        replace HO_543000 := z5k (Kd.R_drew HO_543000.out)
        replace HO_549000 := z5k (Kd.R_drew HO_549000.out)
        replace HO_556000 := z5k (Kd.R_drew HO_556000.out)
        replace BK516 := z5k (blk_drew BK516.out)
        replace BK517 := z5k (blk_drew BK517.out)
        replace BK536 := z5k (blk_drew BK536.out)
        replace BK542 := z5k (blk_drew BK542.out)
        replace BK548 := z5k (blk_drew BK548.out)
        replace BK555 := z5k (blk_drew BK555.out)
        replace HB := z5k (below_drew1 HB.out)
        refine start_ (n := 5) (S := fun w' => w'.cell? ⟨gb542, 0, none⟩ = some (.slice Ao49 t537.length co49) ∧ w'.cell? ⟨gb542, 1, none⟩ = some (.int .i64 t540) ∧ w'.cell? ⟨gb542, 2, none⟩ = some (.int .i64 t541) ∧ w'.cell? ⟨gb516, 0, none⟩ = some (.slice A0_0 l0_0.length c0_0) ∧ w'.cell? ⟨gb516, 1, none⟩ = some (.int .i64 a0_1) ∧ w'.cell? ⟨gb516, 2, none⟩ = some (.int .i64 a0_2)) (ds := []) #[false, false, false, false, false] (by kernel_rfl) rfl rfl ⟨z5bc BK542 0, z5bc BK542 1, z5bc BK542 2, z5bc BK516 0, z5bc BK516 1, z5bc BK516 2⟩ (fun hHeld => ?_)
        generalize wc.drew = w264 at HO_537000 HO_543000 HO_549000 HO_556000 BK516 BK517 BK536 BK542 BK548 BK555 HB hHeld ⊢
        refine take_ (i := 0) (N := some 54) (v := ?_) (a' := ?_) #[true, false, false, false, false] rfl rfl (by kernel_rfl) (fun _ _ _ h => h) (Or.inl ⟨by rfl, ?_⟩) hHeld ?_ ?_;rotate_left
        ·rintro w' ⟨s0, s1, s2, s3, s4, s5⟩
         go_simp
         with_reducible rfl
        rotate_left
        ·simp only [Act.put, z5a, z5b, z5c, i64_w, i32_w]
         rfl
        refine take_ (i := 1) (N := some 55) (v := ?_) (a' := ?_) #[true, true, false, false, false] rfl rfl (by kernel_rfl) (fun _ _ _ h => h) (Or.inl ⟨by rfl, ?_⟩) hHeld ?_ ?_;rotate_left
        ·rintro w' ⟨s0, s1, s2, s3, s4, s5⟩
         go_simp
         with_reducible rfl
        rotate_left
        ·simp only [Act.put, z5a, z5b, z5c, i64_w, i32_w]
         rfl
        refine one_ (i := 2) (N := some 56) #[true, true, true, false, false] rfl rfl (by kernel_rfl) (by decide) (fun K hK => ?_);refine goes_ Try.func14 (by kernel_rfl) rfl #[.agg #[.slice A0_0 l0_0.length c0_0, .int .i64 a0_1, .int .i64 a0_2]] (by rfl) rfl rfl q5_2 ?_
        with_reducible refine (laws_toTop.calls kj24 _ _ l0_0 a0_1 a0_2 t557 t560 t561 _ ?side1 ?side2 A101.out).mono ?_
        (case side1 => exact q5_19);(case side2 => exact HC0_0.out);rintro e w265 ⟨v558, rfl, ho0, hb⟩;refine ⟨_, rfl, ?_⟩;have n4_ := z5k (Kd.R_lower (Kd.R_new' (Kd.R_new' (Kd.R_new' (Kd.R_new' ho0 (Kd.R_lt q5_5)) (Kd.R_lt q5_6)) (Kd.R_lt q5_7)) (Kd.R_lt q5_8)) (below_size q5_0))
        replace HO_537000 := z5k (Kd.R_elder' q5_5 (Kd.R_base ho0) hb)
        replace HO_543000 := z5k (Kd.R_elder' q5_6 (Kd.R_base ho0) hb)
        replace HO_549000 := z5k (Kd.R_elder' q5_7 (Kd.R_base ho0) hb)
        replace HO_556000 := z5k (Kd.R_elder' q5_8 (Kd.R_base ho0) hb)
        replace BK516 := z5bb BK516 hb
        replace BK517 := z5bb BK517 hb
        replace BK536 := z5bb BK536 hb
        replace BK542 := z5bb BK542 hb
        replace BK548 := z5bb BK548 hb
        replace BK555 := z5bb BK555 hb
        replace HB := z5k (below_step q5_0 hb)
        have HO559 := n4_;clear n4_;(try clear hb);(try clear hb2);(try clear hk);(try clear hi);(try clear ho0);obtain ⟨Ao266, co266, eo266⟩ := Kd.R_slice HO559.out;(first | subst eo266 | (injection eo266 with f1_ f2_ f3_; have f4_ := f1_.symm; have f5_ := f3_.symm; clear f1_ f2_ f3_; subst f4_; subst f5_));refine hK.out _ _ ⟨z5bc BK542 0, z5bc BK542 1, z5bc BK542 2, z5bc BK516 0, z5bc BK516 1, z5bc BK516 2⟩ (fun hHeld => ?_);clear hK K;refine norm_ (a' := ?_) ?_ ?_;rotate_left
        ·show Act.put _ (some 56) _ = _
         simp only [Act.put, z5a, z5b, z5c, i64_w, i32_w]
         rfl
        refine one_ (i := 3) (N := some 57) #[true, true, true, true, false] rfl rfl (by kernel_rfl) (by decide) (fun K hK => ?_);refine goes_ Try.func15 (by kernel_rfl) rfl #[.agg #[.slice Ao49 t537.length co49, .int .i64 t540, .int .i64 t541], .agg #[.slice Ao266 t557.length co266, .int .i64 t560, .int .i64 t561]] (by rfl) rfl rfl q5_2 ?_
        with_reducible refine (laws_eqTop.calls kj24 _ _ t537 t540 t541 _ _ t557 t560 t561 true _ ?side1 ?side2 ?side3 ?side4 A102.out).mono ?_
        (case side1 => exact q5_99);(case side2 => exact (Kd.R_reads' HO_543000.out).2.1);(case side3 => exact q5_100);(case side4 => exact (Kd.R_reads' HO559.out).2.1);rintro e w267 ⟨rfl, hb⟩;refine ⟨_, rfl, ?_⟩
        replace HO_537000 := z5k (Kd.R_below q5_5 hb)
        replace HO_543000 := z5k (Kd.R_below q5_6 hb)
        replace HO_549000 := z5k (Kd.R_below q5_7 hb)
        replace HO_556000 := z5k (Kd.R_below q5_8 hb)
        replace HO559 := z5k (Kd.R_below q5_33 hb)
        replace BK516 := z5bb BK516 hb
        replace BK517 := z5bb BK517 hb
        replace BK536 := z5bb BK536 hb
        replace BK542 := z5bb BK542 hb
        replace BK548 := z5bb BK548 hb
        replace BK555 := z5bb BK555 hb
        replace HB := z5k (below_step q5_0 hb)
        (try clear hb);(try clear hb2);(try clear hk);(try clear hi);refine hK.out _ _ ⟨z5bc BK542 0, z5bc BK542 1, z5bc BK542 2, z5bc BK516 0, z5bc BK516 1, z5bc BK516 2⟩ (fun hHeld => ?_);clear hK K;refine norm_ (a' := ?_) ?_ ?_;rotate_left
        ·show Act.put _ (some 57) _ = _
         simp only [Act.put, z5a, z5b, z5c, i64_w, i32_w]
         rfl
        refine pure_ (i := 4) (N := some 58) (v := ?_) (a' := ?_) #[true, true, true, true, true] rfl rfl (by kernel_rfl) (fun _ _ _ h => h) (Or.inl ⟨by rfl, ?_⟩) ?_ ?_;rotate_left
        ·intro w'
         go_simp
         with_reducible rfl
        rotate_left
        ·simp only [Act.put, z5a, z5b, z5c, i64_w, i32_w]
         rfl
        refine done_ (by kernel_rfl) ?_
        try go_wp2
        replace HO_537000 := z5k (Kd.R_drew HO_537000.out)
        replace HO_543000 := z5k (Kd.R_drew HO_543000.out)
        replace HO_549000 := z5k (Kd.R_drew HO_549000.out)
        replace HO_556000 := z5k (Kd.R_drew HO_556000.out)
        replace HO559 := z5k (Kd.R_drew HO559.out)
        replace BK516 := z5k (blk_drew BK516.out)
        replace BK517 := z5k (blk_drew BK517.out)
        replace BK536 := z5k (blk_drew BK536.out)
        replace BK542 := z5k (blk_drew BK542.out)
        replace BK548 := z5k (blk_drew BK548.out)
        replace BK555 := z5k (blk_drew BK555.out)
        replace HB := z5k (below_drew1 HB.out)
        refine start_ (n := 5) (S := fun w' => w'.cell? ⟨gb548, 0, none⟩ = some (.slice Ao58 t543.length co58) ∧ w'.cell? ⟨gb548, 1, none⟩ = some (.int .i64 t546) ∧ w'.cell? ⟨gb548, 2, none⟩ = some (.int .i64 t547) ∧ w'.cell? ⟨gb517, 0, none⟩ = some (.slice A1_0 l1_0.length c1_0) ∧ w'.cell? ⟨gb517, 1, none⟩ = some (.int .i64 a1_1) ∧ w'.cell? ⟨gb517, 2, none⟩ = some (.int .i64 a1_2)) (ds := []) #[false, false, false, false, false] (by kernel_rfl) rfl rfl ⟨z5bc BK548 0, z5bc BK548 1, z5bc BK548 2, z5bc BK517 0, z5bc BK517 1, z5bc BK517 2⟩ (fun hHeld => ?_)
        generalize w267.drew = w268 at HO_537000 HO_543000 HO_549000 HO_556000 HO559 BK516 BK517 BK536 BK542 BK548 BK555 HB hHeld ⊢
        refine take_ (i := 0) (N := some 59) (v := ?_) (a' := ?_) #[true, false, false, false, false] rfl rfl (by kernel_rfl) (fun _ _ _ h => h) (Or.inl ⟨by rfl, ?_⟩) hHeld ?_ ?_;rotate_left
        ·rintro w' ⟨s0, s1, s2, s3, s4, s5⟩
         go_simp
         with_reducible rfl
        rotate_left
        ·simp only [Act.put, z5a, z5b, z5c, i64_w, i32_w]
         rfl
        refine take_ (i := 1) (N := some 60) (v := ?_) (a' := ?_) #[true, true, false, false, false] rfl rfl (by kernel_rfl) (fun _ _ _ h => h) (Or.inl ⟨by rfl, ?_⟩) hHeld ?_ ?_;rotate_left
        ·rintro w' ⟨s0, s1, s2, s3, s4, s5⟩
         go_simp
         with_reducible rfl
        rotate_left
        ·simp only [Act.put, z5a, z5b, z5c, i64_w, i32_w]
         rfl
        refine one_ (i := 2) (N := some 61) #[true, true, true, false, false] rfl rfl (by kernel_rfl) (by decide) (fun K hK => ?_);refine goes_ Try.func14 (by kernel_rfl) rfl #[.agg #[.slice A1_0 l1_0.length c1_0, .int .i64 a1_1, .int .i64 a1_2]] (by rfl) rfl rfl q5_2 ?_
        with_reducible refine (laws_toTop.calls kj24 _ _ l1_0 a1_1 a1_2 t563 t566 t567 _ ?side1 ?side2 A104.out).mono ?_
        (case side1 => exact q5_20);(case side2 => exact HC1_0.out);rintro e w269 ⟨v564, rfl, ho0, hb⟩;refine ⟨_, rfl, ?_⟩;have n5_ := z5k (Kd.R_lower (Kd.R_new' (Kd.R_new' (Kd.R_new' (Kd.R_new' (Kd.R_new' ho0 (Kd.R_lt q5_5)) (Kd.R_lt q5_6)) (Kd.R_lt q5_7)) (Kd.R_lt q5_8)) (Kd.R_lt q5_33)) (below_size q5_0))
        replace HO_537000 := z5k (Kd.R_elder' q5_5 (Kd.R_base ho0) hb)
        replace HO_543000 := z5k (Kd.R_elder' q5_6 (Kd.R_base ho0) hb)
        replace HO_549000 := z5k (Kd.R_elder' q5_7 (Kd.R_base ho0) hb)
        replace HO_556000 := z5k (Kd.R_elder' q5_8 (Kd.R_base ho0) hb)
        replace HO559 := z5k (Kd.R_elder' q5_33 (Kd.R_base ho0) hb)
        replace BK516 := z5bb BK516 hb
        replace BK517 := z5bb BK517 hb
        replace BK536 := z5bb BK536 hb
        replace BK542 := z5bb BK542 hb
        replace BK548 := z5bb BK548 hb
        replace BK555 := z5bb BK555 hb
        replace HB := z5k (below_step q5_0 hb)
        have HO565 := n5_;clear n5_;(try clear hb);(try clear hb2);(try clear hk);(try clear hi);(try clear ho0);obtain ⟨Ao270, co270, eo270⟩ := Kd.R_slice HO565.out;(first | subst eo270 | (injection eo270 with f1_ f2_ f3_; have f4_ := f1_.symm; have f5_ := f3_.symm; clear f1_ f2_ f3_; subst f4_; subst f5_));refine hK.out _ _ ⟨z5bc BK548 0, z5bc BK548 1, z5bc BK548 2, z5bc BK517 0, z5bc BK517 1, z5bc BK517 2⟩ (fun hHeld => ?_);clear hK K;refine norm_ (a' := ?_) ?_ ?_;rotate_left
        ·show Act.put _ (some 61) _ = _
         simp only [Act.put, z5a, z5b, z5c, i64_w, i32_w]
         rfl
        refine one_ (i := 3) (N := some 62) #[true, true, true, true, false] rfl rfl (by kernel_rfl) (by decide) (fun K hK => ?_);refine goes_ Try.func15 (by kernel_rfl) rfl #[.agg #[.slice Ao58 t543.length co58, .int .i64 t546, .int .i64 t547], .agg #[.slice Ao270 t563.length co270, .int .i64 t566, .int .i64 t567]] (by rfl) rfl rfl q5_2 ?_
        with_reducible refine (laws_eqTop.calls kj24 _ _ t543 t546 t547 _ _ t563 t566 t567 false _ ?side1 ?side2 ?side3 ?side4 A105.out).mono ?_
        (case side1 => exact q5_110);(case side2 => exact (Kd.R_reads' HO_549000.out).2.1);(case side3 => exact q5_112);(case side4 => exact (Kd.R_reads' HO565.out).2.1);rintro e w271 ⟨rfl, hb⟩;refine ⟨_, rfl, ?_⟩
        replace HO_537000 := z5k (Kd.R_below q5_5 hb)
        replace HO_543000 := z5k (Kd.R_below q5_6 hb)
        replace HO_549000 := z5k (Kd.R_below q5_7 hb)
        replace HO_556000 := z5k (Kd.R_below q5_8 hb)
        replace HO559 := z5k (Kd.R_below q5_33 hb)
        replace HO565 := z5k (Kd.R_below q5_103 hb)
        replace BK516 := z5bb BK516 hb
        replace BK517 := z5bb BK517 hb
        replace BK536 := z5bb BK536 hb
        replace BK542 := z5bb BK542 hb
        replace BK548 := z5bb BK548 hb
        replace BK555 := z5bb BK555 hb
        replace HB := z5k (below_step q5_0 hb)
        (try clear hb);(try clear hb2);(try clear hk);(try clear hi);refine hK.out _ _ ⟨z5bc BK548 0, z5bc BK548 1, z5bc BK548 2, z5bc BK517 0, z5bc BK517 1, z5bc BK517 2⟩ (fun hHeld => ?_);clear hK K;refine norm_ (a' := ?_) ?_ ?_;rotate_left
        ·show Act.put _ (some 62) _ = _
         simp only [Act.put, z5a, z5b, z5c, i64_w, i32_w]
         rfl
        refine pure_ (i := 4) (N := some 63) (v := ?_) (a' := ?_) #[true, true, true, true, true] rfl rfl (by kernel_rfl) (fun _ _ _ h => h) (Or.inl ⟨by rfl, ?_⟩) ?_ ?_;rotate_left
        ·intro w'
         go_simp
         with_reducible rfl
        rotate_left
        ·simp only [Act.put, z5a, z5b, z5c, i64_w, i32_w]
         rfl
        refine done_ (by kernel_rfl) ?_
        try go_wp2
        go_ret
        exact ⟨q5_34, q5_0⟩
      ·replace c103 := Bool.eq_false_iff.mpr c103
       subst c103
       have H1 : (some false) = some r := by rw [if_neg (show ¬ (false = true) by decide)] at H; exact H
       clear H;have H := H1;clear H1
       obtain rfl := Option.some.inj H
       try go_wp2
       replace HO_537000 := z5k (Kd.R_drew HO_537000.out)
       replace HO_543000 := z5k (Kd.R_drew HO_543000.out)
       replace HO_549000 := z5k (Kd.R_drew HO_549000.out)
       replace HO_556000 := z5k (Kd.R_drew HO_556000.out)
       replace BK516 := z5k (blk_drew BK516.out)
       replace BK517 := z5k (blk_drew BK517.out)
       replace BK536 := z5k (blk_drew BK536.out)
       replace BK542 := z5k (blk_drew BK542.out)
       replace BK548 := z5k (blk_drew BK548.out)
       replace BK555 := z5k (blk_drew BK555.out)
       replace HB := z5k (below_drew1 HB.out)
       refine start_ (n := 5) (S := fun w' => w'.cell? ⟨gb542, 0, none⟩ = some (.slice Ao49 t537.length co49) ∧ w'.cell? ⟨gb542, 1, none⟩ = some (.int .i64 t540) ∧ w'.cell? ⟨gb542, 2, none⟩ = some (.int .i64 t541) ∧ w'.cell? ⟨gb516, 0, none⟩ = some (.slice A0_0 l0_0.length c0_0) ∧ w'.cell? ⟨gb516, 1, none⟩ = some (.int .i64 a0_1) ∧ w'.cell? ⟨gb516, 2, none⟩ = some (.int .i64 a0_2)) (ds := []) #[false, false, false, false, false] (by kernel_rfl) rfl rfl ⟨z5bc BK542 0, z5bc BK542 1, z5bc BK542 2, z5bc BK516 0, z5bc BK516 1, z5bc BK516 2⟩ (fun hHeld => ?_)
       generalize wc.drew = w272 at HO_537000 HO_543000 HO_549000 HO_556000 BK516 BK517 BK536 BK542 BK548 BK555 HB hHeld ⊢
       refine take_ (i := 0) (N := some 54) (v := ?_) (a' := ?_) #[true, false, false, false, false] rfl rfl (by kernel_rfl) (fun _ _ _ h => h) (Or.inl ⟨by rfl, ?_⟩) hHeld ?_ ?_;rotate_left
       ·rintro w' ⟨s0, s1, s2, s3, s4, s5⟩
        go_simp
        with_reducible rfl
       rotate_left
       ·simp only [Act.put, z5a, z5b, z5c, i64_w, i32_w]
        rfl
       refine take_ (i := 1) (N := some 55) (v := ?_) (a' := ?_) #[true, true, false, false, false] rfl rfl (by kernel_rfl) (fun _ _ _ h => h) (Or.inl ⟨by rfl, ?_⟩) hHeld ?_ ?_;rotate_left
       ·rintro w' ⟨s0, s1, s2, s3, s4, s5⟩
        go_simp
        with_reducible rfl
       rotate_left
       ·simp only [Act.put, z5a, z5b, z5c, i64_w, i32_w]
        rfl
       refine one_ (i := 2) (N := some 56) #[true, true, true, false, false] rfl rfl (by kernel_rfl) (by decide) (fun K hK => ?_);refine goes_ Try.func14 (by kernel_rfl) rfl #[.agg #[.slice A0_0 l0_0.length c0_0, .int .i64 a0_1, .int .i64 a0_2]] (by rfl) rfl rfl q5_2 ?_
       with_reducible refine (laws_toTop.calls kj24 _ _ l0_0 a0_1 a0_2 t557 t560 t561 _ ?side1 ?side2 A101.out).mono ?_
       (case side1 => exact q5_19);(case side2 => exact HC0_0.out);rintro e w273 ⟨v558, rfl, ho0, hb⟩;refine ⟨_, rfl, ?_⟩;have n4_ := z5k (Kd.R_lower (Kd.R_new' (Kd.R_new' (Kd.R_new' (Kd.R_new' ho0 (Kd.R_lt q5_5)) (Kd.R_lt q5_6)) (Kd.R_lt q5_7)) (Kd.R_lt q5_8)) (below_size q5_0))
       replace HO_537000 := z5k (Kd.R_elder' q5_5 (Kd.R_base ho0) hb)
       replace HO_543000 := z5k (Kd.R_elder' q5_6 (Kd.R_base ho0) hb)
       replace HO_549000 := z5k (Kd.R_elder' q5_7 (Kd.R_base ho0) hb)
       replace HO_556000 := z5k (Kd.R_elder' q5_8 (Kd.R_base ho0) hb)
       replace BK516 := z5bb BK516 hb
       replace BK517 := z5bb BK517 hb
       replace BK536 := z5bb BK536 hb
       replace BK542 := z5bb BK542 hb
       replace BK548 := z5bb BK548 hb
       replace BK555 := z5bb BK555 hb
       replace HB := z5k (below_step q5_0 hb)
       have HO559 := n4_;clear n4_;(try clear hb);(try clear hb2);(try clear hk);(try clear hi);(try clear ho0);obtain ⟨Ao274, co274, eo274⟩ := Kd.R_slice HO559.out;(first | subst eo274 | (injection eo274 with f1_ f2_ f3_; have f4_ := f1_.symm; have f5_ := f3_.symm; clear f1_ f2_ f3_; subst f4_; subst f5_));refine hK.out _ _ ⟨z5bc BK542 0, z5bc BK542 1, z5bc BK542 2, z5bc BK516 0, z5bc BK516 1, z5bc BK516 2⟩ (fun hHeld => ?_);clear hK K;refine norm_ (a' := ?_) ?_ ?_;rotate_left
       ·show Act.put _ (some 56) _ = _
        simp only [Act.put, z5a, z5b, z5c, i64_w, i32_w]
        rfl
       refine one_ (i := 3) (N := some 57) #[true, true, true, true, false] rfl rfl (by kernel_rfl) (by decide) (fun K hK => ?_);refine goes_ Try.func15 (by kernel_rfl) rfl #[.agg #[.slice Ao49 t537.length co49, .int .i64 t540, .int .i64 t541], .agg #[.slice Ao274 t557.length co274, .int .i64 t560, .int .i64 t561]] (by rfl) rfl rfl q5_2 ?_
       with_reducible refine (laws_eqTop.calls kj24 _ _ t537 t540 t541 _ _ t557 t560 t561 false _ ?side1 ?side2 ?side3 ?side4 A102.out).mono ?_
       (case side1 => exact q5_99);(case side2 => exact (Kd.R_reads' HO_543000.out).2.1);(case side3 => exact q5_100);(case side4 => exact (Kd.R_reads' HO559.out).2.1);rintro e w275 ⟨rfl, hb⟩;refine ⟨_, rfl, ?_⟩
       replace HO_537000 := z5k (Kd.R_below q5_5 hb)
       replace HO_543000 := z5k (Kd.R_below q5_6 hb)
       replace HO_549000 := z5k (Kd.R_below q5_7 hb)
       replace HO_556000 := z5k (Kd.R_below q5_8 hb)
       replace HO559 := z5k (Kd.R_below q5_33 hb)
       replace BK516 := z5bb BK516 hb
       replace BK517 := z5bb BK517 hb
       replace BK536 := z5bb BK536 hb
       replace BK542 := z5bb BK542 hb
       replace BK548 := z5bb BK548 hb
       replace BK555 := z5bb BK555 hb
       replace HB := z5k (below_step q5_0 hb)
       (try clear hb);(try clear hb2);(try clear hk);(try clear hi);refine hK.out _ _ ⟨z5bc BK542 0, z5bc BK542 1, z5bc BK542 2, z5bc BK516 0, z5bc BK516 1, z5bc BK516 2⟩ (fun hHeld => ?_);clear hK K;refine norm_ (a' := ?_) ?_ ?_;rotate_left
       ·show Act.put _ (some 57) _ = _
        simp only [Act.put, z5a, z5b, z5c, i64_w, i32_w]
        rfl
       refine pure_ (i := 4) (N := some 58) (v := ?_) (a' := ?_) #[true, true, true, true, true] rfl rfl (by kernel_rfl) (fun _ _ _ h => h) (Or.inl ⟨by rfl, ?_⟩) ?_ ?_;rotate_left
       ·intro w'
        go_simp
        with_reducible rfl
       rotate_left
       ·simp only [Act.put, z5a, z5b, z5c, i64_w, i32_w]
        rfl
       refine done_ (by kernel_rfl) ?_
       try go_wp2
       go_ret
       exact ⟨q5_34, q5_0⟩

end Go.Proofs.Ytlobnnakikgcnaa.PA
