-- Made by a program of this session (wip/tools/pr2.sh) out of the translation, by way of the printer: shared by the seat's laws.
import Derived.Test.YtnolipncjjclcaaPAx0
import Derived.Test.YtnolipncjjclcaaPAx10
import Derived.Test.YtnolipncjjclcaaPAx14
import Derived.Test.YtnolipncjjclcaaPAx26
import Derived.Test.YtnolipncjjclcaaPAx28
import Derived.Test.YtnolipncjjclcaaPAx30
import Derived.Test.YtnolipncjjclcaaPAx32
import Derived.Test.YtnolipncjjclcaaPAx34
namespace Go.Proofs.Ytnolipncjjclcaa.PA
open Go.RowKit Go.Proofs.YtnolipncjjclcaaW.PrintWords Go.Proofs.YtnolipncjjclcaaW.PrintLast Go.Proofs.YtnolipncjjclcaaW.PrintMore
attribute [local go_sem] max2_int min2_int max_two min_two max_three min_three max_four min_four   -- for this text's walks alone
set_option linter.unusedVariables false
set_option linter.unusedSimpArgs false

/-! ### laws_FnExactFewJoin: function 7 -/
mutual
def laws_FnExactFewJoin.j0 : Nat → Bool → Bool → Bool → List Int → List Int → List Int → List Int → List Int → List Int → Option (Bool)
  | 0, _, _, _, _, _, _, _, _, _ => none
  | k + 1, x7, x11, x53, x416000, x417000, x430000, x434000, x438000, x443000 => if x53 = true then (some false) else ((laws_toFew.f k x416000).bind fun t444 => ((laws_eqFew.f k x434000 t444).bind fun t447 => (if t447 = true then ((laws_toFew.f k x417000).bind fun t448 => ((laws_eqFew.f k x438000 t448).bind fun t451 => (if t451 = true then ((laws_markFew.f k x434000 1).bind fun bt452 => ((laws_markFew.f k x438000 bt452.1).bind fun bt454 => (if bt454.1 < 0 then (laws_FnExactFewJoin.j1 k x7 true x416000 x417000 x430000 x443000) else ((laws_eqFew.f k x443000 x430000).bind fun t456 => (if t456 = true then (laws_FnExactFewJoin.j1 k x7 (x11 != x7) x416000 x417000 x430000 x443000) else (laws_FnExactFewJoin.j1 k x7 true x416000 x417000 x430000 x443000)))))) else (some false)))) else (some false))))
def laws_FnExactFewJoin.j1 : Nat → Bool → Bool → List Int → List Int → List Int → List Int → Option (Bool)
  | 0, _, _, _, _, _, _ => none
  | k + 1, x7, x82, x416000, x417000, x430000, x443000 => if x82 = true then (some false) else ((laws_markFew.f k x443000 1).bind fun bt457 => ((laws_heldFew.f k bt457.2 1).bind fun t459 => (if t459 < 0 then (some false) else (if t459 = bt457.1 then ((laws_toFew.f k x416000).bind fun t460 => ((laws_toFew.f k x417000).bind fun t463 => ((impl_FewJoin.f k t460 t463).bind fun bt466 => ((laws_eqFew.f k bt466.1 x430000).bind fun t471 => (if t471 = true then (laws_FnExactFewJoin.j2 k bt457.1 (bt466.2 != x7) bt457.2) else (laws_FnExactFewJoin.j2 k bt457.1 true bt457.2)))))) else (some false)))))
def laws_FnExactFewJoin.j2 : Nat → Int → Bool → List Int → Option (Bool)
  | 0, _, _, _ => none
  | k + 1, x13, x110, x443000 => if x110 = true then (some false) else ((laws_heldFew.f k x443000 1).bind fun t472 => (if t472 < 0 then (some false) else (if t472 = x13 then (some true) else (some false))))
end
def laws_FnExactFewJoin.f (k : Nat) (l0_0 : List Int) (l1_0 : List Int) : Option (Bool) := (laws_szFew.f l0_0 1048576).bind fun t417 => (if t417 < 0 then (some true) else ((laws_szFew.f l1_0 t417).bind fun t418 => (if t418 < 0 then (some true) else ((laws_toFew.f k l0_0).bind fun t419 => ((laws_toFew.f k l1_0).bind fun t422 => ((spec_FewJoin.f k t419 t422).bind fun bt425 => ((laws_toFew.f k l0_0).bind fun t430 => ((laws_toFew.f k l1_0).bind fun t434 => ((impl_FewJoin.f k t430 t434).bind fun bt438 => ((laws_eqFew.f k bt438.1 bt425.1).bind fun t443 => (if t443 = true then (laws_FnExactFewJoin.j0 k bt425.2 bt438.2 (bt438.2 != bt425.2) l0_0 l1_0 bt425.1 t430 t434 bt438.1) else (laws_FnExactFewJoin.j0 k bt425.2 bt438.2 true l0_0 l1_0 bt425.1 t430 t434 bt438.1))))))))))))
theorem laws_FnExactFewJoin.mono_l : ∀ k, (∀ y0 y1 y2 y3 y4 y5 y6 y7 y8, LeO (laws_FnExactFewJoin.j0 k y0 y1 y2 y3 y4 y5 y6 y7 y8) (laws_FnExactFewJoin.j0 (k + 1) y0 y1 y2 y3 y4 y5 y6 y7 y8)) ∧ (∀ y0 y1 y2 y3 y4 y5, LeO (laws_FnExactFewJoin.j1 k y0 y1 y2 y3 y4 y5) (laws_FnExactFewJoin.j1 (k + 1) y0 y1 y2 y3 y4 y5)) ∧ (∀ y0 y1 y2, LeO (laws_FnExactFewJoin.j2 k y0 y1 y2) (laws_FnExactFewJoin.j2 (k + 1) y0 y1 y2))
  | 0 => ⟨fun _ _ _ _ _ _ _ _ _ r h => by simp [laws_FnExactFewJoin.j0] at h, fun _ _ _ _ _ _ r h => by simp [laws_FnExactFewJoin.j1] at h, fun _ _ _ r h => by simp [laws_FnExactFewJoin.j2] at h⟩
  | k + 1 => by
    obtain ⟨ih0, ih1, ih2⟩ := laws_FnExactFewJoin.mono_l k
    refine ⟨?_, ?_, ?_⟩
    · intro y0 y1 y2 y3 y4 y5 y6 y7 y8
      unfold laws_FnExactFewJoin.j0
      repeat' first
      | (with_reducible exact ih0 _ _ _ _ _ _ _ _ _)
      | (with_reducible exact ih1 _ _ _ _ _ _)
      | (with_reducible exact ih2 _ _ _)
      | (with_reducible exact impl_FewJoin.mono _ _ _)
      | (with_reducible exact laws_eqFew.mono _ _ _)
      | (with_reducible exact laws_heldFew.mono _ _ _)
      | (with_reducible exact laws_markFew.mono _ _ _)
      | (with_reducible exact laws_toFew.mono _ _)
      | (with_reducible exact spec_FewJoin.mono _ _ _)
      | (with_reducible exact LeO.refl _)
      | (with_reducible exact LeO.none _)
      | (with_reducible refine LeO.ite ?_ ?_)
      | (with_reducible refine LeO.bind ?_ (fun _ => ?_))
      | exact ih0 _ _ _ _ _ _ _ _ _
      | exact ih1 _ _ _ _ _ _
      | exact ih2 _ _ _
      | exact impl_FewJoin.mono _ _ _
      | exact laws_eqFew.mono _ _ _
      | exact laws_heldFew.mono _ _ _
      | exact laws_markFew.mono _ _ _
      | exact laws_toFew.mono _ _
      | exact spec_FewJoin.mono _ _ _
      | exact LeO.none _
      | refine LeO.ite ?_ ?_
      | refine LeO.bind ?_ (fun _ => ?_)
    · intro y0 y1 y2 y3 y4 y5
      unfold laws_FnExactFewJoin.j1
      repeat' first
      | (with_reducible exact ih0 _ _ _ _ _ _ _ _ _)
      | (with_reducible exact ih1 _ _ _ _ _ _)
      | (with_reducible exact ih2 _ _ _)
      | (with_reducible exact impl_FewJoin.mono _ _ _)
      | (with_reducible exact laws_eqFew.mono _ _ _)
      | (with_reducible exact laws_heldFew.mono _ _ _)
      | (with_reducible exact laws_markFew.mono _ _ _)
      | (with_reducible exact laws_toFew.mono _ _)
      | (with_reducible exact spec_FewJoin.mono _ _ _)
      | (with_reducible exact LeO.refl _)
      | (with_reducible exact LeO.none _)
      | (with_reducible refine LeO.ite ?_ ?_)
      | (with_reducible refine LeO.bind ?_ (fun _ => ?_))
      | exact ih0 _ _ _ _ _ _ _ _ _
      | exact ih1 _ _ _ _ _ _
      | exact ih2 _ _ _
      | exact impl_FewJoin.mono _ _ _
      | exact laws_eqFew.mono _ _ _
      | exact laws_heldFew.mono _ _ _
      | exact laws_markFew.mono _ _ _
      | exact laws_toFew.mono _ _
      | exact spec_FewJoin.mono _ _ _
      | exact LeO.none _
      | refine LeO.ite ?_ ?_
      | refine LeO.bind ?_ (fun _ => ?_)
    · intro y0 y1 y2
      unfold laws_FnExactFewJoin.j2
      repeat' first
      | (with_reducible exact ih0 _ _ _ _ _ _ _ _ _)
      | (with_reducible exact ih1 _ _ _ _ _ _)
      | (with_reducible exact ih2 _ _ _)
      | (with_reducible exact impl_FewJoin.mono _ _ _)
      | (with_reducible exact laws_eqFew.mono _ _ _)
      | (with_reducible exact laws_heldFew.mono _ _ _)
      | (with_reducible exact laws_markFew.mono _ _ _)
      | (with_reducible exact laws_toFew.mono _ _)
      | (with_reducible exact spec_FewJoin.mono _ _ _)
      | (with_reducible exact LeO.refl _)
      | (with_reducible exact LeO.none _)
      | (with_reducible refine LeO.ite ?_ ?_)
      | (with_reducible refine LeO.bind ?_ (fun _ => ?_))
      | exact ih0 _ _ _ _ _ _ _ _ _
      | exact ih1 _ _ _ _ _ _
      | exact ih2 _ _ _
      | exact impl_FewJoin.mono _ _ _
      | exact laws_eqFew.mono _ _ _
      | exact laws_heldFew.mono _ _ _
      | exact laws_markFew.mono _ _ _
      | exact laws_toFew.mono _ _
      | exact spec_FewJoin.mono _ _ _
      | exact LeO.none _
      | refine LeO.ite ?_ ?_
      | refine LeO.bind ?_ (fun _ => ?_)
theorem laws_FnExactFewJoin.mono : ∀ a0 a1 k, LeO (laws_FnExactFewJoin.f k a0 a1) (laws_FnExactFewJoin.f (k + 1) a0 a1) := by
  intro a0 a1 k
  obtain ⟨ih0, ih1, ih2⟩ := laws_FnExactFewJoin.mono_l k
  unfold laws_FnExactFewJoin.f
  repeat' first
      | (with_reducible exact ih0 _ _ _ _ _ _ _ _ _)
      | (with_reducible exact ih1 _ _ _ _ _ _)
      | (with_reducible exact ih2 _ _ _)
      | (with_reducible exact impl_FewJoin.mono _ _ _)
      | (with_reducible exact laws_eqFew.mono _ _ _)
      | (with_reducible exact laws_heldFew.mono _ _ _)
      | (with_reducible exact laws_markFew.mono _ _ _)
      | (with_reducible exact laws_toFew.mono _ _)
      | (with_reducible exact spec_FewJoin.mono _ _ _)
      | (with_reducible exact LeO.refl _)
      | (with_reducible exact LeO.none _)
      | (with_reducible refine LeO.ite ?_ ?_)
      | (with_reducible refine LeO.bind ?_ (fun _ => ?_))
      | exact ih0 _ _ _ _ _ _ _ _ _
      | exact ih1 _ _ _ _ _ _
      | exact ih2 _ _ _
      | exact impl_FewJoin.mono _ _ _
      | exact laws_eqFew.mono _ _ _
      | exact laws_heldFew.mono _ _ _
      | exact laws_markFew.mono _ _ _
      | exact laws_toFew.mono _ _
      | exact spec_FewJoin.mono _ _ _
      | exact LeO.none _
      | refine LeO.ite ?_ ?_
      | refine LeO.bind ?_ (fun _ => ?_)
def laws_FnExactFewJoin.T8 : Bool × List (List Nat × List Nat) := (true, [([], []), ([0], [0]), ([], []), ([2, 1], [2]), ([1, 3, 3], [1, 3]), ([4], [4]), ([5], [5]), ([5], [5]), ([], []), ([8, 6, 4, 0, 1, 2, 3, 4, 5, 6, 8], [6, 8]), ([7, 9, 0, 1, 2, 3, 4, 5, 6, 7, 8, 9], [7])])
def laws_FnExactFewJoin.B8 : List Nat := [0, 1, 0, 7, 15, 31, 63, 63, 0, 383, 1023]
theorem laws_FnExactFewJoin.tab8 : rtab .any (opsOf Try.f7 8) = laws_FnExactFewJoin.T8 := by kernel_rfl
theorem laws_FnExactFewJoin.bits8 : waitsOk laws_FnExactFewJoin.T8.2 laws_FnExactFewJoin.B8 = true := by kernel_rfl
def laws_FnExactFewJoin.T31 : Bool × List (List Nat × List Nat) := (true, [([], []), ([0], [0]), ([], []), ([2, 1], [2]), ([1, 3, 3], [1, 3]), ([4], [4]), ([5], [5]), ([5], [5]), ([], []), ([8, 6, 4, 0, 1, 2, 3, 4, 5, 6, 8], [6, 8]), ([7, 9, 0, 1, 2, 3, 4, 5, 6, 7, 8, 9], [7])])
def laws_FnExactFewJoin.B31 : List Nat := [0, 1, 0, 7, 15, 31, 63, 63, 0, 383, 1023]
theorem laws_FnExactFewJoin.tab31 : rtab .any (opsOf Try.f7 31) = laws_FnExactFewJoin.T31 := by kernel_rfl
theorem laws_FnExactFewJoin.bits31 : waitsOk laws_FnExactFewJoin.T31.2 laws_FnExactFewJoin.B31 = true := by kernel_rfl
abbrev laws_FnExactFewJoin.D0 : Array Bool := #[false, false, false, false, false, false, false, false, false, false, false]
abbrev laws_FnExactFewJoin.D1 : Array Bool := #[true, false, false, false, false, false, false, false, false, false, false]
abbrev laws_FnExactFewJoin.D2 : Array Bool := #[true, false, true, false, false, false, false, false, false, false, false]
abbrev laws_FnExactFewJoin.D3 : Array Bool := #[true, true, true, true, true, true, true, true, true, false, false]
abbrev laws_FnExactFewJoin.D4 : Array Bool := #[true, true, true, false, false, false, false, false, false, false, false]
abbrev laws_FnExactFewJoin.D5 : Array Bool := #[true, false, true, false, false, false, false, false, true, false, false]
abbrev laws_FnExactFewJoin.D6 : Array Bool := #[true, true, true, true, false, false, false, false, false, false, false]
abbrev laws_FnExactFewJoin.D7 : Array Bool := #[true, true, true, false, false, false, false, false, true, false, false]
abbrev laws_FnExactFewJoin.D8 : Array Bool := #[true, true, true, true, true, false, false, false, false, false, false]
abbrev laws_FnExactFewJoin.D9 : Array Bool := #[true, true, true, true, false, false, false, false, true, false, false]
abbrev laws_FnExactFewJoin.D10 : Array Bool := #[true, true, true, true, true, true, false, false, false, false, false]
abbrev laws_FnExactFewJoin.D11 : Array Bool := #[true, true, true, true, true, true, true, false, false, false, false]
abbrev laws_FnExactFewJoin.D12 : Array Bool := #[true, true, true, true, true, true, true, true, false, false, false]
abbrev laws_FnExactFewJoin.D13 : Array Bool := #[true, true, true, true, true, false, false, false, true, false, false]
abbrev laws_FnExactFewJoin.D14 : Array Bool := #[true, true, true, true, true, true, false, false, true, false, false]
abbrev laws_FnExactFewJoin.D15 : Array Bool := #[true, true, true, true, true, true, true, false, true, false, false]
abbrev laws_FnExactFewJoin.D16 : Array Bool := #[true, true, true, true, true, true, true, true, true, true, false]
abbrev laws_FnExactFewJoin.D17 : Array Bool := #[true, true, true, true, true, true, true, true, true, true, true]
theorem z7k {p : Prop} (h : p) : Aside0 p := ⟨h⟩
theorem z7a {α : Type _} {l : List α} {i : Nat} {a : α} : l.toArray.setIfInBounds i a = (l.set i a).toArray := List.setIfInBounds_toArray ..
theorem z7b {α : Type _} {x a : α} {xs : List α} : (x :: xs).set 0 a = a :: xs := List.set_cons_zero
theorem z7c {α : Type _} {x a : α} {xs : List α} {i : Nat} : (x :: xs).set (i + 1) a = x :: xs.set i a := List.set_cons_succ
theorem q7_0 {p : Prop} (h : p := by repeat (first | (with_reducible first | exact HB.out | apply below_alloc | apply pw_below_drewN | apply below_drew1 | refine below_set ?_ GE415.out | refine below_set ?_ GE416.out | refine below_set ?_ GE429.out | refine below_set ?_ GE433.out | refine below_set ?_ GE437.out | refine below_set ?_ GE442.out) | exact HB.out)) : p := h
theorem q7_1 {p : Prop} (h : p := by (with_reducible repeat (first | refine blk_drewN ?_ _ | refine blk_drew ?_ | refine blk_alloc ?_ _)); exact BK415.out) : p := h
theorem q7_2 {p : Prop} (h : p := by (with_reducible repeat (first | refine blk_drewN ?_ _ | refine blk_drew ?_ | refine blk_alloc ?_ _)); exact BK416.out) : p := h
theorem q7_3 {p : Prop} (h : p := by repeat (first | (with_reducible first | exact HB.out | apply below_alloc | apply pw_below_drewN | apply below_drew1 | refine below_set ?_ GE415.out | refine below_set ?_ GE416.out | refine below_set ?_ GE429.out | refine below_set ?_ GE433.out | refine below_set ?_ GE437.out | refine below_set ?_ GE442.out | refine below_set ?_ GE470.out) | exact HB.out)) : p := h
theorem q7_4 {p : Prop} (h : p := by (with_reducible repeat (first | refine blk_drewN ?_ _ | refine blk_drew ?_ | refine blk_alloc ?_ _)); exact BK429.out) : p := h
theorem q7_5 {p : Prop} (h : p := by (try simp only [List.map_toArray, List.map_cons, List.map_nil]); first | done | rfl | (simp only [List.length_drop, List.length_take]; rfl)) : p := h
theorem q7_6 {p : Prop} (h : p := by (with_reducible repeat (first | refine blk_drewN ?_ _ | refine blk_drew ?_ | refine blk_alloc ?_ _)); exact BK433.out) : p := h
theorem q7_7 {p : Prop} (h : p := by (with_reducible repeat (first | refine blk_drewN ?_ _ | refine blk_drew ?_ | refine blk_alloc ?_ _)); exact BK437.out) : p := h
theorem q7_8 {p : Prop} (h : p := by (with_reducible repeat (first | refine blk_drewN ?_ _ | refine blk_drew ?_ | refine blk_alloc ?_ _)); exact BK442.out) : p := h
theorem q7_9 {p : Prop} (h : p := by repeat (first | (with_reducible first | exact HB.out | apply below_alloc | apply pw_below_drewN | apply below_drew1 | refine below_set ?_ GE415.out | refine below_set ?_ GE416.out | refine below_set ?_ GE429.out) | exact HB.out)) : p := h
theorem q7_10 {p : Prop} (h : p := by repeat (first | (with_reducible first | exact HB.out | apply below_alloc | apply pw_below_drewN | apply below_drew1 | refine below_set ?_ GE415.out | refine below_set ?_ GE416.out) | exact HB.out)) : p := h
theorem q7_11 {p : Prop} (h : p := by (with_reducible repeat (first | apply Kd.R_alloc | apply Kd.R_drewN | apply Kd.R_drew)); exact HO_430000.out) : p := h
theorem q7_12 {p : Prop} (h : p := by (with_reducible repeat (first | apply Kd.R_alloc | apply Kd.R_drewN | apply Kd.R_drew)); exact HO_434000.out) : p := h
theorem q7_13 {p : Prop} (h : p := by (with_reducible repeat (first | apply Kd.R_alloc | apply Kd.R_drewN | apply Kd.R_drew)); exact HO_438000.out) : p := h
theorem q7_14 {p : Prop} (h : p := by (with_reducible repeat (first | apply Kd.R_alloc | apply Kd.R_drewN | apply Kd.R_drew)); exact HO_443000.out) : p := h
theorem q7_15 {p : Prop} (h : p := by (with_reducible repeat (first | apply Kd.R_alloc | apply Kd.R_drewN | apply Kd.R_drew)); exact HO421.out) : p := h
theorem q7_16 {p : Prop} (h : p := by (with_reducible repeat (first | apply Kd.R_alloc | apply Kd.R_drewN | apply Kd.R_drew)); exact HO462.out) : p := h
theorem q7_17 {p : Prop} (h : p := by repeat (first | exact (Kd.C_below HR0_0.out HB.out) | (with_reducible refine Kd.C_alloc ?_ _) | (with_reducible refine Kd.C_drewN ?_ _) | (with_reducible refine Kd.C_drew ?_))) : p := h
theorem q7_18 {p : Prop} (h : p := by repeat (first | exact (Kd.C_below HR1_0.out HB.out) | (with_reducible refine Kd.C_alloc ?_ _) | (with_reducible refine Kd.C_drewN ?_ _) | (with_reducible refine Kd.C_drew ?_))) : p := h
theorem q7_19 {p : Prop} (h : p := by rw [hg]; exact Nat.ne_of_lt (blk_lt (g := gb415) (o := .cells #[.slice A0_0 l0_0.length c0_0] 37 (0, 0)) q7_1)) : p := h
theorem q7_20 {p : Prop} (h : p := by rw [hg]; exact Nat.ne_of_gt (blk_lt (g := gb415) (o := .cells #[.slice A0_0 l0_0.length c0_0] 37 (0, 0)) q7_1)) : p := h
theorem q7_21 {p : Prop} (h : p := by (with_reducible repeat (first | refine blk_drewN ?_ _ | refine blk_drew ?_ | refine blk_alloc ?_ _)); exact BK470.out) : p := h
theorem q7_22 {p : Prop} (h : p := by repeat (first | (with_reducible first | exact HB.out | apply below_alloc | apply pw_below_drewN | apply below_drew1 | refine below_set ?_ GE415.out | refine below_set ?_ GE416.out | refine below_set ?_ GE429.out | refine below_set ?_ GE433.out) | exact HB.out)) : p := h
theorem q7_23 {p : Prop} (h : p := by repeat (first | (with_reducible first | exact HB.out | apply below_alloc | apply pw_below_drewN | apply below_drew1 | refine below_set ?_ GE415.out) | exact HB.out)) : p := h
theorem q7_24 {p : Prop} (h : p := by repeat (first | exact (Kd.R_reads' HO_443000.out).2.2 | (with_reducible refine Kd.C_alloc ?_ _) | (with_reducible refine Kd.C_drewN ?_ _) | (with_reducible refine Kd.C_drew ?_))) : p := h
theorem q7_25 {p : Prop} (h : p := by (with_reducible repeat (first | apply Kd.R_alloc | apply Kd.R_drewN | apply Kd.R_drew)); exact HO424.out) : p := h
theorem q7_26 {p : Prop} (h : p := by repeat (first | (with_reducible first | exact HB.out | apply below_alloc | apply pw_below_drewN | apply below_drew1 | refine below_set ?_ GE415.out | refine below_set ?_ GE416.out | refine below_set ?_ GE429.out | refine below_set ?_ GE433.out | refine below_set ?_ GE437.out) | exact HB.out)) : p := h
theorem q7_27 {p : Prop} (h : p := by rw [hg]; exact Nat.ne_of_lt (blk_lt (g := gb416) (o := .cells #[.slice A1_0 l1_0.length c1_0] 37 (0, 0)) q7_2)) : p := h
theorem q7_28 {p : Prop} (h : p := by rw [hg]; exact Nat.ne_of_gt (blk_lt (g := gb416) (o := .cells #[.slice A1_0 l1_0.length c1_0] 37 (0, 0)) q7_2)) : p := h
theorem q7_29 {p : Prop} (h : p := by repeat (first | (with_reducible first | exact HB.out | apply below_alloc | apply pw_below_drewN | apply below_drew1) | exact HB.out)) : p := h
theorem q7_30 {p : Prop} (h : p := by (with_reducible repeat (first | apply Kd.R_alloc | apply Kd.R_drewN | apply Kd.R_drew)); exact HO446.out) : p := h
theorem q7_31 {p : Prop} (h : p := by first | rfl | (simp [errW_none, errW_some] <;> rfl) | (simp [*, errW_none, errW_some] <;> rfl)) : p := h
theorem q7_32 {p : Prop} (h : p := by (with_reducible repeat (first | apply Kd.R_alloc | apply Kd.R_drewN | apply Kd.R_drew)); exact HO465.out) : p := h
theorem q7_33 {p : Prop} (h : p := by (with_reducible repeat (first | apply Kd.R_alloc | apply Kd.R_drewN | apply Kd.R_drew)); exact (Kd.R_mono (Kd.R_far (p := ⟨gb470, 0, none⟩) (Kd.R_types HO_430000.out BK470.out (by decide)) (fun _ hk => hk.2) (.slice Ao191 t466.length co191)) (fun _ h_ => h_.1))) : p := h
theorem q7_34 {p : Prop} (h : p := by (with_reducible repeat (first | apply Kd.R_alloc | apply Kd.R_drewN | apply Kd.R_drew)); exact (Kd.R_mono (Kd.R_far (p := ⟨gb470, 0, none⟩) (Kd.R_types HO468.out BK470.out (by decide)) (fun _ hk => hk.2) (.slice Ao191 t466.length co191)) (fun _ h_ => h_.1))) : p := h
theorem q7_35 {p : Prop} (h : p := by (with_reducible repeat (first | apply Kd.R_alloc | apply Kd.R_drewN | apply Kd.R_drew)); exact (Kd.R_mono (Kd.R_far (p := ⟨gb442, 0, none⟩) (Kd.R_types HO440.out BK442.out (by decide)) (fun _ hk => hk.2) (.slice Ao65 t438.length co65)) (fun _ h_ => h_.1))) : p := h
theorem q7_36 {p : Prop} (h : p := by (with_reducible repeat (first | apply Kd.R_alloc | apply Kd.R_drewN | apply Kd.R_drew)); exact (Kd.R_mono (Kd.R_far (p := ⟨gb442, 0, none⟩) (Kd.R_types HO427.out BK442.out (by decide)) (fun _ hk => hk.2) (.slice Ao65 t438.length co65)) (fun _ h_ => h_.1))) : p := h
theorem q7_37 {p : Prop} (h : p := by (with_reducible repeat (first | apply Kd.R_alloc | apply Kd.R_drewN | apply Kd.R_drew)); exact Kd.R_mono HO_430000.out (fun _ hk => ⟨hk.1.1.2, ⟨hk.1.2, ⟨hk.2, ⟨hk.1.1.1.1, ⟨hk.1.1.1.2.1, hk.1.1.1.2.2⟩⟩⟩⟩⟩)) : p := h
theorem q7_38 {p : Prop} (h : p := by (with_reducible repeat (first | apply Kd.R_alloc | apply Kd.R_drewN | apply Kd.R_drew)); exact Kd.R_mono HO_434000.out (fun _ hk => ⟨hk.1.1.2, ⟨hk.1.2, ⟨hk.2, ⟨hk.1.1.1.1, ⟨hk.1.1.1.2.1, hk.1.1.1.2.2⟩⟩⟩⟩⟩)) : p := h
theorem q7_39 {p : Prop} (h : p := by (with_reducible repeat (first | apply Kd.R_alloc | apply Kd.R_drewN | apply Kd.R_drew)); exact Kd.R_mono HO_438000.out (fun _ hk => ⟨hk.1.1.2, ⟨hk.1.2, ⟨hk.2, ⟨hk.1.1.1.1, ⟨hk.1.1.1.2.1, hk.1.1.1.2.2⟩⟩⟩⟩⟩)) : p := h
theorem q7_40 {p : Prop} (h : p := by (with_reducible repeat (first | apply Kd.R_alloc | apply Kd.R_drewN | apply Kd.R_drew)); exact Kd.R_mono HO_443000.out (fun _ hk => ⟨hk.1.1.2, ⟨hk.1.2, ⟨hk.2, ⟨hk.1.1.1.1, ⟨hk.1.1.1.2.1, hk.1.1.1.2.2⟩⟩⟩⟩⟩)) : p := h
theorem q7_41 {p : Prop} (h : p := by (with_reducible repeat (first | apply Kd.R_alloc | apply Kd.R_drewN | apply Kd.R_drew)); exact Kd.R_mono HO462.out (fun _ hk => ⟨hk.1.2, ⟨hk.2, ⟨hk.1.1.1.1.1.2, ⟨hk.1.1.1.1.2, ⟨hk.1.1.1.2, hk.1.1.2⟩⟩⟩⟩⟩)) : p := h
theorem q7_42 {p : Prop} (h : p := by (with_reducible repeat (first | apply Kd.R_alloc | apply Kd.R_drewN | apply Kd.R_drew)); exact Kd.R_mono HO465.out (fun _ hk => ⟨hk.1.2, ⟨hk.2, ⟨hk.1.1.1.1.1.2, ⟨hk.1.1.1.1.2, ⟨hk.1.1.1.2, hk.1.1.2⟩⟩⟩⟩⟩)) : p := h
theorem q7_43 {p : Prop} (h : p := by (with_reducible repeat (first | apply Kd.R_alloc | apply Kd.R_drewN | apply Kd.R_drew)); exact Kd.R_mono HO468.out (fun _ hk => ⟨hk.1.2, ⟨hk.2, ⟨hk.1.1.1.1.1.2, ⟨hk.1.1.1.1.2, ⟨hk.1.1.1.2, hk.1.1.2⟩⟩⟩⟩⟩)) : p := h
theorem q7_44 {p : Prop} (h : p := by rw [hg]; exact Nat.ne_of_lt (blk_lt (g := gb429) (o := .cells #[.slice Ao41 t425.length co41] 25 (0, 0)) q7_4)) : p := h
theorem q7_45 {p : Prop} (h : p := by rw [hg]; exact Nat.ne_of_gt (blk_lt (g := gb429) (o := .cells #[.slice Ao41 t425.length co41] 25 (0, 0)) q7_4)) : p := h
theorem q7_46 {p : Prop} (h : p := by simp only [putAll, Act.put, z7a, z7b, z7c]) : p := h
theorem q7_47 {p : Prop} (h : p := by first | (go_simp; done) | (go_simp; rfl)) : p := h
theorem q7_48 {p : Prop} (h : p := by (with_reducible repeat (first | apply Kd.R_alloc | apply Kd.R_drewN | apply Kd.R_drew)); exact (Kd.R_mono (Kd.R_far (p := ⟨gb437, 0, none⟩) (Kd.R_types HO432.out BK437.out (by decide)) (fun _ hk => hk.2) (.slice Ao56 t434.length co56)) (fun _ h_ => h_.1))) : p := h
theorem q7_49 {p : Prop} (h : p := by (with_reducible repeat (first | apply Kd.R_alloc | apply Kd.R_drewN | apply Kd.R_drew)); exact (Kd.R_mono (Kd.R_far (p := ⟨gb437, 0, none⟩) (Kd.R_types HO436.out BK437.out (by decide)) (fun _ hk => hk.2) (.slice Ao56 t434.length co56)) (fun _ h_ => h_.1))) : p := h
theorem q7_50 {p : Prop} (h : p := by repeat (first | exact (Kd.R_reads' HO421.out).2.2 | (with_reducible refine Kd.C_alloc ?_ _) | (with_reducible refine Kd.C_drewN ?_ _) | (with_reducible refine Kd.C_drew ?_))) : p := h
theorem q7_51 {p : Prop} (h : p := by repeat (first | exact (Kd.R_reads' HO424.out).2.2 | (with_reducible refine Kd.C_alloc ?_ _) | (with_reducible refine Kd.C_drewN ?_ _) | (with_reducible refine Kd.C_drew ?_))) : p := h
theorem q7_52 {p : Prop} (h : p := by repeat (first | exact (Kd.R_reads' HO462.out).2.2 | (with_reducible refine Kd.C_alloc ?_ _) | (with_reducible refine Kd.C_drewN ?_ _) | (with_reducible refine Kd.C_drew ?_))) : p := h
theorem q7_53 {p : Prop} (h : p := by repeat (first | exact (Kd.R_reads' HO465.out).2.2 | (with_reducible refine Kd.C_alloc ?_ _) | (with_reducible refine Kd.C_drewN ?_ _) | (with_reducible refine Kd.C_drew ?_))) : p := h
theorem q7_54 {p : Prop} (h : p := by refine (Kd.R_reads' (e := 3) (base := w.heap.size) (ok := fun k_ => (some k_ ≠ (v461 : Value).ownBlock ∧ (some k_ ≠ (v464 : Value).ownBlock ∧ (some k_ ≠ (.slice Ao191 t466.length co191 : Value).ownBlock ∧ (some k_ ≠ (.slice Ao47 t453.length co47 : Value).ownBlock ∧ (some k_ ≠ (.slice Ao56 t455.length co56 : Value).ownBlock ∧ some k_ ≠ (.slice Ao65 t438.length co65 : Value).ownBlock)))))) (n := t425.length) (c := co41) ?_).2.2; exact q7_33) : p := h
theorem q7_55 {p : Prop} (h : p := by refine (Kd.R_reads' (e := 3) (base := w.heap.size) (ok := fun k_ => (some k_ ≠ (v461 : Value).ownBlock ∧ (some k_ ≠ (v464 : Value).ownBlock ∧ (some k_ ≠ (.slice Ao41 t425.length co41 : Value).ownBlock ∧ (some k_ ≠ (.slice Ao47 t453.length co47 : Value).ownBlock ∧ (some k_ ≠ (.slice Ao56 t455.length co56 : Value).ownBlock ∧ some k_ ≠ (.slice Ao65 t438.length co65 : Value).ownBlock)))))) (n := t466.length) (c := co191) ?_).2.2; exact q7_34) : p := h
theorem q7_56 {p : Prop} (h : p := by (try simp only [List.map_toArray, List.map_cons, List.map_nil]); first | done | (rw [show t458.length = t438.length from (Kd.R_reads' HO_443000.out).1.symm] <;> rfl) | rfl | (simp only [List.length_drop, List.length_take]; rfl)) : p := h
theorem q7_57 {p : Prop} (h : p := by (with_reducible repeat (first | apply Kd.R_alloc | apply Kd.R_drewN | apply Kd.R_drew)); exact Kd.R_mono HO421.out (fun _ hk => ⟨hk.1.2, hk.2⟩)) : p := h
theorem q7_58 {p : Prop} (h : p := by (with_reducible repeat (first | apply Kd.R_alloc | apply Kd.R_drewN | apply Kd.R_drew)); exact Kd.R_mono HO424.out (fun _ hk => ⟨hk.1.2, hk.2⟩)) : p := h
theorem q7_59 {p : Prop} (h : p := by (with_reducible repeat (first | apply Kd.R_alloc | apply Kd.R_drewN | apply Kd.R_drew)); exact Kd.R_mono HO427.out (fun _ hk => ⟨hk.1.2, hk.2⟩)) : p := h
theorem q7_60 {p : Prop} (h : p := by refine (Kd.R_reads' (e := 3) (base := w.heap.size) (ok := fun k_ => (((((True ∧ some k_ ≠ (v420 : Value).ownBlock) ∧ some k_ ≠ (v423 : Value).ownBlock) ∧ some k_ ≠ (.slice Ao41 t425.length co41 : Value).ownBlock) ∧ some k_ ≠ (.slice Ao47 t430.length co47 : Value).ownBlock) ∧ some k_ ≠ (.slice Ao56 t434.length co56 : Value).ownBlock)) (n := t438.length) (c := co65) ?_).2.2; exact q7_35) : p := h
theorem q7_61 {p : Prop} (h : p := by refine (Kd.R_reads' (e := 3) (base := w.heap.size) (ok := fun k_ => ((((some k_ ≠ (v420 : Value).ownBlock ∧ some k_ ≠ (v423 : Value).ownBlock) ∧ some k_ ≠ (.slice Ao47 t430.length co47 : Value).ownBlock) ∧ some k_ ≠ (.slice Ao56 t434.length co56 : Value).ownBlock) ∧ some k_ ≠ (.slice Ao65 t438.length co65 : Value).ownBlock)) (n := t425.length) (c := co41) ?_).2.2; exact q7_36) : p := h
theorem q7_62 {p : Prop} (h : p := by repeat (first | exact (Kd.R_reads' HO_434000.out).2.2 | (with_reducible refine Kd.C_alloc ?_ _) | (with_reducible refine Kd.C_drewN ?_ _) | (with_reducible refine Kd.C_drew ?_))) : p := h
theorem q7_63 {p : Prop} (h : p := by repeat (first | exact (Kd.R_reads' HO446.out).2.2 | (with_reducible refine Kd.C_alloc ?_ _) | (with_reducible refine Kd.C_drewN ?_ _) | (with_reducible refine Kd.C_drew ?_))) : p := h
theorem q7_64 {p : Prop} (h : p := by rw [hg]; exact Nat.ne_of_lt (blk_lt (g := gb433) (o := .cells #[.slice Ao47 t453.length co47] 25 (0, 0)) q7_6)) : p := h
theorem q7_65 {p : Prop} (h : p := by rw [hg]; exact Nat.ne_of_gt (blk_lt (g := gb433) (o := .cells #[.slice Ao47 t453.length co47] 25 (0, 0)) q7_6)) : p := h
theorem q7_66 {p : Prop} (h : p := by rw [hg]; exact Nat.ne_of_lt (blk_lt (g := gb437) (o := .cells #[.slice Ao56 t455.length co56] 25 (0, 0)) q7_7)) : p := h
theorem q7_67 {p : Prop} (h : p := by rw [hg]; exact Nat.ne_of_gt (blk_lt (g := gb437) (o := .cells #[.slice Ao56 t455.length co56] 25 (0, 0)) q7_7)) : p := h
theorem q7_68 {p : Prop} (h : p := by rw [hg]; exact Nat.ne_of_lt (blk_lt (g := gb442) (o := .cells #[.slice Ao65 t438.length co65] 25 (0, 0)) q7_8)) : p := h
theorem q7_69 {p : Prop} (h : p := by rw [hg]; exact Nat.ne_of_gt (blk_lt (g := gb442) (o := .cells #[.slice Ao65 t438.length co65] 25 (0, 0)) q7_8)) : p := h
theorem q7_70 {p : Prop} (h : p := by (with_reducible repeat (first | apply Kd.R_alloc | apply Kd.R_drewN | apply Kd.R_drew)); exact HO427.out) : p := h
theorem q7_71 {p : Prop} (h : p := by (with_reducible repeat (first | apply Kd.R_alloc | apply Kd.R_drewN | apply Kd.R_drew)); exact HO450.out) : p := h
theorem q7_72 {p : Prop} (h : p := by (with_reducible repeat (first | refine blk_drewN ?_ _ | refine blk_drew ?_ | refine blk_alloc ?_ _)); refine blk_put (cs := #[.slice none 0 0]) ?_ 0 _ rfl; (with_reducible repeat (first | refine blk_drewN ?_ _ | refine blk_drew ?_ | refine blk_alloc ?_ _)); exact BK442.out) : p := h
theorem q7_73 {p : Prop} (h : p := by (with_reducible repeat (first | refine blk_drewN ?_ _ | refine blk_drew ?_ | refine blk_alloc ?_ _)); refine blk_put (cs := #[.slice none 0 0]) ?_ 0 _ rfl; (with_reducible repeat (first | refine blk_drewN ?_ _ | refine blk_drew ?_ | refine blk_alloc ?_ _)); exact BK470.out) : p := h
theorem q7_74 {p : Prop} (h : p := by (with_reducible repeat (first | apply Kd.R_alloc | apply Kd.R_drewN | apply Kd.R_drew)); exact (Kd.R_mono (Kd.R_far (p := ⟨gb470, 0, none⟩) (Kd.R_types HO_434000.out BK470.out (by decide)) (fun _ hk => hk.2) (.slice Ao191 t466.length co191)) (fun _ h_ => h_.1))) : p := h
theorem q7_75 {p : Prop} (h : p := by (with_reducible repeat (first | apply Kd.R_alloc | apply Kd.R_drewN | apply Kd.R_drew)); exact (Kd.R_mono (Kd.R_far (p := ⟨gb470, 0, none⟩) (Kd.R_types HO_438000.out BK470.out (by decide)) (fun _ hk => hk.2) (.slice Ao191 t466.length co191)) (fun _ h_ => h_.1))) : p := h
theorem q7_76 {p : Prop} (h : p := by (with_reducible repeat (first | apply Kd.R_alloc | apply Kd.R_drewN | apply Kd.R_drew)); exact (Kd.R_mono (Kd.R_far (p := ⟨gb470, 0, none⟩) (Kd.R_types HO_443000.out BK470.out (by decide)) (fun _ hk => hk.2) (.slice Ao191 t466.length co191)) (fun _ h_ => h_.1))) : p := h
theorem q7_77 {p : Prop} (h : p := by (with_reducible repeat (first | apply Kd.R_alloc | apply Kd.R_drewN | apply Kd.R_drew)); exact (Kd.R_mono (Kd.R_far (p := ⟨gb470, 0, none⟩) (Kd.R_types HO462.out BK470.out (by decide)) (fun _ hk => hk.2) (.slice Ao191 t466.length co191)) (fun _ h_ => h_.1))) : p := h
theorem q7_78 {p : Prop} (h : p := by (with_reducible repeat (first | apply Kd.R_alloc | apply Kd.R_drewN | apply Kd.R_drew)); exact (Kd.R_mono (Kd.R_far (p := ⟨gb470, 0, none⟩) (Kd.R_types HO465.out BK470.out (by decide)) (fun _ hk => hk.2) (.slice Ao191 t466.length co191)) (fun _ h_ => h_.1))) : p := h
theorem q7_79 {p : Prop} (h : p := by (with_reducible repeat (first | apply Kd.R_alloc | apply Kd.R_drewN | apply Kd.R_drew)); exact (Kd.R_mono (Kd.R_far (p := ⟨gb429, 0, none⟩) (Kd.R_types HO421.out BK429.out (by decide)) (fun _ hk => hk.2) (.slice Ao41 t425.length co41)) (fun _ h_ => h_.1))) : p := h
theorem q7_80 {p : Prop} (h : p := by (with_reducible repeat (first | apply Kd.R_alloc | apply Kd.R_drewN | apply Kd.R_drew)); exact (Kd.R_mono (Kd.R_far (p := ⟨gb429, 0, none⟩) (Kd.R_types HO424.out BK429.out (by decide)) (fun _ hk => hk.2) (.slice Ao41 t425.length co41)) (fun _ h_ => h_.1))) : p := h
theorem q7_81 {p : Prop} (h : p := by (with_reducible repeat (first | apply Kd.R_alloc | apply Kd.R_drewN | apply Kd.R_drew)); exact (Kd.R_mono (Kd.R_far (p := ⟨gb429, 0, none⟩) (Kd.R_types HO427.out BK429.out (by decide)) (fun _ hk => hk.2) (.slice Ao41 t425.length co41)) (fun _ h_ => h_.1))) : p := h
theorem q7_82 {p : Prop} (h : p := by (with_reducible repeat (first | apply Kd.R_alloc | apply Kd.R_drewN | apply Kd.R_drew)); exact (Kd.R_mono (Kd.R_far (p := ⟨gb433, 0, none⟩) (Kd.R_types HO421.out BK433.out (by decide)) (fun _ hk => hk.2) (.slice Ao47 t430.length co47)) (fun _ h_ => h_.1))) : p := h
theorem q7_83 {p : Prop} (h : p := by (with_reducible repeat (first | apply Kd.R_alloc | apply Kd.R_drewN | apply Kd.R_drew)); exact (Kd.R_mono (Kd.R_far (p := ⟨gb433, 0, none⟩) (Kd.R_types HO424.out BK433.out (by decide)) (fun _ hk => hk.2) (.slice Ao47 t430.length co47)) (fun _ h_ => h_.1))) : p := h
theorem q7_84 {p : Prop} (h : p := by (with_reducible repeat (first | apply Kd.R_alloc | apply Kd.R_drewN | apply Kd.R_drew)); exact (Kd.R_mono (Kd.R_far (p := ⟨gb433, 0, none⟩) (Kd.R_types HO427.out BK433.out (by decide)) (fun _ hk => hk.2) (.slice Ao47 t430.length co47)) (fun _ h_ => h_.1))) : p := h
theorem q7_85 {p : Prop} (h : p := by (with_reducible repeat (first | apply Kd.R_alloc | apply Kd.R_drewN | apply Kd.R_drew)); exact (Kd.R_mono (Kd.R_far (p := ⟨gb433, 0, none⟩) (Kd.R_types HO432.out BK433.out (by decide)) (fun _ hk => hk.2) (.slice Ao47 t430.length co47)) (fun _ h_ => h_.1))) : p := h
theorem q7_86 {p : Prop} (h : p := by (with_reducible repeat (first | apply Kd.R_alloc | apply Kd.R_drewN | apply Kd.R_drew)); exact (Kd.R_mono (Kd.R_far (p := ⟨gb437, 0, none⟩) (Kd.R_types HO421.out BK437.out (by decide)) (fun _ hk => hk.2) (.slice Ao56 t434.length co56)) (fun _ h_ => h_.1))) : p := h
theorem q7_87 {p : Prop} (h : p := by (with_reducible repeat (first | apply Kd.R_alloc | apply Kd.R_drewN | apply Kd.R_drew)); exact (Kd.R_mono (Kd.R_far (p := ⟨gb437, 0, none⟩) (Kd.R_types HO424.out BK437.out (by decide)) (fun _ hk => hk.2) (.slice Ao56 t434.length co56)) (fun _ h_ => h_.1))) : p := h
theorem q7_88 {p : Prop} (h : p := by (with_reducible repeat (first | apply Kd.R_alloc | apply Kd.R_drewN | apply Kd.R_drew)); exact (Kd.R_mono (Kd.R_far (p := ⟨gb437, 0, none⟩) (Kd.R_types HO427.out BK437.out (by decide)) (fun _ hk => hk.2) (.slice Ao56 t434.length co56)) (fun _ h_ => h_.1))) : p := h
theorem q7_89 {p : Prop} (h : p := by (with_reducible repeat (first | apply Kd.R_alloc | apply Kd.R_drewN | apply Kd.R_drew)); exact (Kd.R_mono (Kd.R_far (p := ⟨gb442, 0, none⟩) (Kd.R_types HO421.out BK442.out (by decide)) (fun _ hk => hk.2) (.slice Ao65 t438.length co65)) (fun _ h_ => h_.1))) : p := h
theorem q7_90 {p : Prop} (h : p := by (with_reducible repeat (first | apply Kd.R_alloc | apply Kd.R_drewN | apply Kd.R_drew)); exact (Kd.R_mono (Kd.R_far (p := ⟨gb442, 0, none⟩) (Kd.R_types HO424.out BK442.out (by decide)) (fun _ hk => hk.2) (.slice Ao65 t438.length co65)) (fun _ h_ => h_.1))) : p := h
theorem q7_91 {p : Prop} (h : p := by (with_reducible repeat (first | apply Kd.R_alloc | apply Kd.R_drewN | apply Kd.R_drew)); exact (Kd.R_mono (Kd.R_far (p := ⟨gb442, 0, none⟩) (Kd.R_types HO432.out BK442.out (by decide)) (fun _ hk => hk.2) (.slice Ao65 t438.length co65)) (fun _ h_ => h_.1))) : p := h
theorem q7_92 {p : Prop} (h : p := by (with_reducible repeat (first | apply Kd.R_alloc | apply Kd.R_drewN | apply Kd.R_drew)); exact (Kd.R_mono (Kd.R_far (p := ⟨gb442, 0, none⟩) (Kd.R_types HO436.out BK442.out (by decide)) (fun _ hk => hk.2) (.slice Ao65 t438.length co65)) (fun _ h_ => h_.1))) : p := h
theorem q7_93 {p : Prop} (h : p := by (with_reducible repeat (first | refine blk_drewN ?_ _ | refine blk_drew ?_ | refine blk_alloc ?_ _)); refine blk_far ?_ NB415_442.out _; (with_reducible repeat (first | refine blk_drewN ?_ _ | refine blk_drew ?_ | refine blk_alloc ?_ _)); exact BK415.out) : p := h
theorem q7_94 {p : Prop} (h : p := by (with_reducible repeat (first | refine blk_drewN ?_ _ | refine blk_drew ?_ | refine blk_alloc ?_ _)); refine blk_far ?_ NB416_442.out _; (with_reducible repeat (first | refine blk_drewN ?_ _ | refine blk_drew ?_ | refine blk_alloc ?_ _)); exact BK416.out) : p := h
theorem q7_95 {p : Prop} (h : p := by (with_reducible repeat (first | refine blk_drewN ?_ _ | refine blk_drew ?_ | refine blk_alloc ?_ _)); refine blk_far ?_ NB429_442.out _; (with_reducible repeat (first | refine blk_drewN ?_ _ | refine blk_drew ?_ | refine blk_alloc ?_ _)); exact BK429.out) : p := h
theorem q7_96 {p : Prop} (h : p := by (with_reducible repeat (first | refine blk_drewN ?_ _ | refine blk_drew ?_ | refine blk_alloc ?_ _)); refine blk_far ?_ NB433_442.out _; (with_reducible repeat (first | refine blk_drewN ?_ _ | refine blk_drew ?_ | refine blk_alloc ?_ _)); exact BK433.out) : p := h
theorem q7_97 {p : Prop} (h : p := by (with_reducible repeat (first | refine blk_drewN ?_ _ | refine blk_drew ?_ | refine blk_alloc ?_ _)); refine blk_far ?_ NB437_442.out _; (with_reducible repeat (first | refine blk_drewN ?_ _ | refine blk_drew ?_ | refine blk_alloc ?_ _)); exact BK437.out) : p := h
theorem q7_98 {p : Prop} (h : p := by (with_reducible repeat (first | refine blk_drewN ?_ _ | refine blk_drew ?_ | refine blk_alloc ?_ _)); refine blk_far ?_ NB415_470.out _; (with_reducible repeat (first | refine blk_drewN ?_ _ | refine blk_drew ?_ | refine blk_alloc ?_ _)); exact BK415.out) : p := h
theorem q7_99 {p : Prop} (h : p := by (with_reducible repeat (first | refine blk_drewN ?_ _ | refine blk_drew ?_ | refine blk_alloc ?_ _)); refine blk_far ?_ NB416_470.out _; (with_reducible repeat (first | refine blk_drewN ?_ _ | refine blk_drew ?_ | refine blk_alloc ?_ _)); exact BK416.out) : p := h
theorem q7_100 {p : Prop} (h : p := by (with_reducible repeat (first | refine blk_drewN ?_ _ | refine blk_drew ?_ | refine blk_alloc ?_ _)); refine blk_far ?_ NB429_470.out _; (with_reducible repeat (first | refine blk_drewN ?_ _ | refine blk_drew ?_ | refine blk_alloc ?_ _)); exact BK429.out) : p := h
theorem q7_101 {p : Prop} (h : p := by (with_reducible repeat (first | refine blk_drewN ?_ _ | refine blk_drew ?_ | refine blk_alloc ?_ _)); refine blk_far ?_ NB433_470.out _; (with_reducible repeat (first | refine blk_drewN ?_ _ | refine blk_drew ?_ | refine blk_alloc ?_ _)); exact BK433.out) : p := h
theorem q7_102 {p : Prop} (h : p := by (with_reducible repeat (first | refine blk_drewN ?_ _ | refine blk_drew ?_ | refine blk_alloc ?_ _)); refine blk_far ?_ NB437_470.out _; (with_reducible repeat (first | refine blk_drewN ?_ _ | refine blk_drew ?_ | refine blk_alloc ?_ _)); exact BK437.out) : p := h
theorem q7_103 {p : Prop} (h : p := by (with_reducible repeat (first | refine blk_drewN ?_ _ | refine blk_drew ?_ | refine blk_alloc ?_ _)); refine blk_far ?_ NB442_470.out _; (with_reducible repeat (first | refine blk_drewN ?_ _ | refine blk_drew ?_ | refine blk_alloc ?_ _)); exact BK442.out) : p := h
theorem q7_104 {p : Prop} (h : p := by first | rfl | (simp; done) | (simp [*]; done)) : p := h
theorem q7_105 {p : Prop} (h : p := by rw [show t458.length = t438.length from (Kd.R_reads' HO_443000.out).1.symm]; exact (Kd.R_reads' HO_443000.out).2.1) : p := h
theorem q7_106 {p : Prop} (h : p := by (with_reducible repeat (first | apply Kd.R_alloc | apply Kd.R_drewN | apply Kd.R_drew)); exact HO_471000.out) : p := h
theorem q7_107 {p : Prop} (h : p := by (with_reducible repeat (first | apply Kd.R_alloc | apply Kd.R_drewN | apply Kd.R_drew)); exact HO432.out) : p := h
theorem q7_108 {p : Prop} (h : p := by rw [hg]; exact (below_size q7_10)) : p := h
theorem q7_109 {p : Prop} (h : p := by rw [hg]; exact (below_size q7_0)) : p := h
theorem q7_110 {p : Prop} (h : p := by repeat (first | exact (Kd.R_reads' HO_438000.out).2.2 | (with_reducible refine Kd.C_alloc ?_ _) | (with_reducible refine Kd.C_drewN ?_ _) | (with_reducible refine Kd.C_drew ?_))) : p := h
theorem q7_111 {p : Prop} (h : p := by repeat (first | exact (Kd.R_reads' HO_430000.out).2.2 | (with_reducible refine Kd.C_alloc ?_ _) | (with_reducible refine Kd.C_drewN ?_ _) | (with_reducible refine Kd.C_drew ?_))) : p := h
theorem q7_112 {p : Prop} (h : p := by repeat (first | exact (Kd.R_reads' HO450.out).2.2 | (with_reducible refine Kd.C_alloc ?_ _) | (with_reducible refine Kd.C_drewN ?_ _) | (with_reducible refine Kd.C_drew ?_))) : p := h
theorem q7_113 {p : Prop} (h : p := by rw [hg]; exact (below_size q7_29)) : p := h
theorem q7_114 {p : Prop} (h : p := by rw [hg]; exact (below_size q7_23)) : p := h
theorem q7_115 {p : Prop} (h : p := by rw [hg]; exact Nat.ne_of_lt (blk_lt (g := gb433) (o := .cells #[.slice Ao47 t430.length co47] 25 (0, 0)) q7_6)) : p := h
theorem q7_116 {p : Prop} (h : p := by rw [hg]; exact Nat.ne_of_gt (blk_lt (g := gb433) (o := .cells #[.slice Ao47 t430.length co47] 25 (0, 0)) q7_6)) : p := h
theorem q7_117 {p : Prop} (h : p := by (with_reducible repeat (first | apply Kd.R_alloc | apply Kd.R_drewN | apply Kd.R_drew)); exact HO436.out) : p := h
set_option maxHeartbeats 8000000 in
set_option maxRecDepth 100000 in
theorem laws_FnExactFewJoin.calls (k : Nat) (A0_0 : Option Addr) (c0_0 : Nat) (l0_0 : List Int) (A1_0 : Option Addr) (c1_0 : Nat) (l1_0 : List Int) (r : Bool) (w : World) (hr0_0 : Kd.C (Kd.int .i64) w A0_0 l0_0.length l0_0) (hc0_0 : l0_0.length ≤ c0_0) (hr1_0 : Kd.C (Kd.int .i64) w A1_0 l1_0.length l1_0) (hc1_0 : l1_0.length ≤ c1_0) (h : laws_FnExactFewJoin.f k l0_0 l1_0 = some r) :
    Calls Try.prog 7 #[.agg #[.slice A0_0 l0_0.length c0_0], .agg #[.slice A1_0 l1_0.length c1_0]] w fun e w' => e = .returned (.bool r) ∧ Below w.heap.size w w' := by
 have hu37 := Try.underlying37;have hu25 := Try.underlying25;have HR0_0 := Aside0.mk hr0_0;have HC0_0 := Aside0.mk hc0_0;clear hr0_0 hc0_0;have HR1_0 := Aside0.mk hr1_0;have HC1_0 := Aside0.mk hc1_0;clear hr1_0 hc1_0;have HB := z7k (Below.refl w.heap.size w)
 have H : ((laws_szFew.f l0_0 1048576).bind fun t417 => (if t417 < 0 then (some true) else ((laws_szFew.f l1_0 t417).bind fun t418 => (if t418 < 0 then (some true) else ((laws_toFew.f k l0_0).bind fun t419 => ((laws_toFew.f k l1_0).bind fun t422 => ((spec_FewJoin.f k t419 t422).bind fun bt425 => ((laws_toFew.f k l0_0).bind fun t430 => ((laws_toFew.f k l1_0).bind fun t434 => ((impl_FewJoin.f k t430 t434).bind fun bt438 => ((laws_eqFew.f k bt438.1 bt425.1).bind fun t443 => (if t443 = true then (laws_FnExactFewJoin.j0 k bt425.2 bt438.2 (bt438.2 != bt425.2) l0_0 l1_0 bt425.1 t430 t434 bt438.1) else (laws_FnExactFewJoin.j0 k bt425.2 bt438.2 true l0_0 l1_0 bt425.1 t430 t434 bt438.1))))))))))))) = some r := h
 clear h
 replace H := Option.bind_eq_some_iff.mp H
 obtain ⟨t417, A30, H⟩ := H
 replace H : (if t417 < 0 then (some true) else ((laws_szFew.f l1_0 t417).bind fun t418 => (if t418 < 0 then (some true) else ((laws_toFew.f k l0_0).bind fun t419 => ((laws_toFew.f k l1_0).bind fun t422 => ((spec_FewJoin.f k t419 t422).bind fun bt425 => ((laws_toFew.f k l0_0).bind fun t430 => ((laws_toFew.f k l1_0).bind fun t434 => ((impl_FewJoin.f k t430 t434).bind fun bt438 => ((laws_eqFew.f k bt438.1 bt425.1).bind fun t443 => (if t443 = true then (laws_FnExactFewJoin.j0 k bt425.2 bt438.2 (bt438.2 != bt425.2) l0_0 l1_0 bt425.1 t430 t434 bt438.1) else (laws_FnExactFewJoin.j0 k bt425.2 bt438.2 true l0_0 l1_0 bt425.1 t430 t434 bt438.1)))))))))))) = some r := H
 have A3 := Aside0.mk A30;clear A30
 by_cases c4 : t417 < 0
 ·rw [if_pos c4] at H
  have c4b0 : decide (t417 < 0) = true := decide_eq_true c4
  clear c4
  obtain rfl := Option.some.inj H
  go_enter Try.func7, Try.ntmps7
  go_wp2_with (first | ((with_reducible refine gate_dst (N := 2) rfl ?_); refine box_event ?hg (N := 2) ?hd (cs := #[.slice A0_0 l0_0.length c0_0]) (t := 37) ?hr ?_; (case hd => rfl); (case hg => rfl); (case hr => exact q7_47); intro gb415 hg w5 hbox hb; have n0_ := z7k (below_step q7_29 hb); have n1_ := z7k (hbox); have n2_ := z7k ((q7_113 : w.heap.size ≤ gb415)); have n3_ := z7k ((q7_113 : w.heap.size ≤ gb415)); clear HB; have HB := n0_; have BK415 := n1_; have GW415 := n2_; have GE415 := n3_; clear n0_ n1_ n2_ n3_; clear hb hbox hg) | ((with_reducible refine gate_dst (N := 3) rfl ?_); refine box_event ?hg (N := 3) ?hd (cs := #[.slice A1_0 l1_0.length c1_0]) (t := 37) ?hr ?_; (case hd => rfl); (case hg => rfl); (case hr => exact q7_47); intro gb416 hg w6 hbox hb; have n0_ := z7k (blk_below (g := gb415) (o := .cells #[.slice A0_0 l0_0.length c0_0] 37 (0, 0)) q7_1 hb); have n1_ := z7k (below_step q7_23 hb); have n2_ := z7k (hbox); have n3_ := z7k ((q7_114 : w.heap.size ≤ gb416)); have n4_ := z7k ((q7_114 : w.heap.size ≤ gb416)); have n5_ := z7k ((q7_19 : gb415 ≠ gb416)); have n6_ := z7k ((q7_20 : gb416 ≠ gb415)); clear BK415; clear HB; have BK415 := n0_; have HB := n1_; have BK416 := n2_; have GW416 := n3_; have GE416 := n4_; have NB415_416 := n5_; have NB416_415 := n6_; clear n0_ n1_ n2_ n3_ n4_ n5_ n6_; clear hb hbox hg; have hnb7 := NB415_416.out; have hnc7 := NB416_415.out; have hcz8_0 : w6.cell? ⟨gb415, 0, none⟩ = some (.slice A0_0 l0_0.length c0_0) := (blk_cell BK415.out 0).trans rfl; have hfz8_0 := blk_frozen BK415.out 0) | ((with_reducible refine gate_callee (f := 19) rfl ?_); refine goesL_ (some 19) rfl rfl Try.func19 (by kernel_rfl) rfl #[.agg #[.slice A0_0 l0_0.length c0_0], .int .i64 1048576] rfl q7_5 ?_; (with_reducible refine (laws_szFew.calls _ _ l0_0 1048576 t417 _ ?side1 ?side2 A3.out).mono ?_); (case side1 => exact q7_17); (case side2 => exact HC0_0.out); rintro e w9 ⟨rfl, hb⟩; refine ⟨_, rfl, ?_⟩; have n0_ := z7k (blk_below (g := gb415) (o := .cells #[.slice A0_0 l0_0.length c0_0] 37 (0, 0)) q7_1 hb); have n1_ := z7k (blk_below (g := gb416) (o := .cells #[.slice A1_0 l1_0.length c1_0] 37 (0, 0)) q7_2 hb); have n2_ := z7k (below_step q7_10 hb); clear BK415; clear BK416; clear HB; have BK415 := n0_; have BK416 := n1_; have HB := n2_; clear n0_ n1_ n2_; (try clear hb); (try clear hb2); (try clear hk); (try clear hi)))
  go_ret
  exact ⟨q7_31, q7_10⟩
 ·rw [if_neg c4] at H
  have c4b0 : decide (t417 < 0) = false := decide_eq_false c4
  clear c4
  replace H := Option.bind_eq_some_iff.mp H
  obtain ⟨t418, A100, H⟩ := H
  replace H : (if t418 < 0 then (some true) else ((laws_toFew.f k l0_0).bind fun t419 => ((laws_toFew.f k l1_0).bind fun t422 => ((spec_FewJoin.f k t419 t422).bind fun bt425 => ((laws_toFew.f k l0_0).bind fun t430 => ((laws_toFew.f k l1_0).bind fun t434 => ((impl_FewJoin.f k t430 t434).bind fun bt438 => ((laws_eqFew.f k bt438.1 bt425.1).bind fun t443 => (if t443 = true then (laws_FnExactFewJoin.j0 k bt425.2 bt438.2 (bt438.2 != bt425.2) l0_0 l1_0 bt425.1 t430 t434 bt438.1) else (laws_FnExactFewJoin.j0 k bt425.2 bt438.2 true l0_0 l1_0 bt425.1 t430 t434 bt438.1)))))))))) = some r := H
  have A10 := Aside0.mk A100;clear A100
  by_cases c11 : t418 < 0
  ·rw [if_pos c11] at H
   have c11b0 : decide (t418 < 0) = true := decide_eq_true c11
   clear c11
   obtain rfl := Option.some.inj H
   go_enter Try.func7, Try.ntmps7
   go_wp2_with (first | ((with_reducible refine gate_dst (N := 2) rfl ?_); refine box_event ?hg (N := 2) ?hd (cs := #[.slice A0_0 l0_0.length c0_0]) (t := 37) ?hr ?_; (case hd => rfl); (case hg => rfl); (case hr => exact q7_47); intro gb415 hg w12 hbox hb; have n0_ := z7k (below_step q7_29 hb); have n1_ := z7k (hbox); have n2_ := z7k ((q7_113 : w.heap.size ≤ gb415)); have n3_ := z7k ((q7_113 : w.heap.size ≤ gb415)); clear HB; have HB := n0_; have BK415 := n1_; have GW415 := n2_; have GE415 := n3_; clear n0_ n1_ n2_ n3_; clear hb hbox hg) | ((with_reducible refine gate_dst (N := 3) rfl ?_); refine box_event ?hg (N := 3) ?hd (cs := #[.slice A1_0 l1_0.length c1_0]) (t := 37) ?hr ?_; (case hd => rfl); (case hg => rfl); (case hr => exact q7_47); intro gb416 hg w13 hbox hb; have n0_ := z7k (blk_below (g := gb415) (o := .cells #[.slice A0_0 l0_0.length c0_0] 37 (0, 0)) q7_1 hb); have n1_ := z7k (below_step q7_23 hb); have n2_ := z7k (hbox); have n3_ := z7k ((q7_114 : w.heap.size ≤ gb416)); have n4_ := z7k ((q7_114 : w.heap.size ≤ gb416)); have n5_ := z7k ((q7_19 : gb415 ≠ gb416)); have n6_ := z7k ((q7_20 : gb416 ≠ gb415)); clear BK415; clear HB; have BK415 := n0_; have HB := n1_; have BK416 := n2_; have GW416 := n3_; have GE416 := n4_; have NB415_416 := n5_; have NB416_415 := n6_; clear n0_ n1_ n2_ n3_ n4_ n5_ n6_; clear hb hbox hg; have hnb14 := NB415_416.out; have hnc14 := NB416_415.out; have hcz15_0 : w13.cell? ⟨gb415, 0, none⟩ = some (.slice A0_0 l0_0.length c0_0) := (blk_cell BK415.out 0).trans rfl; have hfz15_0 := blk_frozen BK415.out 0) | ((with_reducible refine gate_callee (f := 19) rfl ?_); refine goesL_ (some 19) rfl rfl Try.func19 (by kernel_rfl) rfl #[.agg #[.slice A0_0 l0_0.length c0_0], .int .i64 1048576] rfl q7_5 ?_; (with_reducible refine (laws_szFew.calls _ _ l0_0 1048576 t417 _ ?side1 ?side2 A3.out).mono ?_); (case side1 => exact q7_17); (case side2 => exact HC0_0.out); rintro e w16 ⟨rfl, hb⟩; refine ⟨_, rfl, ?_⟩; have n0_ := z7k (blk_below (g := gb415) (o := .cells #[.slice A0_0 l0_0.length c0_0] 37 (0, 0)) q7_1 hb); have n1_ := z7k (blk_below (g := gb416) (o := .cells #[.slice A1_0 l1_0.length c1_0] 37 (0, 0)) q7_2 hb); have n2_ := z7k (below_step q7_10 hb); clear BK415; clear BK416; clear HB; have BK415 := n0_; have BK416 := n1_; have HB := n2_; clear n0_ n1_ n2_; (try clear hb); (try clear hb2); (try clear hk); (try clear hi); have hcz17_0 : w16.cell? ⟨gb416, 0, none⟩ = some (.slice A1_0 l1_0.length c1_0) := (blk_cell BK416.out 0).trans rfl; have hfz17_0 := blk_frozen BK416.out 0) | ((with_reducible refine gate_callee (f := 19) rfl ?_); refine goesL_ (some 24) rfl rfl Try.func19 (by kernel_rfl) rfl #[.agg #[.slice A1_0 l1_0.length c1_0], .int .i64 t417] rfl q7_5 ?_; (with_reducible refine (laws_szFew.calls _ _ l1_0 t417 t418 _ ?side1 ?side2 A10.out).mono ?_); (case side1 => exact q7_18); (case side2 => exact HC1_0.out); rintro e w18 ⟨rfl, hb⟩; refine ⟨_, rfl, ?_⟩; have n0_ := z7k (blk_below (g := gb415) (o := .cells #[.slice A0_0 l0_0.length c0_0] 37 (0, 0)) q7_1 hb); have n1_ := z7k (blk_below (g := gb416) (o := .cells #[.slice A1_0 l1_0.length c1_0] 37 (0, 0)) q7_2 hb); have n2_ := z7k (below_step q7_10 hb); clear BK415; clear BK416; clear HB; have BK415 := n0_; have BK416 := n1_; have HB := n2_; clear n0_ n1_ n2_; (try clear hb); (try clear hb2); (try clear hk); (try clear hi)))
   go_ret
   exact ⟨q7_31, q7_10⟩
  ·rw [if_neg c11] at H
   have c11b0 : decide (t418 < 0) = false := decide_eq_false c11
   clear c11
   replace H := Option.bind_eq_some_iff.mp H
   obtain ⟨t419, A190, H⟩ := H
   replace H : ((laws_toFew.f k l1_0).bind fun t422 => ((spec_FewJoin.f k t419 t422).bind fun bt425 => ((laws_toFew.f k l0_0).bind fun t430 => ((laws_toFew.f k l1_0).bind fun t434 => ((impl_FewJoin.f k t430 t434).bind fun bt438 => ((laws_eqFew.f k bt438.1 bt425.1).bind fun t443 => (if t443 = true then (laws_FnExactFewJoin.j0 k bt425.2 bt438.2 (bt438.2 != bt425.2) l0_0 l1_0 bt425.1 t430 t434 bt438.1) else (laws_FnExactFewJoin.j0 k bt425.2 bt438.2 true l0_0 l1_0 bt425.1 t430 t434 bt438.1)))))))) = some r := H
   have A19 := Aside0.mk A190;clear A190
   replace H := Option.bind_eq_some_iff.mp H
   obtain ⟨t422, A200, H⟩ := H
   replace H : ((spec_FewJoin.f k t419 t422).bind fun bt425 => ((laws_toFew.f k l0_0).bind fun t430 => ((laws_toFew.f k l1_0).bind fun t434 => ((impl_FewJoin.f k t430 t434).bind fun bt438 => ((laws_eqFew.f k bt438.1 bt425.1).bind fun t443 => (if t443 = true then (laws_FnExactFewJoin.j0 k bt425.2 bt438.2 (bt438.2 != bt425.2) l0_0 l1_0 bt425.1 t430 t434 bt438.1) else (laws_FnExactFewJoin.j0 k bt425.2 bt438.2 true l0_0 l1_0 bt425.1 t430 t434 bt438.1))))))) = some r := H
   have A20 := Aside0.mk A200;clear A200
   replace H := Option.bind_eq_some_iff.mp H
   obtain ⟨⟨t425, t428⟩, A210, H⟩ := H
   replace H : ((laws_toFew.f k l0_0).bind fun t430 => ((laws_toFew.f k l1_0).bind fun t434 => ((impl_FewJoin.f k t430 t434).bind fun bt438 => ((laws_eqFew.f k bt438.1 t425).bind fun t443 => (if t443 = true then (laws_FnExactFewJoin.j0 k t428 bt438.2 (bt438.2 != t428) l0_0 l1_0 t425 t430 t434 bt438.1) else (laws_FnExactFewJoin.j0 k t428 bt438.2 true l0_0 l1_0 t425 t430 t434 bt438.1)))))) = some r := H
   have A21 := Aside0.mk A210;clear A210
   replace H := Option.bind_eq_some_iff.mp H
   obtain ⟨t430, A220, H⟩ := H
   replace H : ((laws_toFew.f k l1_0).bind fun t434 => ((impl_FewJoin.f k t430 t434).bind fun bt438 => ((laws_eqFew.f k bt438.1 t425).bind fun t443 => (if t443 = true then (laws_FnExactFewJoin.j0 k t428 bt438.2 (bt438.2 != t428) l0_0 l1_0 t425 t430 t434 bt438.1) else (laws_FnExactFewJoin.j0 k t428 bt438.2 true l0_0 l1_0 t425 t430 t434 bt438.1))))) = some r := H
   have A22 := Aside0.mk A220;clear A220
   replace H := Option.bind_eq_some_iff.mp H
   obtain ⟨t434, A230, H⟩ := H
   replace H : ((impl_FewJoin.f k t430 t434).bind fun bt438 => ((laws_eqFew.f k bt438.1 t425).bind fun t443 => (if t443 = true then (laws_FnExactFewJoin.j0 k t428 bt438.2 (bt438.2 != t428) l0_0 l1_0 t425 t430 t434 bt438.1) else (laws_FnExactFewJoin.j0 k t428 bt438.2 true l0_0 l1_0 t425 t430 t434 bt438.1)))) = some r := H
   have A23 := Aside0.mk A230;clear A230
   replace H := Option.bind_eq_some_iff.mp H
   obtain ⟨⟨t438, t441⟩, A240, H⟩ := H
   replace H : ((laws_eqFew.f k t438 t425).bind fun t443 => (if t443 = true then (laws_FnExactFewJoin.j0 k t428 t441 (t441 != t428) l0_0 l1_0 t425 t430 t434 t438) else (laws_FnExactFewJoin.j0 k t428 t441 true l0_0 l1_0 t425 t430 t434 t438))) = some r := H
   have A24 := Aside0.mk A240;clear A240;have HC25 := Aside0.mk H;clear H
   go_enter Try.func7, Try.ntmps7
   try go_wp2_with (first | ((with_reducible refine gate_dst (N := 2) rfl ?_); refine box_event ?hg (N := 2) ?hd (cs := #[.slice A0_0 l0_0.length c0_0]) (t := 37) ?hr ?_; (case hd => rfl); (case hg => rfl); (case hr => exact q7_47); intro gb415 hg w26 hbox hb; have n0_ := z7k (below_step q7_29 hb); have n1_ := z7k (hbox); have n2_ := z7k ((q7_113 : w.heap.size ≤ gb415)); have n3_ := z7k ((q7_113 : w.heap.size ≤ gb415)); clear HB; have HB := n0_; have BK415 := n1_; have GW415 := n2_; have GE415 := n3_; clear n0_ n1_ n2_ n3_; clear hb hbox hg) | ((with_reducible refine gate_dst (N := 3) rfl ?_); refine box_event ?hg (N := 3) ?hd (cs := #[.slice A1_0 l1_0.length c1_0]) (t := 37) ?hr ?_; (case hd => rfl); (case hg => rfl); (case hr => exact q7_47); intro gb416 hg w27 hbox hb; have n0_ := z7k (blk_below (g := gb415) (o := .cells #[.slice A0_0 l0_0.length c0_0] 37 (0, 0)) q7_1 hb); have n1_ := z7k (below_step q7_23 hb); have n2_ := z7k (hbox); have n3_ := z7k ((q7_114 : w.heap.size ≤ gb416)); have n4_ := z7k ((q7_114 : w.heap.size ≤ gb416)); have n5_ := z7k ((q7_19 : gb415 ≠ gb416)); have n6_ := z7k ((q7_20 : gb416 ≠ gb415)); clear BK415; clear HB; have BK415 := n0_; have HB := n1_; have BK416 := n2_; have GW416 := n3_; have GE416 := n4_; have NB415_416 := n5_; have NB416_415 := n6_; clear n0_ n1_ n2_ n3_ n4_ n5_ n6_; clear hb hbox hg; have hnb28 := NB415_416.out; have hnc28 := NB416_415.out; have hcz29_0 : w27.cell? ⟨gb415, 0, none⟩ = some (.slice A0_0 l0_0.length c0_0) := (blk_cell BK415.out 0).trans rfl; have hfz29_0 := blk_frozen BK415.out 0) | ((with_reducible refine gate_callee (f := 19) rfl ?_); refine goesL_ (some 19) rfl rfl Try.func19 (by kernel_rfl) rfl #[.agg #[.slice A0_0 l0_0.length c0_0], .int .i64 1048576] rfl q7_5 ?_; (with_reducible refine (laws_szFew.calls _ _ l0_0 1048576 t417 _ ?side1 ?side2 A3.out).mono ?_); (case side1 => exact q7_17); (case side2 => exact HC0_0.out); rintro e w30 ⟨rfl, hb⟩; refine ⟨_, rfl, ?_⟩; have n0_ := z7k (blk_below (g := gb415) (o := .cells #[.slice A0_0 l0_0.length c0_0] 37 (0, 0)) q7_1 hb); have n1_ := z7k (blk_below (g := gb416) (o := .cells #[.slice A1_0 l1_0.length c1_0] 37 (0, 0)) q7_2 hb); have n2_ := z7k (below_step q7_10 hb); clear BK415; clear BK416; clear HB; have BK415 := n0_; have BK416 := n1_; have HB := n2_; clear n0_ n1_ n2_; (try clear hb); (try clear hb2); (try clear hk); (try clear hi); have hcz31_0 : w30.cell? ⟨gb416, 0, none⟩ = some (.slice A1_0 l1_0.length c1_0) := (blk_cell BK416.out 0).trans rfl; have hfz31_0 := blk_frozen BK416.out 0) | ((with_reducible refine gate_callee (f := 19) rfl ?_); refine goesL_ (some 24) rfl rfl Try.func19 (by kernel_rfl) rfl #[.agg #[.slice A1_0 l1_0.length c1_0], .int .i64 t417] rfl q7_5 ?_; (with_reducible refine (laws_szFew.calls _ _ l1_0 t417 t418 _ ?side1 ?side2 A10.out).mono ?_); (case side1 => exact q7_18); (case side2 => exact HC1_0.out); rintro e w32 ⟨rfl, hb⟩; refine ⟨_, rfl, ?_⟩; have n0_ := z7k (blk_below (g := gb415) (o := .cells #[.slice A0_0 l0_0.length c0_0] 37 (0, 0)) q7_1 hb); have n1_ := z7k (blk_below (g := gb416) (o := .cells #[.slice A1_0 l1_0.length c1_0] 37 (0, 0)) q7_2 hb); have n2_ := z7k (below_step q7_10 hb); clear BK415; clear BK416; clear HB; have BK415 := n0_; have BK416 := n1_; have HB := n2_; clear n0_ n1_ n2_; (try clear hb); (try clear hb2); (try clear hk); (try clear hi)))
   have n0_ := z7k (blk_drew BK415.out);have n1_ := z7k (blk_drew BK416.out);have n2_ := z7k (below_drew1 HB.out);clear BK415 BK416 HB;have BK415 := n0_;have BK416 := n1_;have HB := n2_;clear n0_ n1_ n2_;refine start_ (n := 11) (S := fun w' => w'.cell? ⟨gb415, 0, none⟩ = some (.slice A0_0 l0_0.length c0_0) ∧ w'.cell? ⟨gb416, 0, none⟩ = some (.slice A1_0 l1_0.length c1_0)) (ds := []) laws_FnExactFewJoin.D0 (by kernel_rfl) rfl rfl ⟨(blk_cell BK415.out 0).trans rfl, (blk_cell BK416.out 0).trans rfl⟩ (fun hHeld => ?_); refine with_tabW laws_FnExactFewJoin.tab8 laws_FnExactFewJoin.bits8 (fun HT_ HW_ => ?_)
   generalize w32.drew = w33 at BK415 BK416 HB hHeld ⊢
   refine take_ (i := 0) (N := some 28) (v := ?_) (a' := ?_) laws_FnExactFewJoin.D1 rfl rfl (take_ofW HT_.out HW_.out (by kernel_rfl)) (fun _ _ _ h => h) (Or.inl ⟨by rfl, ?_⟩) hHeld ?_ ?_;rotate_left
   ·rintro w' ⟨s0, s1⟩
    go_simp
    with_reducible rfl
   rotate_left
   ·simp only [Act.put, z7a, z7b, z7c, i64_w, i32_w]
    rfl
   refine take_ (i := 2) (N := some 30) (v := ?_) (a' := ?_) laws_FnExactFewJoin.D2 rfl rfl (take_ofW HT_.out HW_.out (by kernel_rfl)) (fun _ _ _ h => h) (Or.inl ⟨by rfl, ?_⟩) hHeld ?_ ?_;rotate_left
   ·rintro w' ⟨s0, s1⟩
    go_simp
    with_reducible rfl
   rotate_left
   ·simp only [Act.put, z7a, z7b, z7c, i64_w, i32_w]
    rfl
   refine join_ (σ := Value × Value × Value × Nat) 2 laws_FnExactFewJoin.D3 (fun s_ => [(29, .agg #[s_.1]), (31, .agg #[s_.2.1]), (32, .tuple #[.agg #[s_.2.2.1], .bool t428]), (6, .pointer (some ⟨s_.2.2.2, 0, none⟩)), (27, .tuple #[.agg #[s_.2.2.1], .bool t428]), (33, .agg #[s_.2.2.1]), (34, .bool t428)]) (fun s_ w' => (w'.cell? ⟨gb415, 0, none⟩ = some (.slice A0_0 l0_0.length c0_0) ∧ w'.cell? ⟨gb416, 0, none⟩ = some (.slice A1_0 l1_0.length c1_0)) ∧ (Kd.R (Kd.int .i64) 3 w' w.heap.size (fun k_ => some k_ ≠ (s_.2.1 : Value).ownBlock ∧ some k_ ≠ (s_.2.2.1 : Value).ownBlock) s_.1 t419) ∧ (Kd.R (Kd.int .i64) 3 w' w.heap.size (fun k_ => some k_ ≠ (s_.1 : Value).ownBlock ∧ some k_ ≠ (s_.2.2.1 : Value).ownBlock) s_.2.1 t422) ∧ (Kd.R (Kd.int .i64) 3 w' w.heap.size (fun k_ => some k_ ≠ (s_.1 : Value).ownBlock ∧ some k_ ≠ (s_.2.1 : Value).ownBlock) s_.2.2.1 t425) ∧ (w'.heap[gb415]? = some (.cells #[.slice A0_0 l0_0.length c0_0] 37 (0, 0))) ∧ (w'.heap[gb416]? = some (.cells #[.slice A1_0 l1_0.length c1_0] 37 (0, 0))) ∧ (w'.heap[s_.2.2.2]? = some (.cells #[.slice none 0 0] 25 (0, 0))) ∧ (w.heap.size ≤ s_.2.2.2) ∧ (w.heap.size ≤ s_.2.2.2) ∧ (gb415 ≠ s_.2.2.2) ∧ (s_.2.2.2 ≠ gb415) ∧ (gb416 ≠ s_.2.2.2) ∧ (s_.2.2.2 ≠ gb416) ∧ (Below w.heap.size w w')) ?_ ?_;rotate_left
   ·intro hCont;refine two_ (i := 1) (j := 8) (Ni := some 29) (Nj := some 6) laws_FnExactFewJoin.D4 laws_FnExactFewJoin.D5 rfl rfl rfl rfl (two_of HT_.out (by kernel_rfl)) (by decide) (by decide) (fun K hK => ?_) (fun K hK => ?_)
    ·refine goes_ Try.func20 (by kernel_rfl) rfl #[.agg #[.slice A0_0 l0_0.length c0_0]] (by rfl) rfl rfl q7_5 ?_
     with_reducible refine (laws_toFew.calls k _ _ l0_0 t419 _ ?side1 ?side2 A19.out).mono ?_
     (case side1 => exact q7_17);(case side2 => exact HC0_0.out);rintro e w34 ⟨v420, rfl, ho0, hb⟩;refine ⟨_, rfl, ?_⟩;have n0_ := z7k (Kd.R_lower ho0 (below_size q7_10));have n1_ := z7k (blk_below (g := gb415) (o := .cells #[.slice A0_0 l0_0.length c0_0] 37 (0, 0)) q7_1 hb);have n2_ := z7k (blk_below (g := gb416) (o := .cells #[.slice A1_0 l1_0.length c1_0] 37 (0, 0)) q7_2 hb);have n3_ := z7k (below_step q7_10 hb);clear BK415 BK416 HB;have HO421 := n0_;have BK415 := n1_;have BK416 := n2_;have HB := n3_;clear n0_ n1_ n2_ n3_;(try clear hb);(try clear hb2);(try clear hk);(try clear hi);(try clear ho0);refine hK.out _ _ ⟨(blk_cell BK415.out 0).trans rfl, (blk_cell BK416.out 0).trans rfl⟩ (fun hHeld => ?_);clear hK K;refine norm_ (a' := ?_) ?_ ?_;rotate_left
     ·show Act.put _ (some 29) _ = _
      simp only [Act.put, z7a, z7b, z7c, i64_w, i32_w]
      rfl
     refine two_ (i := 3) (j := 8) (Ni := some 31) (Nj := some 6) laws_FnExactFewJoin.D6 laws_FnExactFewJoin.D7 rfl rfl rfl rfl (two_of HT_.out (by kernel_rfl)) (by decide) (by decide) (fun K hK => ?_) (fun K hK => ?_)
     ·refine goes_ Try.func20 (by kernel_rfl) rfl #[.agg #[.slice A1_0 l1_0.length c1_0]] (by rfl) rfl rfl q7_5 ?_
      with_reducible refine (laws_toFew.calls k _ _ l1_0 t422 _ ?side1 ?side2 A20.out).mono ?_
      (case side1 => exact q7_18);(case side2 => exact HC1_0.out);rintro e w35 ⟨v423, rfl, ho0, hb⟩;refine ⟨_, rfl, ?_⟩;have n0_ := z7k (Kd.R_elder' q7_15 (Kd.R_base ho0) hb);have n1_ := z7k (Kd.R_lower (Kd.R_new' ho0 (Kd.R_lt q7_15)) (below_size q7_10));have n2_ := z7k (blk_below (g := gb415) (o := .cells #[.slice A0_0 l0_0.length c0_0] 37 (0, 0)) q7_1 hb);have n3_ := z7k (blk_below (g := gb416) (o := .cells #[.slice A1_0 l1_0.length c1_0] 37 (0, 0)) q7_2 hb);have n4_ := z7k (below_step q7_10 hb);clear HO421 BK415 BK416 HB;have HO421 := n0_;have HO424 := n1_;have BK415 := n2_;have BK416 := n3_;have HB := n4_;clear n0_ n1_ n2_ n3_ n4_;(try clear hb);(try clear hb2);(try clear hk);(try clear hi);(try clear ho0);obtain ⟨Ao36, co36, eo36⟩ := Kd.R_slice HO421.out;(first | subst eo36 | (injection eo36 with f1_ f2_ f3_; have f4_ := f1_.symm; have f5_ := f3_.symm; clear f1_ f2_ f3_; subst f4_; subst f5_));obtain ⟨Ao37, co37, eo37⟩ := Kd.R_slice HO424.out;(first | subst eo37 | (injection eo37 with f1_ f2_ f3_; have f4_ := f1_.symm; have f5_ := f3_.symm; clear f1_ f2_ f3_; subst f4_; subst f5_));refine hK.out _ _ ⟨(blk_cell BK415.out 0).trans rfl, (blk_cell BK416.out 0).trans rfl⟩ (fun hHeld => ?_);clear hK K;refine norm_ (a' := ?_) ?_ ?_;rotate_left
      ·show Act.put _ (some 31) _ = _
       simp only [Act.put, z7a, z7b, z7c, i64_w, i32_w]
       rfl
      refine two_ (i := 4) (j := 8) (Ni := some 32) (Nj := some 6) laws_FnExactFewJoin.D8 laws_FnExactFewJoin.D9 rfl rfl rfl rfl (two_of HT_.out (by kernel_rfl)) (by decide) (by decide) (fun K hK => ?_) (fun K hK => ?_)
      ·refine goes_ Try.func12 (by kernel_rfl) rfl #[.agg #[.slice Ao36 t419.length co36], .agg #[.slice Ao37 t422.length co37]] (by rfl) rfl rfl q7_5 ?_
       with_reducible refine (spec_FewJoin.calls k _ _ t419 _ _ t422 t425 t428 _ ?side1 ?side2 ?side3 ?side4 A21.out).mono ?_
       (case side1 => exact q7_50);(case side2 => exact (Kd.R_reads' HO421.out).2.1);(case side3 => exact q7_51);(case side4 => exact (Kd.R_reads' HO424.out).2.1);rintro e w38 ⟨v426, rfl, ho0, hb⟩;refine ⟨_, rfl, ?_⟩;have n0_ := z7k (Kd.R_elder' q7_15 (Kd.R_base ho0) hb);have n1_ := z7k (Kd.R_elder' q7_25 (Kd.R_base ho0) hb);have n2_ := z7k (Kd.R_lower (Kd.R_new' (Kd.R_new' ho0 (Kd.R_lt q7_15)) (Kd.R_lt q7_25)) (below_size q7_10));have n3_ := z7k (blk_below (g := gb415) (o := .cells #[.slice A0_0 l0_0.length c0_0] 37 (0, 0)) q7_1 hb);have n4_ := z7k (blk_below (g := gb416) (o := .cells #[.slice A1_0 l1_0.length c1_0] 37 (0, 0)) q7_2 hb);have n5_ := z7k (below_step q7_10 hb);clear HO421 HO424 BK415 BK416 HB;have HO421 := n0_;have HO424 := n1_;have HO427 := n2_;have BK415 := n3_;have BK416 := n4_;have HB := n5_;clear n0_ n1_ n2_ n3_ n4_ n5_;(try clear hb);(try clear hb2);(try clear hk);(try clear hi);(try clear ho0);refine hK.out _ _ ⟨(blk_cell BK415.out 0).trans rfl, (blk_cell BK416.out 0).trans rfl⟩ (fun hHeld => ?_);clear hK K;refine norm_ (a' := ?_) ?_ ?_;rotate_left
       ·show Act.put _ (some 32) _ = _
        simp only [Act.put, z7a, z7b, z7c, i64_w, i32_w]
        rfl
       refine pure_ (i := 5) (N := some 27) (v := ?_) (a' := ?_) laws_FnExactFewJoin.D10 rfl rfl (any_of HT_.out (by kernel_rfl)) (fun _ _ _ h => h) (Or.inl ⟨by rfl, ?_⟩) ?_ ?_;rotate_left
       ·intro w'
        go_simp
        with_reducible rfl
       rotate_left
       ·simp only [Act.put, z7a, z7b, z7c, i64_w, i32_w]
        rfl
       refine pure_ (i := 6) (N := some 33) (v := ?_) (a' := ?_) laws_FnExactFewJoin.D11 rfl rfl (any_of HT_.out (by kernel_rfl)) (fun _ _ _ h => h) (Or.inl ⟨by rfl, ?_⟩) ?_ ?_;rotate_left
       ·intro w'
        go_simp
        with_reducible rfl
       rotate_left
       ·simp only [Act.put, z7a, z7b, z7c, i64_w, i32_w]
        rfl
       refine pure_ (i := 7) (N := some 34) (v := ?_) (a' := ?_) laws_FnExactFewJoin.D12 rfl rfl (any_of HT_.out (by kernel_rfl)) (fun _ _ _ h => h) (Or.inl ⟨by rfl, ?_⟩) ?_ ?_;rotate_left
       ·intro w'
        go_simp
        with_reducible rfl
       rotate_left
       ·simp only [Act.put, z7a, z7b, z7c, i64_w, i32_w]
        rfl
       refine one_ (i := 8) (N := some 6) laws_FnExactFewJoin.D3 rfl rfl (one_of HT_.out (by kernel_rfl)) (by decide) (fun K hK => ?_);refine box_step ?hg (N := 6) ?hd (cs := #[.slice none 0 0]) (t := 25) ?hr ?_; (case hd => rfl); (case hg => rfl); (case hr => exact q7_47);intro gb429 hg w39 hbox hb;have n0_ := z7k (Kd.R_below q7_15 hb);have n1_ := z7k (Kd.R_below q7_25 hb);have n2_ := z7k (Kd.R_below q7_70 hb);have n3_ := z7k (blk_below (g := gb415) (o := .cells #[.slice A0_0 l0_0.length c0_0] 37 (0, 0)) q7_1 hb);have n4_ := z7k (blk_below (g := gb416) (o := .cells #[.slice A1_0 l1_0.length c1_0] 37 (0, 0)) q7_2 hb);have n5_ := z7k (below_step q7_10 hb);have n6_ := z7k (hbox);have n7_ := z7k ((q7_108 : w.heap.size ≤ gb429));have n8_ := z7k ((q7_108 : w.heap.size ≤ gb429));have n9_ := z7k ((q7_19 : gb415 ≠ gb429));have n10_ := z7k ((q7_20 : gb429 ≠ gb415));have n11_ := z7k ((q7_27 : gb416 ≠ gb429));have n12_ := z7k ((q7_28 : gb429 ≠ gb416));clear HO421 HO424 HO427 BK415 BK416 HB;have HO421 := n0_;have HO424 := n1_;have HO427 := n2_;have BK415 := n3_;have BK416 := n4_;have HB := n5_;have BK429 := n6_;have GW429 := n7_;have GE429 := n8_;have NB415_429 := n9_;have NB429_415 := n10_;have NB416_429 := n11_;have NB429_416 := n12_;clear n0_ n1_ n2_ n3_ n4_ n5_ n6_ n7_ n8_ n9_ n10_ n11_ n12_ hb hbox hg;refine hK.out _ _ ⟨(blk_cell BK415.out 0).trans rfl, (blk_cell BK416.out 0).trans rfl⟩ (fun hHeld => ?_);clear hK K;refine norm_ (a' := ?_) ?_ ?_;rotate_left
       ·show Act.put _ (some 6) _ = _
        simp only [Act.put, z7a, z7b, z7c, i64_w, i32_w]
        rfl
       exact norm_ q7_46 (hCont (.slice Ao36 t419.length co36, .slice Ao37 t422.length co37, v426, gb429) _ ⟨hHeld, q7_57, q7_58, q7_59, q7_1, q7_2, q7_4, GW429.out, GE429.out, NB415_429.out, NB429_415.out, NB416_429.out, NB429_416.out, q7_9⟩)
      ·refine box_step ?hg (N := 6) ?hd (cs := #[.slice none 0 0]) (t := 25) ?hr ?_; (case hd => rfl); (case hg => rfl); (case hr => exact q7_47);intro gb429 hg w36 hbox hb;have n0_ := z7k (Kd.R_below q7_15 hb);have n1_ := z7k (Kd.R_below q7_25 hb);have n2_ := z7k (blk_below (g := gb415) (o := .cells #[.slice A0_0 l0_0.length c0_0] 37 (0, 0)) q7_1 hb);have n3_ := z7k (blk_below (g := gb416) (o := .cells #[.slice A1_0 l1_0.length c1_0] 37 (0, 0)) q7_2 hb);have n4_ := z7k (below_step q7_10 hb);have n5_ := z7k (hbox);have n6_ := z7k ((q7_108 : w.heap.size ≤ gb429));have n7_ := z7k ((q7_108 : w.heap.size ≤ gb429));have n8_ := z7k ((q7_19 : gb415 ≠ gb429));have n9_ := z7k ((q7_20 : gb429 ≠ gb415));have n10_ := z7k ((q7_27 : gb416 ≠ gb429));have n11_ := z7k ((q7_28 : gb429 ≠ gb416));clear HO421 HO424 BK415 BK416 HB;have HO421 := n0_;have HO424 := n1_;have BK415 := n2_;have BK416 := n3_;have HB := n4_;have BK429 := n5_;have GW429 := n6_;have GE429 := n7_;have NB415_429 := n8_;have NB429_415 := n9_;have NB416_429 := n10_;have NB429_416 := n11_;clear n0_ n1_ n2_ n3_ n4_ n5_ n6_ n7_ n8_ n9_ n10_ n11_ hb hbox hg;obtain ⟨Ao37, co37, eo37⟩ := Kd.R_slice HO421.out;(first | subst eo37 | (injection eo37 with f1_ f2_ f3_; have f4_ := f1_.symm; have f5_ := f3_.symm; clear f1_ f2_ f3_; subst f4_; subst f5_));obtain ⟨Ao38, co38, eo38⟩ := Kd.R_slice HO424.out;(first | subst eo38 | (injection eo38 with f1_ f2_ f3_; have f4_ := f1_.symm; have f5_ := f3_.symm; clear f1_ f2_ f3_; subst f4_; subst f5_));refine hK.out _ _ ⟨(blk_cell BK415.out 0).trans rfl, (blk_cell BK416.out 0).trans rfl⟩ (fun hHeld => ?_);clear hK K;refine norm_ (a' := ?_) ?_ ?_;rotate_left
       ·show Act.put _ (some 6) _ = _
        simp only [Act.put, z7a, z7b, z7c, i64_w, i32_w]
        rfl
       refine one_ (i := 4) (N := some 32) laws_FnExactFewJoin.D13 rfl rfl (one_of HT_.out (by kernel_rfl)) (by decide) (fun K hK => ?_);refine goes_ Try.func12 (by kernel_rfl) rfl #[.agg #[.slice Ao37 t419.length co37], .agg #[.slice Ao38 t422.length co38]] (by rfl) rfl rfl q7_5 ?_
       with_reducible refine (spec_FewJoin.calls k _ _ t419 _ _ t422 t425 t428 _ ?side1 ?side2 ?side3 ?side4 A21.out).mono ?_
       (case side1 => exact q7_50);(case side2 => exact (Kd.R_reads' HO421.out).2.1);(case side3 => exact q7_51);(case side4 => exact (Kd.R_reads' HO424.out).2.1);rintro e w39 ⟨v426, rfl, ho0, hb⟩;refine ⟨_, rfl, ?_⟩;have n0_ := z7k (Kd.R_elder' q7_15 (Kd.R_base ho0) hb);have n1_ := z7k (Kd.R_elder' q7_25 (Kd.R_base ho0) hb);have n2_ := z7k (Kd.R_lower (Kd.R_new' (Kd.R_new' ho0 (Kd.R_lt q7_15)) (Kd.R_lt q7_25)) (below_size q7_9));have n3_ := z7k (blk_below (g := gb415) (o := .cells #[.slice A0_0 l0_0.length c0_0] 37 (0, 0)) q7_1 hb);have n4_ := z7k (blk_below (g := gb416) (o := .cells #[.slice A1_0 l1_0.length c1_0] 37 (0, 0)) q7_2 hb);have n5_ := z7k (blk_below (g := gb429) (o := .cells #[.slice none 0 0] 25 (0, 0)) q7_4 hb);have n6_ := z7k (below_step q7_9 hb);clear HO421 HO424 BK415 BK416 BK429 HB;have HO421 := n0_;have HO424 := n1_;have HO427 := n2_;have BK415 := n3_;have BK416 := n4_;have BK429 := n5_;have HB := n6_;clear n0_ n1_ n2_ n3_ n4_ n5_ n6_;(try clear hb);(try clear hb2);(try clear hk);(try clear hi);(try clear ho0);refine hK.out _ _ ⟨(blk_cell BK415.out 0).trans rfl, (blk_cell BK416.out 0).trans rfl⟩ (fun hHeld => ?_);clear hK K;refine norm_ (a' := ?_) ?_ ?_;rotate_left
       ·show Act.put _ (some 32) _ = _
        simp only [Act.put, z7a, z7b, z7c, i64_w, i32_w]
        rfl
       refine pure_ (i := 5) (N := some 27) (v := ?_) (a' := ?_) laws_FnExactFewJoin.D14 rfl rfl (any_of HT_.out (by kernel_rfl)) (fun _ _ _ h => h) (Or.inl ⟨by rfl, ?_⟩) ?_ ?_;rotate_left
       ·intro w'
        go_simp
        with_reducible rfl
       rotate_left
       ·simp only [Act.put, z7a, z7b, z7c, i64_w, i32_w]
        rfl
       refine pure_ (i := 6) (N := some 33) (v := ?_) (a' := ?_) laws_FnExactFewJoin.D15 rfl rfl (any_of HT_.out (by kernel_rfl)) (fun _ _ _ h => h) (Or.inl ⟨by rfl, ?_⟩) ?_ ?_;rotate_left
       ·intro w'
        go_simp
        with_reducible rfl
       rotate_left
       ·simp only [Act.put, z7a, z7b, z7c, i64_w, i32_w]
        rfl
       refine pure_ (i := 7) (N := some 34) (v := ?_) (a' := ?_) laws_FnExactFewJoin.D3 rfl rfl (any_of HT_.out (by kernel_rfl)) (fun _ _ _ h => h) (Or.inl ⟨by rfl, ?_⟩) ?_ ?_;rotate_left
       ·intro w'
        go_simp
        with_reducible rfl
       rotate_left
       ·simp only [Act.put, z7a, z7b, z7c, i64_w, i32_w]
        rfl
       exact norm_ q7_46 (hCont (.slice Ao37 t419.length co37, .slice Ao38 t422.length co38, v426, gb429) _ ⟨hHeld, q7_57, q7_58, q7_59, q7_1, q7_2, q7_4, GW429.out, GE429.out, NB415_429.out, NB429_415.out, NB416_429.out, NB429_416.out, q7_9⟩)
     ·refine box_step ?hg (N := 6) ?hd (cs := #[.slice none 0 0]) (t := 25) ?hr ?_; (case hd => rfl); (case hg => rfl); (case hr => exact q7_47);intro gb429 hg w35 hbox hb;have n0_ := z7k (Kd.R_below q7_15 hb);have n1_ := z7k (blk_below (g := gb415) (o := .cells #[.slice A0_0 l0_0.length c0_0] 37 (0, 0)) q7_1 hb);have n2_ := z7k (blk_below (g := gb416) (o := .cells #[.slice A1_0 l1_0.length c1_0] 37 (0, 0)) q7_2 hb);have n3_ := z7k (below_step q7_10 hb);have n4_ := z7k (hbox);have n5_ := z7k ((q7_108 : w.heap.size ≤ gb429));have n6_ := z7k ((q7_108 : w.heap.size ≤ gb429));have n7_ := z7k ((q7_19 : gb415 ≠ gb429));have n8_ := z7k ((q7_20 : gb429 ≠ gb415));have n9_ := z7k ((q7_27 : gb416 ≠ gb429));have n10_ := z7k ((q7_28 : gb429 ≠ gb416));clear HO421 BK415 BK416 HB;have HO421 := n0_;have BK415 := n1_;have BK416 := n2_;have HB := n3_;have BK429 := n4_;have GW429 := n5_;have GE429 := n6_;have NB415_429 := n7_;have NB429_415 := n8_;have NB416_429 := n9_;have NB429_416 := n10_;clear n0_ n1_ n2_ n3_ n4_ n5_ n6_ n7_ n8_ n9_ n10_ hb hbox hg;refine hK.out _ _ ⟨(blk_cell BK415.out 0).trans rfl, (blk_cell BK416.out 0).trans rfl⟩ (fun hHeld => ?_);clear hK K;refine norm_ (a' := ?_) ?_ ?_;rotate_left
      ·show Act.put _ (some 6) _ = _
       simp only [Act.put, z7a, z7b, z7c, i64_w, i32_w]
       rfl
      refine one_ (i := 3) (N := some 31) laws_FnExactFewJoin.D9 rfl rfl (one_of HT_.out (by kernel_rfl)) (by decide) (fun K hK => ?_);refine goes_ Try.func20 (by kernel_rfl) rfl #[.agg #[.slice A1_0 l1_0.length c1_0]] (by rfl) rfl rfl q7_5 ?_
      with_reducible refine (laws_toFew.calls k _ _ l1_0 t422 _ ?side1 ?side2 A20.out).mono ?_
      (case side1 => exact q7_18);(case side2 => exact HC1_0.out);rintro e w36 ⟨v423, rfl, ho0, hb⟩;refine ⟨_, rfl, ?_⟩;have n0_ := z7k (Kd.R_elder' q7_15 (Kd.R_base ho0) hb);have n1_ := z7k (Kd.R_lower (Kd.R_new' ho0 (Kd.R_lt q7_15)) (below_size q7_9));have n2_ := z7k (blk_below (g := gb415) (o := .cells #[.slice A0_0 l0_0.length c0_0] 37 (0, 0)) q7_1 hb);have n3_ := z7k (blk_below (g := gb416) (o := .cells #[.slice A1_0 l1_0.length c1_0] 37 (0, 0)) q7_2 hb);have n4_ := z7k (blk_below (g := gb429) (o := .cells #[.slice none 0 0] 25 (0, 0)) q7_4 hb);have n5_ := z7k (below_step q7_9 hb);clear HO421 BK415 BK416 BK429 HB;have HO421 := n0_;have HO424 := n1_;have BK415 := n2_;have BK416 := n3_;have BK429 := n4_;have HB := n5_;clear n0_ n1_ n2_ n3_ n4_ n5_;(try clear hb);(try clear hb2);(try clear hk);(try clear hi);(try clear ho0);obtain ⟨Ao37, co37, eo37⟩ := Kd.R_slice HO421.out;(first | subst eo37 | (injection eo37 with f1_ f2_ f3_; have f4_ := f1_.symm; have f5_ := f3_.symm; clear f1_ f2_ f3_; subst f4_; subst f5_));obtain ⟨Ao38, co38, eo38⟩ := Kd.R_slice HO424.out;(first | subst eo38 | (injection eo38 with f1_ f2_ f3_; have f4_ := f1_.symm; have f5_ := f3_.symm; clear f1_ f2_ f3_; subst f4_; subst f5_));refine hK.out _ _ ⟨(blk_cell BK415.out 0).trans rfl, (blk_cell BK416.out 0).trans rfl⟩ (fun hHeld => ?_);clear hK K;refine norm_ (a' := ?_) ?_ ?_;rotate_left
      ·show Act.put _ (some 31) _ = _
       simp only [Act.put, z7a, z7b, z7c, i64_w, i32_w]
       rfl
      refine one_ (i := 4) (N := some 32) laws_FnExactFewJoin.D13 rfl rfl (one_of HT_.out (by kernel_rfl)) (by decide) (fun K hK => ?_);refine goes_ Try.func12 (by kernel_rfl) rfl #[.agg #[.slice Ao37 t419.length co37], .agg #[.slice Ao38 t422.length co38]] (by rfl) rfl rfl q7_5 ?_
      with_reducible refine (spec_FewJoin.calls k _ _ t419 _ _ t422 t425 t428 _ ?side1 ?side2 ?side3 ?side4 A21.out).mono ?_
      (case side1 => exact q7_50);(case side2 => exact (Kd.R_reads' HO421.out).2.1);(case side3 => exact q7_51);(case side4 => exact (Kd.R_reads' HO424.out).2.1);rintro e w39 ⟨v426, rfl, ho0, hb⟩;refine ⟨_, rfl, ?_⟩;have n0_ := z7k (Kd.R_elder' q7_15 (Kd.R_base ho0) hb);have n1_ := z7k (Kd.R_elder' q7_25 (Kd.R_base ho0) hb);have n2_ := z7k (Kd.R_lower (Kd.R_new' (Kd.R_new' ho0 (Kd.R_lt q7_15)) (Kd.R_lt q7_25)) (below_size q7_9));have n3_ := z7k (blk_below (g := gb415) (o := .cells #[.slice A0_0 l0_0.length c0_0] 37 (0, 0)) q7_1 hb);have n4_ := z7k (blk_below (g := gb416) (o := .cells #[.slice A1_0 l1_0.length c1_0] 37 (0, 0)) q7_2 hb);have n5_ := z7k (blk_below (g := gb429) (o := .cells #[.slice none 0 0] 25 (0, 0)) q7_4 hb);have n6_ := z7k (below_step q7_9 hb);clear HO421 HO424 BK415 BK416 BK429 HB;have HO421 := n0_;have HO424 := n1_;have HO427 := n2_;have BK415 := n3_;have BK416 := n4_;have BK429 := n5_;have HB := n6_;clear n0_ n1_ n2_ n3_ n4_ n5_ n6_;(try clear hb);(try clear hb2);(try clear hk);(try clear hi);(try clear ho0);refine hK.out _ _ ⟨(blk_cell BK415.out 0).trans rfl, (blk_cell BK416.out 0).trans rfl⟩ (fun hHeld => ?_);clear hK K;refine norm_ (a' := ?_) ?_ ?_;rotate_left
      ·show Act.put _ (some 32) _ = _
       simp only [Act.put, z7a, z7b, z7c, i64_w, i32_w]
       rfl
      refine pure_ (i := 5) (N := some 27) (v := ?_) (a' := ?_) laws_FnExactFewJoin.D14 rfl rfl (any_of HT_.out (by kernel_rfl)) (fun _ _ _ h => h) (Or.inl ⟨by rfl, ?_⟩) ?_ ?_;rotate_left
      ·intro w'
       go_simp
       with_reducible rfl
      rotate_left
      ·simp only [Act.put, z7a, z7b, z7c, i64_w, i32_w]
       rfl
      refine pure_ (i := 6) (N := some 33) (v := ?_) (a' := ?_) laws_FnExactFewJoin.D15 rfl rfl (any_of HT_.out (by kernel_rfl)) (fun _ _ _ h => h) (Or.inl ⟨by rfl, ?_⟩) ?_ ?_;rotate_left
      ·intro w'
       go_simp
       with_reducible rfl
      rotate_left
      ·simp only [Act.put, z7a, z7b, z7c, i64_w, i32_w]
       rfl
      refine pure_ (i := 7) (N := some 34) (v := ?_) (a' := ?_) laws_FnExactFewJoin.D3 rfl rfl (any_of HT_.out (by kernel_rfl)) (fun _ _ _ h => h) (Or.inl ⟨by rfl, ?_⟩) ?_ ?_;rotate_left
      ·intro w'
       go_simp
       with_reducible rfl
      rotate_left
      ·simp only [Act.put, z7a, z7b, z7c, i64_w, i32_w]
       rfl
      exact norm_ q7_46 (hCont (.slice Ao37 t419.length co37, .slice Ao38 t422.length co38, v426, gb429) _ ⟨hHeld, q7_57, q7_58, q7_59, q7_1, q7_2, q7_4, GW429.out, GE429.out, NB415_429.out, NB429_415.out, NB416_429.out, NB429_416.out, q7_9⟩)
    ·refine box_step ?hg (N := 6) ?hd (cs := #[.slice none 0 0]) (t := 25) ?hr ?_; (case hd => rfl); (case hg => rfl); (case hr => exact q7_47);intro gb429 hg w34 hbox hb;have n0_ := z7k (blk_below (g := gb415) (o := .cells #[.slice A0_0 l0_0.length c0_0] 37 (0, 0)) q7_1 hb);have n1_ := z7k (blk_below (g := gb416) (o := .cells #[.slice A1_0 l1_0.length c1_0] 37 (0, 0)) q7_2 hb);have n2_ := z7k (below_step q7_10 hb);have n3_ := z7k (hbox);have n4_ := z7k ((q7_108 : w.heap.size ≤ gb429));have n5_ := z7k ((q7_108 : w.heap.size ≤ gb429));have n6_ := z7k ((q7_19 : gb415 ≠ gb429));have n7_ := z7k ((q7_20 : gb429 ≠ gb415));have n8_ := z7k ((q7_27 : gb416 ≠ gb429));have n9_ := z7k ((q7_28 : gb429 ≠ gb416));clear BK415 BK416 HB;have BK415 := n0_;have BK416 := n1_;have HB := n2_;have BK429 := n3_;have GW429 := n4_;have GE429 := n5_;have NB415_429 := n6_;have NB429_415 := n7_;have NB416_429 := n8_;have NB429_416 := n9_;clear n0_ n1_ n2_ n3_ n4_ n5_ n6_ n7_ n8_ n9_ hb hbox hg;refine hK.out _ _ ⟨(blk_cell BK415.out 0).trans rfl, (blk_cell BK416.out 0).trans rfl⟩ (fun hHeld => ?_);clear hK K;refine norm_ (a' := ?_) ?_ ?_;rotate_left
     ·show Act.put _ (some 6) _ = _
      simp only [Act.put, z7a, z7b, z7c, i64_w, i32_w]
      rfl
     refine one_ (i := 1) (N := some 29) laws_FnExactFewJoin.D7 rfl rfl (one_of HT_.out (by kernel_rfl)) (by decide) (fun K hK => ?_);refine goes_ Try.func20 (by kernel_rfl) rfl #[.agg #[.slice A0_0 l0_0.length c0_0]] (by rfl) rfl rfl q7_5 ?_
     with_reducible refine (laws_toFew.calls k _ _ l0_0 t419 _ ?side1 ?side2 A19.out).mono ?_
     (case side1 => exact q7_17);(case side2 => exact HC0_0.out);rintro e w35 ⟨v420, rfl, ho0, hb⟩;refine ⟨_, rfl, ?_⟩;have n0_ := z7k (Kd.R_lower ho0 (below_size q7_9));have n1_ := z7k (blk_below (g := gb415) (o := .cells #[.slice A0_0 l0_0.length c0_0] 37 (0, 0)) q7_1 hb);have n2_ := z7k (blk_below (g := gb416) (o := .cells #[.slice A1_0 l1_0.length c1_0] 37 (0, 0)) q7_2 hb);have n3_ := z7k (blk_below (g := gb429) (o := .cells #[.slice none 0 0] 25 (0, 0)) q7_4 hb);have n4_ := z7k (below_step q7_9 hb);clear BK415 BK416 BK429 HB;have HO421 := n0_;have BK415 := n1_;have BK416 := n2_;have BK429 := n3_;have HB := n4_;clear n0_ n1_ n2_ n3_ n4_;(try clear hb);(try clear hb2);(try clear hk);(try clear hi);(try clear ho0);refine hK.out _ _ ⟨(blk_cell BK415.out 0).trans rfl, (blk_cell BK416.out 0).trans rfl⟩ (fun hHeld => ?_);clear hK K;refine norm_ (a' := ?_) ?_ ?_;rotate_left
     ·show Act.put _ (some 29) _ = _
      simp only [Act.put, z7a, z7b, z7c, i64_w, i32_w]
      rfl
     refine one_ (i := 3) (N := some 31) laws_FnExactFewJoin.D9 rfl rfl (one_of HT_.out (by kernel_rfl)) (by decide) (fun K hK => ?_);refine goes_ Try.func20 (by kernel_rfl) rfl #[.agg #[.slice A1_0 l1_0.length c1_0]] (by rfl) rfl rfl q7_5 ?_
     with_reducible refine (laws_toFew.calls k _ _ l1_0 t422 _ ?side1 ?side2 A20.out).mono ?_
     (case side1 => exact q7_18);(case side2 => exact HC1_0.out);rintro e w36 ⟨v423, rfl, ho0, hb⟩;refine ⟨_, rfl, ?_⟩;have n0_ := z7k (Kd.R_elder' q7_15 (Kd.R_base ho0) hb);have n1_ := z7k (Kd.R_lower (Kd.R_new' ho0 (Kd.R_lt q7_15)) (below_size q7_9));have n2_ := z7k (blk_below (g := gb415) (o := .cells #[.slice A0_0 l0_0.length c0_0] 37 (0, 0)) q7_1 hb);have n3_ := z7k (blk_below (g := gb416) (o := .cells #[.slice A1_0 l1_0.length c1_0] 37 (0, 0)) q7_2 hb);have n4_ := z7k (blk_below (g := gb429) (o := .cells #[.slice none 0 0] 25 (0, 0)) q7_4 hb);have n5_ := z7k (below_step q7_9 hb);clear HO421 BK415 BK416 BK429 HB;have HO421 := n0_;have HO424 := n1_;have BK415 := n2_;have BK416 := n3_;have BK429 := n4_;have HB := n5_;clear n0_ n1_ n2_ n3_ n4_ n5_;(try clear hb);(try clear hb2);(try clear hk);(try clear hi);(try clear ho0);obtain ⟨Ao37, co37, eo37⟩ := Kd.R_slice HO421.out;(first | subst eo37 | (injection eo37 with f1_ f2_ f3_; have f4_ := f1_.symm; have f5_ := f3_.symm; clear f1_ f2_ f3_; subst f4_; subst f5_));obtain ⟨Ao38, co38, eo38⟩ := Kd.R_slice HO424.out;(first | subst eo38 | (injection eo38 with f1_ f2_ f3_; have f4_ := f1_.symm; have f5_ := f3_.symm; clear f1_ f2_ f3_; subst f4_; subst f5_));refine hK.out _ _ ⟨(blk_cell BK415.out 0).trans rfl, (blk_cell BK416.out 0).trans rfl⟩ (fun hHeld => ?_);clear hK K;refine norm_ (a' := ?_) ?_ ?_;rotate_left
     ·show Act.put _ (some 31) _ = _
      simp only [Act.put, z7a, z7b, z7c, i64_w, i32_w]
      rfl
     refine one_ (i := 4) (N := some 32) laws_FnExactFewJoin.D13 rfl rfl (one_of HT_.out (by kernel_rfl)) (by decide) (fun K hK => ?_);refine goes_ Try.func12 (by kernel_rfl) rfl #[.agg #[.slice Ao37 t419.length co37], .agg #[.slice Ao38 t422.length co38]] (by rfl) rfl rfl q7_5 ?_
     with_reducible refine (spec_FewJoin.calls k _ _ t419 _ _ t422 t425 t428 _ ?side1 ?side2 ?side3 ?side4 A21.out).mono ?_
     (case side1 => exact q7_50);(case side2 => exact (Kd.R_reads' HO421.out).2.1);(case side3 => exact q7_51);(case side4 => exact (Kd.R_reads' HO424.out).2.1);rintro e w39 ⟨v426, rfl, ho0, hb⟩;refine ⟨_, rfl, ?_⟩;have n0_ := z7k (Kd.R_elder' q7_15 (Kd.R_base ho0) hb);have n1_ := z7k (Kd.R_elder' q7_25 (Kd.R_base ho0) hb);have n2_ := z7k (Kd.R_lower (Kd.R_new' (Kd.R_new' ho0 (Kd.R_lt q7_15)) (Kd.R_lt q7_25)) (below_size q7_9));have n3_ := z7k (blk_below (g := gb415) (o := .cells #[.slice A0_0 l0_0.length c0_0] 37 (0, 0)) q7_1 hb);have n4_ := z7k (blk_below (g := gb416) (o := .cells #[.slice A1_0 l1_0.length c1_0] 37 (0, 0)) q7_2 hb);have n5_ := z7k (blk_below (g := gb429) (o := .cells #[.slice none 0 0] 25 (0, 0)) q7_4 hb);have n6_ := z7k (below_step q7_9 hb);clear HO421 HO424 BK415 BK416 BK429 HB;have HO421 := n0_;have HO424 := n1_;have HO427 := n2_;have BK415 := n3_;have BK416 := n4_;have BK429 := n5_;have HB := n6_;clear n0_ n1_ n2_ n3_ n4_ n5_ n6_;(try clear hb);(try clear hb2);(try clear hk);(try clear hi);(try clear ho0);refine hK.out _ _ ⟨(blk_cell BK415.out 0).trans rfl, (blk_cell BK416.out 0).trans rfl⟩ (fun hHeld => ?_);clear hK K;refine norm_ (a' := ?_) ?_ ?_;rotate_left
     ·show Act.put _ (some 32) _ = _
      simp only [Act.put, z7a, z7b, z7c, i64_w, i32_w]
      rfl
     refine pure_ (i := 5) (N := some 27) (v := ?_) (a' := ?_) laws_FnExactFewJoin.D14 rfl rfl (any_of HT_.out (by kernel_rfl)) (fun _ _ _ h => h) (Or.inl ⟨by rfl, ?_⟩) ?_ ?_;rotate_left
     ·intro w'
      go_simp
      with_reducible rfl
     rotate_left
     ·simp only [Act.put, z7a, z7b, z7c, i64_w, i32_w]
      rfl
     refine pure_ (i := 6) (N := some 33) (v := ?_) (a' := ?_) laws_FnExactFewJoin.D15 rfl rfl (any_of HT_.out (by kernel_rfl)) (fun _ _ _ h => h) (Or.inl ⟨by rfl, ?_⟩) ?_ ?_;rotate_left
     ·intro w'
      go_simp
      with_reducible rfl
     rotate_left
     ·simp only [Act.put, z7a, z7b, z7c, i64_w, i32_w]
      rfl
     refine pure_ (i := 7) (N := some 34) (v := ?_) (a' := ?_) laws_FnExactFewJoin.D3 rfl rfl (any_of HT_.out (by kernel_rfl)) (fun _ _ _ h => h) (Or.inl ⟨by rfl, ?_⟩) ?_ ?_;rotate_left
     ·intro w'
      go_simp
      with_reducible rfl
     rotate_left
     ·simp only [Act.put, z7a, z7b, z7c, i64_w, i32_w]
      rfl
     exact norm_ q7_46 (hCont (.slice Ao37 t419.length co37, .slice Ao38 t422.length co38, v426, gb429) _ ⟨hHeld, q7_57, q7_58, q7_59, q7_1, q7_2, q7_4, GW429.out, GE429.out, NB415_429.out, NB429_415.out, NB416_429.out, NB429_416.out, q7_9⟩)
   rintro ⟨v420, v423, v426, gb429⟩ w40 ⟨hS_, h0_, h1_, h2_, h3_, h4_, h5_, h6_, h7_, h8_, h9_, h10_, h11_, h12_⟩
   have n0_ : Aside0 (Kd.R (Kd.int .i64) 3 w40 w.heap.size (fun k_ => some k_ ≠ (v423 : Value).ownBlock ∧ some k_ ≠ (v426 : Value).ownBlock) v420 t419) := ⟨h0_⟩
   have n1_ : Aside0 (Kd.R (Kd.int .i64) 3 w40 w.heap.size (fun k_ => some k_ ≠ (v420 : Value).ownBlock ∧ some k_ ≠ (v426 : Value).ownBlock) v423 t422) := ⟨h1_⟩
   have n2_ : Aside0 (Kd.R (Kd.int .i64) 3 w40 w.heap.size (fun k_ => some k_ ≠ (v420 : Value).ownBlock ∧ some k_ ≠ (v423 : Value).ownBlock) v426 t425) := ⟨h2_⟩
   have n3_ : Aside0 (w40.heap[gb415]? = some (.cells #[.slice A0_0 l0_0.length c0_0] 37 (0, 0))) := ⟨h3_⟩
   have n4_ : Aside0 (w40.heap[gb416]? = some (.cells #[.slice A1_0 l1_0.length c1_0] 37 (0, 0))) := ⟨h4_⟩
   have n5_ : Aside0 (w40.heap[gb429]? = some (.cells #[.slice none 0 0] 25 (0, 0))) := ⟨h5_⟩
   have n6_ : Aside0 (w.heap.size ≤ gb429) := ⟨h6_⟩
   have n7_ : Aside0 (w.heap.size ≤ gb429) := ⟨h7_⟩
   have n8_ : Aside0 (gb415 ≠ gb429) := ⟨h8_⟩
   have n9_ : Aside0 (gb429 ≠ gb415) := ⟨h9_⟩
   have n10_ : Aside0 (gb416 ≠ gb429) := ⟨h10_⟩
   have n11_ : Aside0 (gb429 ≠ gb416) := ⟨h11_⟩
   have n12_ : Aside0 (Below w.heap.size w w40) := ⟨h12_⟩
   clear BK415 BK416 HB h0_ h1_ h2_ h3_ h4_ h5_ h6_ h7_ h8_ h9_ h10_ h11_ h12_;have HO421 := n0_;have HO424 := n1_;have HO427 := n2_;have BK415 := n3_;have BK416 := n4_;have BK429 := n5_;have GW429 := n6_;have GE429 := n7_;have NB415_429 := n8_;have NB429_415 := n9_;have NB416_429 := n10_;have NB429_416 := n11_;have HB := n12_;clear n0_ n1_ n2_ n3_ n4_ n5_ n6_ n7_ n8_ n9_ n10_ n11_ n12_
   have hHeld : w40.cell? ⟨gb415, 0, none⟩ = some (.slice A0_0 l0_0.length c0_0) ∧ w40.cell? ⟨gb416, 0, none⟩ = some (.slice A1_0 l1_0.length c1_0) := hS_
   obtain ⟨Ao41, co41, eo41⟩ := Kd.R_slice HO427.out;(first | subst eo41 | (injection eo41 with f1_ f2_ f3_; have f4_ := f1_.symm; have f5_ := f3_.symm; clear f1_ f2_ f3_; subst f4_; subst f5_));refine norm_ (a' := ?_) ?_ ?_;rotate_left
   ·simp only [putAll, Act.put, z7a, z7b, z7c]
    rfl
   refine one_ (i := 9) (N := none) laws_FnExactFewJoin.D16 rfl rfl (one_of HT_.out (by kernel_rfl)) (by decide) (fun K hK => ?_)
   have hs42 : w40.cell? ⟨gb429, 0, none⟩ = some (.slice none 0 0) := (blk_cell BK429.out 0).trans rfl
   have hfs42 := blk_frozen BK429.out 0;have hns42_0 := NB415_429.out;have hns42_1 := NB416_429.out;have hms42_0 := NB429_415.out;have hms42_1 := NB429_416.out;refine skip_ (w1 := ?_) (by rfl) rfl ?_ ?_;rotate_left
   ·go_simp
    rfl
   refine hK.out _ _ ⟨((cell_far (p := ⟨gb429, _, none⟩) NB415_429.out _).trans (hHeld.1)), ((cell_far (p := ⟨gb429, _, none⟩) NB416_429.out _).trans (hHeld.2))⟩ (fun hHeld => ?_);clear hK K;refine pure_ (i := 10) (N := some 7) (v := ?_) (a' := ?_) laws_FnExactFewJoin.D17 rfl rfl (any_of HT_.out (by kernel_rfl)) (fun _ _ _ h => h) (Or.inl ⟨by rfl, ?_⟩) ?_ ?_;rotate_left
   ·intro w'
    go_simp
    with_reducible rfl
   rotate_left
   ·simp only [Act.put, z7a, z7b, z7c, i64_w, i32_w]
    rfl
   refine done_ (done_of HT_.out (by kernel_rfl)) ?_;have hnb43 := NB415_429.out;have hnc43 := NB429_415.out
   have hcz44_0 : w40.cell? ⟨gb415, 0, none⟩ = some (.slice A0_0 l0_0.length c0_0) := (blk_cell BK415.out 0).trans rfl
   have hfz44_0 := blk_frozen BK415.out 0
   go_upto_region 12 with (first | ((with_reducible refine gate_callee (f := 20) rfl ?_); refine goesL_ (some 36) rfl rfl Try.func20 (by kernel_rfl) rfl #[.agg #[.slice A0_0 l0_0.length c0_0]] rfl q7_5 ?_; (with_reducible refine (laws_toFew.calls k _ _ l0_0 t430 _ ?side1 ?side2 A22.out).mono ?_); (case side1 => exact Kd.C_below HR0_0.out q7_9); (case side2 => exact HC0_0.out); rintro e w45 ⟨v431, rfl, ho0, hb⟩; refine ⟨_, rfl, ?_⟩; have n0_ := z7k (Kd.R_elder' q7_79 (Kd.R_base ho0) hb); have n1_ := z7k (Kd.R_elder' q7_80 (Kd.R_base ho0) hb); have n2_ := z7k (Kd.R_elder' q7_81 (Kd.R_base ho0) hb); have n3_ := z7k (Kd.R_lower (Kd.R_new' (Kd.R_new' (Kd.R_new' ho0 (Kd.R_lt q7_79)) (Kd.R_lt q7_80)) (Kd.R_lt q7_81)) (below_size q7_9)); have n4_ := z7k (blk_below (g := gb415) (o := .cells #[.slice A0_0 l0_0.length c0_0] 37 (0, 0)) (by (with_reducible repeat (first | refine blk_drewN ?_ _ | refine blk_drew ?_ | refine blk_alloc ?_ _)); refine blk_far ?_ NB415_429.out _; (with_reducible repeat (first | refine blk_drewN ?_ _ | refine blk_drew ?_ | refine blk_alloc ?_ _)); exact BK415.out) hb); have n5_ := z7k (blk_below (g := gb416) (o := .cells #[.slice A1_0 l1_0.length c1_0] 37 (0, 0)) (by (with_reducible repeat (first | refine blk_drewN ?_ _ | refine blk_drew ?_ | refine blk_alloc ?_ _)); refine blk_far ?_ NB416_429.out _; (with_reducible repeat (first | refine blk_drewN ?_ _ | refine blk_drew ?_ | refine blk_alloc ?_ _)); exact BK416.out) hb); have n6_ := z7k (blk_below (g := gb429) (o := .cells #[.slice Ao41 t425.length co41] 25 (0, 0)) (by (with_reducible repeat (first | refine blk_drewN ?_ _ | refine blk_drew ?_ | refine blk_alloc ?_ _)); refine blk_put (cs := #[.slice none 0 0]) ?_ 0 _ rfl; (with_reducible repeat (first | refine blk_drewN ?_ _ | refine blk_drew ?_ | refine blk_alloc ?_ _)); exact BK429.out) hb); have n7_ := z7k (below_step q7_9 hb); clear HO421; clear HO424; clear HO427; clear BK415; clear BK416; clear BK429; clear HB; have HO421 := n0_; have HO424 := n1_; have HO427 := n2_; have HO432 := n3_; have BK415 := n4_; have BK416 := n5_; have BK429 := n6_; have HB := n7_; clear n0_ n1_ n2_ n3_ n4_ n5_ n6_ n7_; (try clear hb); (try clear hb2); (try clear hk); (try clear hi); (try clear ho0)) | ((with_reducible refine gate_dst (N := 8) rfl ?_); refine box_event ?hg (N := 8) ?hd (cs := #[.slice none 0 0]) (t := 25) ?hr ?_; (case hd => rfl); (case hg => rfl); (case hr => exact q7_47); intro gb433 hg w46 hbox hb; have n0_ := z7k (Kd.R_below q7_15 hb); have n1_ := z7k (Kd.R_below q7_25 hb); have n2_ := z7k (Kd.R_below q7_70 hb); have n3_ := z7k (Kd.R_below q7_107 hb); have n4_ := z7k (blk_below (g := gb415) (o := .cells #[.slice A0_0 l0_0.length c0_0] 37 (0, 0)) q7_1 hb); have n5_ := z7k (blk_below (g := gb416) (o := .cells #[.slice A1_0 l1_0.length c1_0] 37 (0, 0)) q7_2 hb); have n6_ := z7k (blk_below (g := gb429) (o := .cells #[.slice Ao41 t425.length co41] 25 (0, 0)) q7_4 hb); have n7_ := z7k (below_step q7_9 hb); have n8_ := z7k (hbox); have n9_ := z7k ((by rw [hg]; exact (below_size q7_9) : w.heap.size ≤ gb433)); have n10_ := z7k ((by rw [hg]; exact (below_size q7_9) : w.heap.size ≤ gb433)); have n11_ := z7k ((q7_19 : gb415 ≠ gb433)); have n12_ := z7k ((q7_20 : gb433 ≠ gb415)); have n13_ := z7k ((q7_27 : gb416 ≠ gb433)); have n14_ := z7k ((q7_28 : gb433 ≠ gb416)); have n15_ := z7k ((q7_44 : gb429 ≠ gb433)); have n16_ := z7k ((q7_45 : gb433 ≠ gb429)); clear HO421; clear HO424; clear HO427; clear HO432; clear BK415; clear BK416; clear BK429; clear HB; have HO421 := n0_; have HO424 := n1_; have HO427 := n2_; have HO432 := n3_; have BK415 := n4_; have BK416 := n5_; have BK429 := n6_; have HB := n7_; have BK433 := n8_; have GW433 := n9_; have GE433 := n10_; have NB415_433 := n11_; have NB433_415 := n12_; have NB416_433 := n13_; have NB433_416 := n14_; have NB429_433 := n15_; have NB433_429 := n16_; clear n0_ n1_ n2_ n3_ n4_ n5_ n6_ n7_ n8_ n9_ n10_ n11_ n12_ n13_ n14_ n15_ n16_; clear hb hbox hg; obtain ⟨Ao47, co47, eo47⟩ := Kd.R_slice HO432.out; subst eo47; have hnb48 := NB433_415.out; have hnc48 := NB415_433.out; have hnb49 := NB433_416.out; have hnc49 := NB416_433.out; have hnb50 := NB433_429.out; have hnc50 := NB429_433.out; have hcz51_0 : w46.cell? ⟨gb433, 0, none⟩ = some (.slice none 0 0) := (blk_cell BK433.out 0).trans rfl; have hfz51_0 := blk_frozen BK433.out 0; have hnb52 := NB416_429.out; have hnc52 := NB429_416.out; have hcz53_0 : w46.cell? ⟨gb416, 0, none⟩ = some (.slice A1_0 l1_0.length c1_0) := (blk_cell BK416.out 0).trans rfl; have hfz53_0 := blk_frozen BK416.out 0) | ((with_reducible refine gate_callee (f := 20) rfl ?_); refine goesL_ (some 38) rfl rfl Try.func20 (by kernel_rfl) rfl #[.agg #[.slice A1_0 l1_0.length c1_0]] rfl q7_5 ?_; (with_reducible refine (laws_toFew.calls k _ _ l1_0 t434 _ ?side1 ?side2 A23.out).mono ?_); (case side1 => exact Kd.C_below HR1_0.out q7_22); (case side2 => exact HC1_0.out); rintro e w54 ⟨v435, rfl, ho0, hb⟩; refine ⟨_, rfl, ?_⟩; have n0_ := z7k (Kd.R_elder' q7_82 (Kd.R_base ho0) hb); have n1_ := z7k (Kd.R_elder' q7_83 (Kd.R_base ho0) hb); have n2_ := z7k (Kd.R_elder' q7_84 (Kd.R_base ho0) hb); have n3_ := z7k (Kd.R_elder' q7_85 (Kd.R_base ho0) hb); have n4_ := z7k (Kd.R_lower (Kd.R_new' (Kd.R_new' (Kd.R_new' (Kd.R_new' ho0 (Kd.R_lt q7_82)) (Kd.R_lt q7_83)) (Kd.R_lt q7_84)) (Kd.R_lt q7_85)) (below_size q7_22)); have n5_ := z7k (blk_below (g := gb415) (o := .cells #[.slice A0_0 l0_0.length c0_0] 37 (0, 0)) (by (with_reducible repeat (first | refine blk_drewN ?_ _ | refine blk_drew ?_ | refine blk_alloc ?_ _)); refine blk_far ?_ NB415_433.out _; (with_reducible repeat (first | refine blk_drewN ?_ _ | refine blk_drew ?_ | refine blk_alloc ?_ _)); exact BK415.out) hb); have n6_ := z7k (blk_below (g := gb416) (o := .cells #[.slice A1_0 l1_0.length c1_0] 37 (0, 0)) (by (with_reducible repeat (first | refine blk_drewN ?_ _ | refine blk_drew ?_ | refine blk_alloc ?_ _)); refine blk_far ?_ NB416_433.out _; (with_reducible repeat (first | refine blk_drewN ?_ _ | refine blk_drew ?_ | refine blk_alloc ?_ _)); exact BK416.out) hb); have n7_ := z7k (blk_below (g := gb429) (o := .cells #[.slice Ao41 t425.length co41] 25 (0, 0)) (by (with_reducible repeat (first | refine blk_drewN ?_ _ | refine blk_drew ?_ | refine blk_alloc ?_ _)); refine blk_far ?_ NB429_433.out _; (with_reducible repeat (first | refine blk_drewN ?_ _ | refine blk_drew ?_ | refine blk_alloc ?_ _)); exact BK429.out) hb); have n8_ := z7k (blk_below (g := gb433) (o := .cells #[.slice Ao47 t430.length co47] 25 (0, 0)) (by (with_reducible repeat (first | refine blk_drewN ?_ _ | refine blk_drew ?_ | refine blk_alloc ?_ _)); refine blk_put (cs := #[.slice none 0 0]) ?_ 0 _ rfl; (with_reducible repeat (first | refine blk_drewN ?_ _ | refine blk_drew ?_ | refine blk_alloc ?_ _)); exact BK433.out) hb); have n9_ := z7k (below_step q7_22 hb); clear HO421; clear HO424; clear HO427; clear HO432; clear BK415; clear BK416; clear BK429; clear BK433; clear HB; have HO421 := n0_; have HO424 := n1_; have HO427 := n2_; have HO432 := n3_; have HO436 := n4_; have BK415 := n5_; have BK416 := n6_; have BK429 := n7_; have BK433 := n8_; have HB := n9_; clear n0_ n1_ n2_ n3_ n4_ n5_ n6_ n7_ n8_ n9_; (try clear hb); (try clear hb2); (try clear hk); (try clear hi); (try clear ho0)) | ((with_reducible refine gate_dst (N := 9) rfl ?_); refine box_event ?hg (N := 9) ?hd (cs := #[.slice none 0 0]) (t := 25) ?hr ?_; (case hd => rfl); (case hg => rfl); (case hr => exact q7_47); intro gb437 hg w55 hbox hb; have n0_ := z7k (Kd.R_below q7_15 hb); have n1_ := z7k (Kd.R_below q7_25 hb); have n2_ := z7k (Kd.R_below q7_70 hb); have n3_ := z7k (Kd.R_below q7_107 hb); have n4_ := z7k (Kd.R_below q7_117 hb); have n5_ := z7k (blk_below (g := gb415) (o := .cells #[.slice A0_0 l0_0.length c0_0] 37 (0, 0)) q7_1 hb); have n6_ := z7k (blk_below (g := gb416) (o := .cells #[.slice A1_0 l1_0.length c1_0] 37 (0, 0)) q7_2 hb); have n7_ := z7k (blk_below (g := gb429) (o := .cells #[.slice Ao41 t425.length co41] 25 (0, 0)) q7_4 hb); have n8_ := z7k (blk_below (g := gb433) (o := .cells #[.slice Ao47 t430.length co47] 25 (0, 0)) q7_6 hb); have n9_ := z7k (below_step q7_22 hb); have n10_ := z7k (hbox); have n11_ := z7k ((by rw [hg]; exact (below_size q7_22) : w.heap.size ≤ gb437)); have n12_ := z7k ((by rw [hg]; exact (below_size q7_22) : w.heap.size ≤ gb437)); have n13_ := z7k ((q7_19 : gb415 ≠ gb437)); have n14_ := z7k ((q7_20 : gb437 ≠ gb415)); have n15_ := z7k ((q7_27 : gb416 ≠ gb437)); have n16_ := z7k ((q7_28 : gb437 ≠ gb416)); have n17_ := z7k ((q7_44 : gb429 ≠ gb437)); have n18_ := z7k ((q7_45 : gb437 ≠ gb429)); have n19_ := z7k ((q7_115 : gb433 ≠ gb437)); have n20_ := z7k ((q7_116 : gb437 ≠ gb433)); clear HO421; clear HO424; clear HO427; clear HO432; clear HO436; clear BK415; clear BK416; clear BK429; clear BK433; clear HB; have HO421 := n0_; have HO424 := n1_; have HO427 := n2_; have HO432 := n3_; have HO436 := n4_; have BK415 := n5_; have BK416 := n6_; have BK429 := n7_; have BK433 := n8_; have HB := n9_; have BK437 := n10_; have GW437 := n11_; have GE437 := n12_; have NB415_437 := n13_; have NB437_415 := n14_; have NB416_437 := n15_; have NB437_416 := n16_; have NB429_437 := n17_; have NB437_429 := n18_; have NB433_437 := n19_; have NB437_433 := n20_; clear n0_ n1_ n2_ n3_ n4_ n5_ n6_ n7_ n8_ n9_ n10_ n11_ n12_ n13_ n14_ n15_ n16_ n17_ n18_ n19_ n20_; clear hb hbox hg; obtain ⟨Ao56, co56, eo56⟩ := Kd.R_slice HO436.out; subst eo56; have hnb57 := NB437_415.out; have hnc57 := NB415_437.out; have hnb58 := NB437_416.out; have hnc58 := NB416_437.out; have hnb59 := NB437_429.out; have hnc59 := NB429_437.out; have hnb60 := NB437_433.out; have hnc60 := NB433_437.out; have hcz61_0 : w55.cell? ⟨gb437, 0, none⟩ = some (.slice none 0 0) := (blk_cell BK437.out 0).trans rfl; have hfz61_0 := blk_frozen BK437.out 0; have hcz62_0 : w55.cell? ⟨gb433, 0, none⟩ = some (.slice Ao47 t430.length co47) := (blk_cell BK433.out 0).trans rfl; have hfz62_0 := blk_frozen BK433.out 0) | ((with_reducible refine gate_callee (f := 13) rfl ?_); refine goesL_ (some 42) rfl rfl Try.func13 (by kernel_rfl) rfl #[.agg #[.slice Ao47 t430.length co47], .agg #[.slice Ao56 t434.length co56]] rfl q7_5 ?_; (with_reducible refine (impl_FewJoin.calls k _ _ t430 _ _ t434 t438 t441 _ ?side1 ?side2 ?side3 ?side4 A24.out).mono ?_); (case side1 => refine (Kd.R_reads' (e := 3) (base := w.heap.size) (ok := fun k_ => ((((True ∧ some k_ ≠ (v420 : Value).ownBlock) ∧ some k_ ≠ (v423 : Value).ownBlock) ∧ some k_ ≠ (.slice Ao41 t425.length co41 : Value).ownBlock) ∧ some k_ ≠ (.slice Ao56 t434.length co56 : Value).ownBlock)) (n := t430.length) (c := co47) ?_).2.2; exact q7_48); (case side2 => exact (Kd.R_reads' HO432.out).2.1); (case side3 => refine (Kd.R_reads' (e := 3) (base := w.heap.size) (ok := fun k_ => ((((True ∧ some k_ ≠ (v420 : Value).ownBlock) ∧ some k_ ≠ (v423 : Value).ownBlock) ∧ some k_ ≠ (.slice Ao41 t425.length co41 : Value).ownBlock) ∧ some k_ ≠ (.slice Ao47 t430.length co47 : Value).ownBlock)) (n := t434.length) (c := co56) ?_).2.2; exact q7_49); (case side4 => exact (Kd.R_reads' HO436.out).2.1); rintro e w63 ⟨v439, rfl, ho0, hb⟩; refine ⟨_, rfl, ?_⟩; have n0_ := z7k (Kd.R_elder' q7_86 (Kd.R_base ho0) hb); have n1_ := z7k (Kd.R_elder' q7_87 (Kd.R_base ho0) hb); have n2_ := z7k (Kd.R_elder' q7_88 (Kd.R_base ho0) hb); have n3_ := z7k (Kd.R_elder' q7_48 (Kd.R_base ho0) hb); have n4_ := z7k (Kd.R_elder' q7_49 (Kd.R_base ho0) hb); have n5_ := z7k (Kd.R_lower (Kd.R_new' (Kd.R_new' (Kd.R_new' (Kd.R_new' (Kd.R_new' ho0 (Kd.R_lt q7_86)) (Kd.R_lt q7_87)) (Kd.R_lt q7_88)) (Kd.R_lt q7_48)) (Kd.R_lt q7_49)) (below_size q7_26)); have n6_ := z7k (blk_below (g := gb415) (o := .cells #[.slice A0_0 l0_0.length c0_0] 37 (0, 0)) (by (with_reducible repeat (first | refine blk_drewN ?_ _ | refine blk_drew ?_ | refine blk_alloc ?_ _)); refine blk_far ?_ NB415_437.out _; (with_reducible repeat (first | refine blk_drewN ?_ _ | refine blk_drew ?_ | refine blk_alloc ?_ _)); exact BK415.out) hb); have n7_ := z7k (blk_below (g := gb416) (o := .cells #[.slice A1_0 l1_0.length c1_0] 37 (0, 0)) (by (with_reducible repeat (first | refine blk_drewN ?_ _ | refine blk_drew ?_ | refine blk_alloc ?_ _)); refine blk_far ?_ NB416_437.out _; (with_reducible repeat (first | refine blk_drewN ?_ _ | refine blk_drew ?_ | refine blk_alloc ?_ _)); exact BK416.out) hb); have n8_ := z7k (blk_below (g := gb429) (o := .cells #[.slice Ao41 t425.length co41] 25 (0, 0)) (by (with_reducible repeat (first | refine blk_drewN ?_ _ | refine blk_drew ?_ | refine blk_alloc ?_ _)); refine blk_far ?_ NB429_437.out _; (with_reducible repeat (first | refine blk_drewN ?_ _ | refine blk_drew ?_ | refine blk_alloc ?_ _)); exact BK429.out) hb); have n9_ := z7k (blk_below (g := gb433) (o := .cells #[.slice Ao47 t430.length co47] 25 (0, 0)) (by (with_reducible repeat (first | refine blk_drewN ?_ _ | refine blk_drew ?_ | refine blk_alloc ?_ _)); refine blk_far ?_ NB433_437.out _; (with_reducible repeat (first | refine blk_drewN ?_ _ | refine blk_drew ?_ | refine blk_alloc ?_ _)); exact BK433.out) hb); have n10_ := z7k (blk_below (g := gb437) (o := .cells #[.slice Ao56 t434.length co56] 25 (0, 0)) (by (with_reducible repeat (first | refine blk_drewN ?_ _ | refine blk_drew ?_ | refine blk_alloc ?_ _)); refine blk_put (cs := #[.slice none 0 0]) ?_ 0 _ rfl; (with_reducible repeat (first | refine blk_drewN ?_ _ | refine blk_drew ?_ | refine blk_alloc ?_ _)); exact BK437.out) hb); have n11_ := z7k (below_step q7_26 hb); clear HO421; clear HO424; clear HO427; clear HO432; clear HO436; clear BK415; clear BK416; clear BK429; clear BK433; clear BK437; clear HB; have HO421 := n0_; have HO424 := n1_; have HO427 := n2_; have HO432 := n3_; have HO436 := n4_; have HO440 := n5_; have BK415 := n6_; have BK416 := n7_; have BK429 := n8_; have BK433 := n9_; have BK437 := n10_; have HB := n11_; clear n0_ n1_ n2_ n3_ n4_ n5_ n6_ n7_ n8_ n9_ n10_ n11_; (try clear hb); (try clear hb2); (try clear hk); (try clear hi); (try clear ho0)) | ((with_reducible refine gate_dst (N := 10) rfl ?_); refine box_event ?hg (N := 10) ?hd (cs := #[.slice none 0 0]) (t := 25) ?hr ?_; (case hd => rfl); (case hg => rfl); (case hr => exact q7_47); intro gb442 hg w64 hbox hb; have n0_ := z7k (Kd.R_below q7_15 hb); have n1_ := z7k (Kd.R_below q7_25 hb); have n2_ := z7k (Kd.R_below q7_70 hb); have n3_ := z7k (Kd.R_below q7_107 hb); have n4_ := z7k (Kd.R_below q7_117 hb); have n5_ := z7k (Kd.R_below (by (with_reducible repeat (first | apply Kd.R_alloc | apply Kd.R_drewN | apply Kd.R_drew)); exact HO440.out) hb); have n6_ := z7k (blk_below (g := gb415) (o := .cells #[.slice A0_0 l0_0.length c0_0] 37 (0, 0)) q7_1 hb); have n7_ := z7k (blk_below (g := gb416) (o := .cells #[.slice A1_0 l1_0.length c1_0] 37 (0, 0)) q7_2 hb); have n8_ := z7k (blk_below (g := gb429) (o := .cells #[.slice Ao41 t425.length co41] 25 (0, 0)) q7_4 hb); have n9_ := z7k (blk_below (g := gb433) (o := .cells #[.slice Ao47 t430.length co47] 25 (0, 0)) q7_6 hb); have n10_ := z7k (blk_below (g := gb437) (o := .cells #[.slice Ao56 t434.length co56] 25 (0, 0)) q7_7 hb); have n11_ := z7k (below_step q7_26 hb); have n12_ := z7k (hbox); have n13_ := z7k ((by rw [hg]; exact (below_size q7_26) : w.heap.size ≤ gb442)); have n14_ := z7k ((by rw [hg]; exact (below_size q7_26) : w.heap.size ≤ gb442)); have n15_ := z7k ((q7_19 : gb415 ≠ gb442)); have n16_ := z7k ((q7_20 : gb442 ≠ gb415)); have n17_ := z7k ((q7_27 : gb416 ≠ gb442)); have n18_ := z7k ((q7_28 : gb442 ≠ gb416)); have n19_ := z7k ((q7_44 : gb429 ≠ gb442)); have n20_ := z7k ((q7_45 : gb442 ≠ gb429)); have n21_ := z7k ((q7_115 : gb433 ≠ gb442)); have n22_ := z7k ((q7_116 : gb442 ≠ gb433)); have n23_ := z7k ((by rw [hg]; exact Nat.ne_of_lt (blk_lt (g := gb437) (o := .cells #[.slice Ao56 t434.length co56] 25 (0, 0)) q7_7) : gb437 ≠ gb442)); have n24_ := z7k ((by rw [hg]; exact Nat.ne_of_gt (blk_lt (g := gb437) (o := .cells #[.slice Ao56 t434.length co56] 25 (0, 0)) q7_7) : gb442 ≠ gb437)); clear HO421; clear HO424; clear HO427; clear HO432; clear HO436; clear HO440; clear BK415; clear BK416; clear BK429; clear BK433; clear BK437; clear HB; have HO421 := n0_; have HO424 := n1_; have HO427 := n2_; have HO432 := n3_; have HO436 := n4_; have HO440 := n5_; have BK415 := n6_; have BK416 := n7_; have BK429 := n8_; have BK433 := n9_; have BK437 := n10_; have HB := n11_; have BK442 := n12_; have GW442 := n13_; have GE442 := n14_; have NB415_442 := n15_; have NB442_415 := n16_; have NB416_442 := n17_; have NB442_416 := n18_; have NB429_442 := n19_; have NB442_429 := n20_; have NB433_442 := n21_; have NB442_433 := n22_; have NB437_442 := n23_; have NB442_437 := n24_; clear n0_ n1_ n2_ n3_ n4_ n5_ n6_ n7_ n8_ n9_ n10_ n11_ n12_ n13_ n14_ n15_ n16_ n17_ n18_ n19_ n20_ n21_ n22_ n23_ n24_; clear hb hbox hg; obtain ⟨Ao65, co65, eo65⟩ := Kd.R_slice HO440.out; subst eo65; have hnb66 := NB442_415.out; have hnc66 := NB415_442.out; have hnb67 := NB442_416.out; have hnc67 := NB416_442.out; have hnb68 := NB442_429.out; have hnc68 := NB429_442.out; have hnb69 := NB442_433.out; have hnc69 := NB433_442.out; have hnb70 := NB442_437.out; have hnc70 := NB437_442.out; have hcz71_0 : w64.cell? ⟨gb442, 0, none⟩ = some (.slice none 0 0) := (blk_cell BK442.out 0).trans rfl; have hfz71_0 := blk_frozen BK442.out 0))
   (try simp only [Act.put, z7a, z7b, z7c])
   go_cut [53] (fun v53 wc => ∃ (kq : Nat) (x53_24 : Bool), v53 = .bool x53_24 ∧ Aside0 (laws_FnExactFewJoin.j0 kq t428 t441 x53_24 l0_0 l1_0 t425 t430 t434 t438 = some r) ∧ Aside0 (kq ≤ k) ∧ Aside0 (Kd.R (Kd.int .i64) 3 wc w.heap.size (fun k_ => some k_ ≠ ((.slice Ao47 t430.length co47) : Value).ownBlock ∧ some k_ ≠ ((.slice Ao56 t434.length co56) : Value).ownBlock ∧ some k_ ≠ ((.slice Ao65 t438.length co65) : Value).ownBlock) (.slice Ao41 t425.length co41) t425) ∧ Aside0 (Kd.R (Kd.int .i64) 3 wc w.heap.size (fun k_ => some k_ ≠ ((.slice Ao41 t425.length co41) : Value).ownBlock ∧ some k_ ≠ ((.slice Ao56 t434.length co56) : Value).ownBlock ∧ some k_ ≠ ((.slice Ao65 t438.length co65) : Value).ownBlock) (.slice Ao47 t430.length co47) t430) ∧ Aside0 (Kd.R (Kd.int .i64) 3 wc w.heap.size (fun k_ => some k_ ≠ ((.slice Ao41 t425.length co41) : Value).ownBlock ∧ some k_ ≠ ((.slice Ao47 t430.length co47) : Value).ownBlock ∧ some k_ ≠ ((.slice Ao65 t438.length co65) : Value).ownBlock) (.slice Ao56 t434.length co56) t434) ∧ Aside0 (Kd.R (Kd.int .i64) 3 wc w.heap.size (fun k_ => some k_ ≠ ((.slice Ao41 t425.length co41) : Value).ownBlock ∧ some k_ ≠ ((.slice Ao47 t430.length co47) : Value).ownBlock ∧ some k_ ≠ ((.slice Ao56 t434.length co56) : Value).ownBlock) (.slice Ao65 t438.length co65) t438) ∧ Aside0 (wc.heap[gb415]? = some (.cells #[(.slice A0_0 l0_0.length c0_0)] 37 (0, 0))) ∧ Aside0 (wc.heap[gb416]? = some (.cells #[(.slice A1_0 l1_0.length c1_0)] 37 (0, 0))) ∧ Aside0 (wc.heap[gb429]? = some (.cells #[(.slice Ao41 t425.length co41)] 25 (0, 0))) ∧ Aside0 (wc.heap[gb433]? = some (.cells #[(.slice Ao47 t430.length co47)] 25 (0, 0))) ∧ Aside0 (wc.heap[gb437]? = some (.cells #[(.slice Ao56 t434.length co56)] 25 (0, 0))) ∧ Aside0 (wc.heap[gb442]? = some (.cells #[(.slice Ao65 t438.length co65)] 25 (0, 0))) ∧ Aside0 (Below w.heap.size w wc))
   case first =>
    have H := HC25.out;clear HC25
    replace H := Option.bind_eq_some_iff.mp H
    obtain ⟨t443, A720, H⟩ := H
    replace H : (if t443 = true then (laws_FnExactFewJoin.j0 k t428 t441 (t441 != t428) l0_0 l1_0 t425 t430 t434 t438) else (laws_FnExactFewJoin.j0 k t428 t441 true l0_0 l1_0 t425 t430 t434 t438)) = some r := H
    have A72 := Aside0.mk A720;clear A720
    by_cases c73 : t443 = true
    ·subst c73
     have H1 : (laws_FnExactFewJoin.j0 k t428 t441 (t441 != t428) l0_0 l1_0 t425 t430 t434 t438) = some r := by rw [if_pos rfl] at H; exact H
     clear H;have H := H1;clear H1
     have H' := Aside0.mk H
     clear H;have hnb74 := NB442_415.out;have hnc74 := NB415_442.out;have hnb75 := NB442_416.out;have hnc75 := NB416_442.out;have hnb76 := NB442_429.out;have hnc76 := NB429_442.out;have hnb77 := NB442_433.out;have hnc77 := NB433_442.out;have hnb78 := NB442_437.out;have hnc78 := NB437_442.out
     have hcz79_0 : w64.cell? ⟨gb442, 0, none⟩ = some (.slice none 0 0) := (blk_cell BK442.out 0).trans rfl
     have hfz79_0 := blk_frozen BK442.out 0;have hnb80 := NB429_415.out;have hnc80 := NB415_429.out;have hnb81 := NB429_416.out;have hnc81 := NB416_429.out;have hnb82 := NB429_433.out;have hnc82 := NB433_429.out;have hnb83 := NB429_437.out;have hnc83 := NB437_429.out
     have hcz84_0 : w64.cell? ⟨gb429, 0, none⟩ = some (.slice Ao41 t425.length co41) := (blk_cell BK429.out 0).trans rfl
     have hfz84_0 := blk_frozen BK429.out 0
     go_wp2_with (first | ((with_reducible refine gate_callee (f := 21) rfl ?_); refine goesL_ (some 47) rfl rfl Try.func21 (by kernel_rfl) rfl #[.agg #[.slice Ao65 t438.length co65], .agg #[.slice Ao41 t425.length co41]] rfl q7_5 ?_; (with_reducible refine (laws_eqFew.calls k _ _ t438 _ _ t425 true _ ?side1 ?side2 ?side3 ?side4 A72.out).mono ?_); (case side1 => exact q7_60); (case side2 => exact (Kd.R_reads' HO440.out).2.1); (case side3 => exact q7_61); (case side4 => exact (Kd.R_reads' HO427.out).2.1); rintro e w85 ⟨rfl, hb⟩; refine ⟨_, rfl, ?_⟩; have n0_ := z7k (Kd.R_below q7_89 hb); have n1_ := z7k (Kd.R_below q7_90 hb); have n2_ := z7k (Kd.R_below q7_36 hb); have n3_ := z7k (Kd.R_below q7_91 hb); have n4_ := z7k (Kd.R_below q7_92 hb); have n5_ := z7k (Kd.R_below q7_35 hb); have n6_ := z7k (blk_below (g := gb415) (o := .cells #[.slice A0_0 l0_0.length c0_0] 37 (0, 0)) q7_93 hb); have n7_ := z7k (blk_below (g := gb416) (o := .cells #[.slice A1_0 l1_0.length c1_0] 37 (0, 0)) q7_94 hb); have n8_ := z7k (blk_below (g := gb429) (o := .cells #[.slice Ao41 t425.length co41] 25 (0, 0)) q7_95 hb); have n9_ := z7k (blk_below (g := gb433) (o := .cells #[.slice Ao47 t430.length co47] 25 (0, 0)) q7_96 hb); have n10_ := z7k (blk_below (g := gb437) (o := .cells #[.slice Ao56 t434.length co56] 25 (0, 0)) q7_97 hb); have n11_ := z7k (blk_below (g := gb442) (o := .cells #[.slice Ao65 t438.length co65] 25 (0, 0)) q7_72 hb); have n12_ := z7k (below_step q7_0 hb); clear HO421; clear HO424; clear HO427; clear HO432; clear HO436; clear HO440; clear BK415; clear BK416; clear BK429; clear BK433; clear BK437; clear BK442; clear HB; have HO421 := n0_; have HO424 := n1_; have HO427 := n2_; have HO432 := n3_; have HO436 := n4_; have HO440 := n5_; have BK415 := n6_; have BK416 := n7_; have BK429 := n8_; have BK433 := n9_; have BK437 := n10_; have BK442 := n11_; have HB := n12_; clear n0_ n1_ n2_ n3_ n4_ n5_ n6_ n7_ n8_ n9_ n10_ n11_ n12_; (try clear hb); (try clear hb2); (try clear hk); (try clear hi)))
     go_meet
     case rel => exact ⟨_, ((t441 != t428)), q7_104, H', ⟨by first | omega | exact Nat.le_refl _⟩, ⟨by (with_reducible repeat (first | apply Kd.R_alloc | apply Kd.R_drewN | apply Kd.R_drew)); exact Kd.R_mono HO427.out (fun _ hk => ⟨hk.1.1.2, ⟨hk.1.2, hk.2⟩⟩)⟩, ⟨by (with_reducible repeat (first | apply Kd.R_alloc | apply Kd.R_drewN | apply Kd.R_drew)); exact Kd.R_mono HO432.out (fun _ hk => ⟨hk.1.1.2, ⟨hk.1.2, hk.2⟩⟩)⟩, ⟨by (with_reducible repeat (first | apply Kd.R_alloc | apply Kd.R_drewN | apply Kd.R_drew)); exact Kd.R_mono HO436.out (fun _ hk => ⟨hk.1.1.2, ⟨hk.1.2, hk.2⟩⟩)⟩, ⟨by (with_reducible repeat (first | apply Kd.R_alloc | apply Kd.R_drewN | apply Kd.R_drew)); exact Kd.R_mono HO440.out (fun _ hk => ⟨hk.1.1.2, ⟨hk.1.2, hk.2⟩⟩)⟩, ⟨by (with_reducible repeat (first | refine blk_drewN ?_ _ | refine blk_drew ?_ | refine blk_alloc ?_ _)); exact BK415.out⟩, ⟨by (with_reducible repeat (first | refine blk_drewN ?_ _ | refine blk_drew ?_ | refine blk_alloc ?_ _)); exact BK416.out⟩, ⟨by (with_reducible repeat (first | refine blk_drewN ?_ _ | refine blk_drew ?_ | refine blk_alloc ?_ _)); exact BK429.out⟩, ⟨by (with_reducible repeat (first | refine blk_drewN ?_ _ | refine blk_drew ?_ | refine blk_alloc ?_ _)); exact BK433.out⟩, ⟨by (with_reducible repeat (first | refine blk_drewN ?_ _ | refine blk_drew ?_ | refine blk_alloc ?_ _)); exact BK437.out⟩, ⟨by (with_reducible repeat (first | refine blk_drewN ?_ _ | refine blk_drew ?_ | refine blk_alloc ?_ _)); exact BK442.out⟩, ⟨q7_0⟩⟩
    ·replace c73 := Bool.eq_false_iff.mpr c73
     subst c73
     have H1 : (laws_FnExactFewJoin.j0 k t428 t441 true l0_0 l1_0 t425 t430 t434 t438) = some r := by rw [if_neg (show ¬ (false = true) by decide)] at H; exact H
     clear H;have H := H1;clear H1
     have H' := Aside0.mk H
     clear H;have hnb86 := NB442_415.out;have hnc86 := NB415_442.out;have hnb87 := NB442_416.out;have hnc87 := NB416_442.out;have hnb88 := NB442_429.out;have hnc88 := NB429_442.out;have hnb89 := NB442_433.out;have hnc89 := NB433_442.out;have hnb90 := NB442_437.out;have hnc90 := NB437_442.out
     have hcz91_0 : w64.cell? ⟨gb442, 0, none⟩ = some (.slice none 0 0) := (blk_cell BK442.out 0).trans rfl
     have hfz91_0 := blk_frozen BK442.out 0;have hnb92 := NB429_415.out;have hnc92 := NB415_429.out;have hnb93 := NB429_416.out;have hnc93 := NB416_429.out;have hnb94 := NB429_433.out;have hnc94 := NB433_429.out;have hnb95 := NB429_437.out;have hnc95 := NB437_429.out
     have hcz96_0 : w64.cell? ⟨gb429, 0, none⟩ = some (.slice Ao41 t425.length co41) := (blk_cell BK429.out 0).trans rfl
     have hfz96_0 := blk_frozen BK429.out 0
     go_wp2_with (first | ((with_reducible refine gate_callee (f := 21) rfl ?_); refine goesL_ (some 47) rfl rfl Try.func21 (by kernel_rfl) rfl #[.agg #[.slice Ao65 t438.length co65], .agg #[.slice Ao41 t425.length co41]] rfl q7_5 ?_; (with_reducible refine (laws_eqFew.calls k _ _ t438 _ _ t425 false _ ?side1 ?side2 ?side3 ?side4 A72.out).mono ?_); (case side1 => exact q7_60); (case side2 => exact (Kd.R_reads' HO440.out).2.1); (case side3 => exact q7_61); (case side4 => exact (Kd.R_reads' HO427.out).2.1); rintro e w97 ⟨rfl, hb⟩; refine ⟨_, rfl, ?_⟩; have n0_ := z7k (Kd.R_below q7_89 hb); have n1_ := z7k (Kd.R_below q7_90 hb); have n2_ := z7k (Kd.R_below q7_36 hb); have n3_ := z7k (Kd.R_below q7_91 hb); have n4_ := z7k (Kd.R_below q7_92 hb); have n5_ := z7k (Kd.R_below q7_35 hb); have n6_ := z7k (blk_below (g := gb415) (o := .cells #[.slice A0_0 l0_0.length c0_0] 37 (0, 0)) q7_93 hb); have n7_ := z7k (blk_below (g := gb416) (o := .cells #[.slice A1_0 l1_0.length c1_0] 37 (0, 0)) q7_94 hb); have n8_ := z7k (blk_below (g := gb429) (o := .cells #[.slice Ao41 t425.length co41] 25 (0, 0)) q7_95 hb); have n9_ := z7k (blk_below (g := gb433) (o := .cells #[.slice Ao47 t430.length co47] 25 (0, 0)) q7_96 hb); have n10_ := z7k (blk_below (g := gb437) (o := .cells #[.slice Ao56 t434.length co56] 25 (0, 0)) q7_97 hb); have n11_ := z7k (blk_below (g := gb442) (o := .cells #[.slice Ao65 t438.length co65] 25 (0, 0)) q7_72 hb); have n12_ := z7k (below_step q7_0 hb); clear HO421; clear HO424; clear HO427; clear HO432; clear HO436; clear HO440; clear BK415; clear BK416; clear BK429; clear BK433; clear BK437; clear BK442; clear HB; have HO421 := n0_; have HO424 := n1_; have HO427 := n2_; have HO432 := n3_; have HO436 := n4_; have HO440 := n5_; have BK415 := n6_; have BK416 := n7_; have BK429 := n8_; have BK433 := n9_; have BK437 := n10_; have BK442 := n11_; have HB := n12_; clear n0_ n1_ n2_ n3_ n4_ n5_ n6_ n7_ n8_ n9_ n10_ n11_ n12_; (try clear hb); (try clear hb2); (try clear hk); (try clear hi)))
     go_meet
     case rel => exact ⟨_, (true), q7_104, H', ⟨by first | omega | exact Nat.le_refl _⟩, ⟨by (with_reducible repeat (first | apply Kd.R_alloc | apply Kd.R_drewN | apply Kd.R_drew)); exact Kd.R_mono HO427.out (fun _ hk => ⟨hk.1.1.2, ⟨hk.1.2, hk.2⟩⟩)⟩, ⟨by (with_reducible repeat (first | apply Kd.R_alloc | apply Kd.R_drewN | apply Kd.R_drew)); exact Kd.R_mono HO432.out (fun _ hk => ⟨hk.1.1.2, ⟨hk.1.2, hk.2⟩⟩)⟩, ⟨by (with_reducible repeat (first | apply Kd.R_alloc | apply Kd.R_drewN | apply Kd.R_drew)); exact Kd.R_mono HO436.out (fun _ hk => ⟨hk.1.1.2, ⟨hk.1.2, hk.2⟩⟩)⟩, ⟨by (with_reducible repeat (first | apply Kd.R_alloc | apply Kd.R_drewN | apply Kd.R_drew)); exact Kd.R_mono HO440.out (fun _ hk => ⟨hk.1.1.2, ⟨hk.1.2, hk.2⟩⟩)⟩, ⟨by (with_reducible repeat (first | refine blk_drewN ?_ _ | refine blk_drew ?_ | refine blk_alloc ?_ _)); exact BK415.out⟩, ⟨by (with_reducible repeat (first | refine blk_drewN ?_ _ | refine blk_drew ?_ | refine blk_alloc ?_ _)); exact BK416.out⟩, ⟨by (with_reducible repeat (first | refine blk_drewN ?_ _ | refine blk_drew ?_ | refine blk_alloc ?_ _)); exact BK429.out⟩, ⟨by (with_reducible repeat (first | refine blk_drewN ?_ _ | refine blk_drew ?_ | refine blk_alloc ?_ _)); exact BK433.out⟩, ⟨by (with_reducible repeat (first | refine blk_drewN ?_ _ | refine blk_drew ?_ | refine blk_alloc ?_ _)); exact BK437.out⟩, ⟨by (with_reducible repeat (first | refine blk_drewN ?_ _ | refine blk_drew ?_ | refine blk_alloc ?_ _)); exact BK442.out⟩, ⟨q7_0⟩⟩
   case rest =>
    clear HC25
    try clear c1
    try clear c2
    try clear p2
    try clear c4
    try clear c5
    try clear c6
    try clear c7
    try clear c8
    try clear c9
    try clear c12
    try clear c13
    try clear c20
    try clear c21
    try clear c43
    try clear c48
    try clear c49
    try clear c50
    try clear c52
    try clear c57
    try clear c58
    try clear c59
    try clear c60
    try clear c66
    try clear c67
    try clear c68
    try clear c69
    try clear c70
    try clear c73
    try clear c74
    try clear c75
    try clear c76
    try clear c77
    try clear c78
    try clear c80
    try clear c81
    try clear c82
    try clear c83
    try clear c86
    try clear c87
    try clear c88
    try clear c89
    try clear c90
    try clear c92
    try clear c93
    try clear c94
    try clear c95
    try clear hcz44_0
    try clear hcz51_0
    try clear hcz53_0
    try clear hcz61_0
    try clear hcz62_0
    try clear hcz71_0
    try clear hcz79_0
    try clear hcz84_0
    try clear hcz91_0
    try clear hcz96_0
    try clear hfz44_0
    try clear hfz51_0
    try clear hfz53_0
    try clear hfz61_0
    try clear hfz62_0
    try clear hfz71_0
    try clear hfz79_0
    try clear hfz84_0
    try clear hfz91_0
    try clear hfz96_0
    obtain ⟨kq, x53_24, rfl, HA, HJ24, HO_430000, HO_434000, HO_438000, HO_443000, BK415, BK416, BK429, BK433, BK437, BK442, HB⟩ := hcut
    cases kq with
    | zero => exact absurd HA.out (by simp [laws_FnExactFewJoin.j0])
    | succ kj24 =>
     have H := HA.out;clear HA
     simp only [laws_FnExactFewJoin.j0] at H
     by_cases c98 : x53_24 = true
     ·subst c98
      have H1 : (some false) = some r := by rw [if_pos rfl] at H; exact H
      clear H;have H := H1;clear H1
      obtain rfl := Option.some.inj H
      go_wp2
      go_ret
      exact ⟨q7_31, q7_0⟩
     ·replace c98 := Bool.eq_false_iff.mpr c98
      subst c98
      have H1 : ((laws_toFew.f kj24 l0_0).bind fun t444 => ((laws_eqFew.f kj24 t430 t444).bind fun t447 => (if t447 = true then ((laws_toFew.f kj24 l1_0).bind fun t448 => ((laws_eqFew.f kj24 t434 t448).bind fun t451 => (if t451 = true then ((laws_markFew.f kj24 t430 1).bind fun bt452 => ((laws_markFew.f kj24 t434 bt452.1).bind fun bt454 => (if bt454.1 < 0 then (laws_FnExactFewJoin.j1 kj24 t428 true l0_0 l1_0 t425 t438) else ((laws_eqFew.f kj24 t438 t425).bind fun t456 => (if t456 = true then (laws_FnExactFewJoin.j1 kj24 t428 (t441 != t428) l0_0 l1_0 t425 t438) else (laws_FnExactFewJoin.j1 kj24 t428 true l0_0 l1_0 t425 t438)))))) else (some false)))) else (some false)))) = some r := by rw [if_neg (show ¬ (false = true) by decide)] at H; exact H
      clear H;have H := H1;clear H1
      replace H := Option.bind_eq_some_iff.mp H
      obtain ⟨t444, A990, H⟩ := H
      replace H : ((laws_eqFew.f kj24 t430 t444).bind fun t447 => (if t447 = true then ((laws_toFew.f kj24 l1_0).bind fun t448 => ((laws_eqFew.f kj24 t434 t448).bind fun t451 => (if t451 = true then ((laws_markFew.f kj24 t430 1).bind fun bt452 => ((laws_markFew.f kj24 t434 bt452.1).bind fun bt454 => (if bt454.1 < 0 then (laws_FnExactFewJoin.j1 kj24 t428 true l0_0 l1_0 t425 t438) else ((laws_eqFew.f kj24 t438 t425).bind fun t456 => (if t456 = true then (laws_FnExactFewJoin.j1 kj24 t428 (t441 != t428) l0_0 l1_0 t425 t438) else (laws_FnExactFewJoin.j1 kj24 t428 true l0_0 l1_0 t425 t438)))))) else (some false)))) else (some false))) = some r := H
      have A99 := Aside0.mk A990;clear A990
      replace H := Option.bind_eq_some_iff.mp H
      obtain ⟨t447, A1000, H⟩ := H
      replace H : (if t447 = true then ((laws_toFew.f kj24 l1_0).bind fun t448 => ((laws_eqFew.f kj24 t434 t448).bind fun t451 => (if t451 = true then ((laws_markFew.f kj24 t430 1).bind fun bt452 => ((laws_markFew.f kj24 t434 bt452.1).bind fun bt454 => (if bt454.1 < 0 then (laws_FnExactFewJoin.j1 kj24 t428 true l0_0 l1_0 t425 t438) else ((laws_eqFew.f kj24 t438 t425).bind fun t456 => (if t456 = true then (laws_FnExactFewJoin.j1 kj24 t428 (t441 != t428) l0_0 l1_0 t425 t438) else (laws_FnExactFewJoin.j1 kj24 t428 true l0_0 l1_0 t425 t438)))))) else (some false)))) else (some false)) = some r := H
      have A100 := Aside0.mk A1000;clear A1000
      by_cases c101 : t447 = true
      ·subst c101
       have H1 : ((laws_toFew.f kj24 l1_0).bind fun t448 => ((laws_eqFew.f kj24 t434 t448).bind fun t451 => (if t451 = true then ((laws_markFew.f kj24 t430 1).bind fun bt452 => ((laws_markFew.f kj24 t434 bt452.1).bind fun bt454 => (if bt454.1 < 0 then (laws_FnExactFewJoin.j1 kj24 t428 true l0_0 l1_0 t425 t438) else ((laws_eqFew.f kj24 t438 t425).bind fun t456 => (if t456 = true then (laws_FnExactFewJoin.j1 kj24 t428 (t441 != t428) l0_0 l1_0 t425 t438) else (laws_FnExactFewJoin.j1 kj24 t428 true l0_0 l1_0 t425 t438)))))) else (some false)))) = some r := by rw [if_pos rfl] at H; exact H
       clear H;have H := H1;clear H1
       replace H := Option.bind_eq_some_iff.mp H
       obtain ⟨t448, A1020, H⟩ := H
       replace H : ((laws_eqFew.f kj24 t434 t448).bind fun t451 => (if t451 = true then ((laws_markFew.f kj24 t430 1).bind fun bt452 => ((laws_markFew.f kj24 t434 bt452.1).bind fun bt454 => (if bt454.1 < 0 then (laws_FnExactFewJoin.j1 kj24 t428 true l0_0 l1_0 t425 t438) else ((laws_eqFew.f kj24 t438 t425).bind fun t456 => (if t456 = true then (laws_FnExactFewJoin.j1 kj24 t428 (t441 != t428) l0_0 l1_0 t425 t438) else (laws_FnExactFewJoin.j1 kj24 t428 true l0_0 l1_0 t425 t438)))))) else (some false))) = some r := H
       have A102 := Aside0.mk A1020;clear A1020
       replace H := Option.bind_eq_some_iff.mp H
       obtain ⟨t451, A1030, H⟩ := H
       replace H : (if t451 = true then ((laws_markFew.f kj24 t430 1).bind fun bt452 => ((laws_markFew.f kj24 t434 bt452.1).bind fun bt454 => (if bt454.1 < 0 then (laws_FnExactFewJoin.j1 kj24 t428 true l0_0 l1_0 t425 t438) else ((laws_eqFew.f kj24 t438 t425).bind fun t456 => (if t456 = true then (laws_FnExactFewJoin.j1 kj24 t428 (t441 != t428) l0_0 l1_0 t425 t438) else (laws_FnExactFewJoin.j1 kj24 t428 true l0_0 l1_0 t425 t438)))))) else (some false)) = some r := H
       have A103 := Aside0.mk A1030;clear A1030
       by_cases c104 : t451 = true
       ·subst c104
        have H1 : ((laws_markFew.f kj24 t430 1).bind fun bt452 => ((laws_markFew.f kj24 t434 bt452.1).bind fun bt454 => (if bt454.1 < 0 then (laws_FnExactFewJoin.j1 kj24 t428 true l0_0 l1_0 t425 t438) else ((laws_eqFew.f kj24 t438 t425).bind fun t456 => (if t456 = true then (laws_FnExactFewJoin.j1 kj24 t428 (t441 != t428) l0_0 l1_0 t425 t438) else (laws_FnExactFewJoin.j1 kj24 t428 true l0_0 l1_0 t425 t438)))))) = some r := by rw [if_pos rfl] at H; exact H
        clear H;have H := H1;clear H1
        replace H := Option.bind_eq_some_iff.mp H
        obtain ⟨⟨t452, t453⟩, A1050, H⟩ := H
        replace H : ((laws_markFew.f kj24 t434 t452).bind fun bt454 => (if bt454.1 < 0 then (laws_FnExactFewJoin.j1 kj24 t428 true l0_0 l1_0 t425 t438) else ((laws_eqFew.f kj24 t438 t425).bind fun t456 => (if t456 = true then (laws_FnExactFewJoin.j1 kj24 t428 (t441 != t428) l0_0 l1_0 t425 t438) else (laws_FnExactFewJoin.j1 kj24 t428 true l0_0 l1_0 t425 t438))))) = some r := H
        have A105 := Aside0.mk A1050;clear A1050
        replace H := Option.bind_eq_some_iff.mp H
        obtain ⟨⟨t454, t455⟩, A1060, H⟩ := H
        replace H : (if t454 < 0 then (laws_FnExactFewJoin.j1 kj24 t428 true l0_0 l1_0 t425 t438) else ((laws_eqFew.f kj24 t438 t425).bind fun t456 => (if t456 = true then (laws_FnExactFewJoin.j1 kj24 t428 (t441 != t428) l0_0 l1_0 t425 t438) else (laws_FnExactFewJoin.j1 kj24 t428 true l0_0 l1_0 t425 t438)))) = some r := H
        have A106 := Aside0.mk A1060;clear A1060;have HC107 := Aside0.mk H;clear H
        try go_wp2
        have n0_ := z7k (Kd.R_drew HO_430000.out);have n1_ := z7k (Kd.R_drew HO_434000.out);have n2_ := z7k (Kd.R_drew HO_438000.out);have n3_ := z7k (Kd.R_drew HO_443000.out);have n4_ := z7k (blk_drew BK415.out);have n5_ := z7k (blk_drew BK416.out);have n6_ := z7k (blk_drew BK429.out);have n7_ := z7k (blk_drew BK433.out);have n8_ := z7k (blk_drew BK437.out);have n9_ := z7k (blk_drew BK442.out);have n10_ := z7k (below_drew1 HB.out);clear HO_430000 HO_434000 HO_438000 HO_443000 BK415 BK416 BK429 BK433 BK437 BK442 HB;have HO_430000 := n0_;have HO_434000 := n1_;have HO_438000 := n2_;have HO_443000 := n3_;have BK415 := n4_;have BK416 := n5_;have BK429 := n6_;have BK433 := n7_;have BK437 := n8_;have BK442 := n9_;have HB := n10_;clear n0_ n1_ n2_ n3_ n4_ n5_ n6_ n7_ n8_ n9_ n10_;refine start_ (n := 5) (S := fun w' => w'.cell? ⟨gb433, 0, none⟩ = some (.slice Ao47 t430.length co47) ∧ w'.cell? ⟨gb415, 0, none⟩ = some (.slice A0_0 l0_0.length c0_0)) (ds := []) #[false, false, false, false, false] (by kernel_rfl) rfl rfl ⟨(blk_cell BK433.out 0).trans rfl, (blk_cell BK415.out 0).trans rfl⟩ (fun hHeld => ?_)
        generalize wc.drew = w108 at HO_430000 HO_434000 HO_438000 HO_443000 BK415 BK416 BK429 BK433 BK437 BK442 HB hHeld ⊢
        refine take_ (i := 0) (N := some 54) (v := ?_) (a' := ?_) #[true, false, false, false, false] rfl rfl (by kernel_rfl) (fun _ _ _ h => h) (Or.inl ⟨by rfl, ?_⟩) hHeld ?_ ?_;rotate_left
        ·rintro w' ⟨s0, s1⟩
         go_simp
         with_reducible rfl
        rotate_left
        ·simp only [Act.put, z7a, z7b, z7c, i64_w, i32_w]
         rfl
        refine take_ (i := 1) (N := some 55) (v := ?_) (a' := ?_) #[true, true, false, false, false] rfl rfl (by kernel_rfl) (fun _ _ _ h => h) (Or.inl ⟨by rfl, ?_⟩) hHeld ?_ ?_;rotate_left
        ·rintro w' ⟨s0, s1⟩
         go_simp
         with_reducible rfl
        rotate_left
        ·simp only [Act.put, z7a, z7b, z7c, i64_w, i32_w]
         rfl
        refine one_ (i := 2) (N := some 56) #[true, true, true, false, false] rfl rfl (by kernel_rfl) (by decide) (fun K hK => ?_);refine goes_ Try.func20 (by kernel_rfl) rfl #[.agg #[.slice A0_0 l0_0.length c0_0]] (by rfl) rfl rfl q7_5 ?_
        with_reducible refine (laws_toFew.calls kj24 _ _ l0_0 t444 _ ?side1 ?side2 A99.out).mono ?_
        (case side1 => exact q7_17);(case side2 => exact HC0_0.out);rintro e w109 ⟨v445, rfl, ho0, hb⟩;refine ⟨_, rfl, ?_⟩;have n0_ := z7k (Kd.R_elder' q7_11 (Kd.R_base ho0) hb);have n1_ := z7k (Kd.R_elder' q7_12 (Kd.R_base ho0) hb);have n2_ := z7k (Kd.R_elder' q7_13 (Kd.R_base ho0) hb);have n3_ := z7k (Kd.R_elder' q7_14 (Kd.R_base ho0) hb);have n4_ := z7k (Kd.R_lower (Kd.R_new' (Kd.R_new' (Kd.R_new' (Kd.R_new' ho0 (Kd.R_lt q7_11)) (Kd.R_lt q7_12)) (Kd.R_lt q7_13)) (Kd.R_lt q7_14)) (below_size q7_0));have n5_ := z7k (blk_below (g := gb415) (o := .cells #[.slice A0_0 l0_0.length c0_0] 37 (0, 0)) q7_1 hb);have n6_ := z7k (blk_below (g := gb416) (o := .cells #[.slice A1_0 l1_0.length c1_0] 37 (0, 0)) q7_2 hb);have n7_ := z7k (blk_below (g := gb429) (o := .cells #[.slice Ao41 t425.length co41] 25 (0, 0)) q7_4 hb);have n8_ := z7k (blk_below (g := gb433) (o := .cells #[.slice Ao47 t430.length co47] 25 (0, 0)) q7_6 hb);have n9_ := z7k (blk_below (g := gb437) (o := .cells #[.slice Ao56 t434.length co56] 25 (0, 0)) q7_7 hb);have n10_ := z7k (blk_below (g := gb442) (o := .cells #[.slice Ao65 t438.length co65] 25 (0, 0)) q7_8 hb);have n11_ := z7k (below_step q7_0 hb);clear HO_430000 HO_434000 HO_438000 HO_443000 BK415 BK416 BK429 BK433 BK437 BK442 HB;have HO_430000 := n0_;have HO_434000 := n1_;have HO_438000 := n2_;have HO_443000 := n3_;have HO446 := n4_;have BK415 := n5_;have BK416 := n6_;have BK429 := n7_;have BK433 := n8_;have BK437 := n9_;have BK442 := n10_;have HB := n11_;clear n0_ n1_ n2_ n3_ n4_ n5_ n6_ n7_ n8_ n9_ n10_ n11_;(try clear hb);(try clear hb2);(try clear hk);(try clear hi);(try clear ho0);obtain ⟨Ao110, co110, eo110⟩ := Kd.R_slice HO446.out;(first | subst eo110 | (injection eo110 with f1_ f2_ f3_; have f4_ := f1_.symm; have f5_ := f3_.symm; clear f1_ f2_ f3_; subst f4_; subst f5_));refine hK.out _ _ ⟨(blk_cell BK433.out 0).trans rfl, (blk_cell BK415.out 0).trans rfl⟩ (fun hHeld => ?_);clear hK K;refine norm_ (a' := ?_) ?_ ?_;rotate_left
        ·show Act.put _ (some 56) _ = _
         simp only [Act.put, z7a, z7b, z7c, i64_w, i32_w]
         rfl
        refine one_ (i := 3) (N := some 57) #[true, true, true, true, false] rfl rfl (by kernel_rfl) (by decide) (fun K hK => ?_);refine goes_ Try.func21 (by kernel_rfl) rfl #[.agg #[.slice Ao47 t430.length co47], .agg #[.slice Ao110 t444.length co110]] (by rfl) rfl rfl q7_5 ?_
        with_reducible refine (laws_eqFew.calls kj24 _ _ t430 _ _ t444 true _ ?side1 ?side2 ?side3 ?side4 A100.out).mono ?_
        (case side1 => exact q7_62);(case side2 => exact (Kd.R_reads' HO_434000.out).2.1);(case side3 => exact q7_63);(case side4 => exact (Kd.R_reads' HO446.out).2.1);rintro e w111 ⟨rfl, hb⟩;refine ⟨_, rfl, ?_⟩;have n0_ := z7k (Kd.R_below q7_11 hb);have n1_ := z7k (Kd.R_below q7_12 hb);have n2_ := z7k (Kd.R_below q7_13 hb);have n3_ := z7k (Kd.R_below q7_14 hb);have n4_ := z7k (Kd.R_below q7_30 hb);have n5_ := z7k (blk_below (g := gb415) (o := .cells #[.slice A0_0 l0_0.length c0_0] 37 (0, 0)) q7_1 hb);have n6_ := z7k (blk_below (g := gb416) (o := .cells #[.slice A1_0 l1_0.length c1_0] 37 (0, 0)) q7_2 hb);have n7_ := z7k (blk_below (g := gb429) (o := .cells #[.slice Ao41 t425.length co41] 25 (0, 0)) q7_4 hb);have n8_ := z7k (blk_below (g := gb433) (o := .cells #[.slice Ao47 t430.length co47] 25 (0, 0)) q7_6 hb);have n9_ := z7k (blk_below (g := gb437) (o := .cells #[.slice Ao56 t434.length co56] 25 (0, 0)) q7_7 hb);have n10_ := z7k (blk_below (g := gb442) (o := .cells #[.slice Ao65 t438.length co65] 25 (0, 0)) q7_8 hb);have n11_ := z7k (below_step q7_0 hb);clear HO_430000 HO_434000 HO_438000 HO_443000 HO446 BK415 BK416 BK429 BK433 BK437 BK442 HB;have HO_430000 := n0_;have HO_434000 := n1_;have HO_438000 := n2_;have HO_443000 := n3_;have HO446 := n4_;have BK415 := n5_;have BK416 := n6_;have BK429 := n7_;have BK433 := n8_;have BK437 := n9_;have BK442 := n10_;have HB := n11_;clear n0_ n1_ n2_ n3_ n4_ n5_ n6_ n7_ n8_ n9_ n10_ n11_;(try clear hb);(try clear hb2);(try clear hk);(try clear hi);refine hK.out _ _ ⟨(blk_cell BK433.out 0).trans rfl, (blk_cell BK415.out 0).trans rfl⟩ (fun hHeld => ?_);clear hK K;refine norm_ (a' := ?_) ?_ ?_;rotate_left
        ·show Act.put _ (some 57) _ = _
         simp only [Act.put, z7a, z7b, z7c, i64_w, i32_w]
         rfl
        refine pure_ (i := 4) (N := some 58) (v := ?_) (a' := ?_) #[true, true, true, true, true] rfl rfl (by kernel_rfl) (fun _ _ _ h => h) (Or.inl ⟨by rfl, ?_⟩) ?_ ?_;rotate_left
        ·intro w'
         go_simp
         with_reducible rfl
        rotate_left
        ·simp only [Act.put, z7a, z7b, z7c, i64_w, i32_w]
         rfl
        refine done_ (by kernel_rfl) ?_
        try go_wp2
        have n0_ := z7k (Kd.R_drew HO_430000.out);have n1_ := z7k (Kd.R_drew HO_434000.out);have n2_ := z7k (Kd.R_drew HO_438000.out);have n3_ := z7k (Kd.R_drew HO_443000.out);have n4_ := z7k (Kd.R_drew HO446.out);have n5_ := z7k (blk_drew BK415.out);have n6_ := z7k (blk_drew BK416.out);have n7_ := z7k (blk_drew BK429.out);have n8_ := z7k (blk_drew BK433.out);have n9_ := z7k (blk_drew BK437.out);have n10_ := z7k (blk_drew BK442.out);have n11_ := z7k (below_drew1 HB.out);clear HO_430000 HO_434000 HO_438000 HO_443000 HO446 BK415 BK416 BK429 BK433 BK437 BK442 HB;have HO_430000 := n0_;have HO_434000 := n1_;have HO_438000 := n2_;have HO_443000 := n3_;have HO446 := n4_;have BK415 := n5_;have BK416 := n6_;have BK429 := n7_;have BK433 := n8_;have BK437 := n9_;have BK442 := n10_;have HB := n11_;clear n0_ n1_ n2_ n3_ n4_ n5_ n6_ n7_ n8_ n9_ n10_ n11_;refine start_ (n := 5) (S := fun w' => w'.cell? ⟨gb437, 0, none⟩ = some (.slice Ao56 t434.length co56) ∧ w'.cell? ⟨gb416, 0, none⟩ = some (.slice A1_0 l1_0.length c1_0)) (ds := []) #[false, false, false, false, false] (by kernel_rfl) rfl rfl ⟨(blk_cell BK437.out 0).trans rfl, (blk_cell BK416.out 0).trans rfl⟩ (fun hHeld => ?_)
        generalize w111.drew = w112 at HO_430000 HO_434000 HO_438000 HO_443000 HO446 BK415 BK416 BK429 BK433 BK437 BK442 HB hHeld ⊢
        refine take_ (i := 0) (N := some 59) (v := ?_) (a' := ?_) #[true, false, false, false, false] rfl rfl (by kernel_rfl) (fun _ _ _ h => h) (Or.inl ⟨by rfl, ?_⟩) hHeld ?_ ?_;rotate_left
        ·rintro w' ⟨s0, s1⟩
         go_simp
         with_reducible rfl
        rotate_left
        ·simp only [Act.put, z7a, z7b, z7c, i64_w, i32_w]
         rfl
        refine take_ (i := 1) (N := some 60) (v := ?_) (a' := ?_) #[true, true, false, false, false] rfl rfl (by kernel_rfl) (fun _ _ _ h => h) (Or.inl ⟨by rfl, ?_⟩) hHeld ?_ ?_;rotate_left
        ·rintro w' ⟨s0, s1⟩
         go_simp
         with_reducible rfl
        rotate_left
        ·simp only [Act.put, z7a, z7b, z7c, i64_w, i32_w]
         rfl
        refine one_ (i := 2) (N := some 61) #[true, true, true, false, false] rfl rfl (by kernel_rfl) (by decide) (fun K hK => ?_);refine goes_ Try.func20 (by kernel_rfl) rfl #[.agg #[.slice A1_0 l1_0.length c1_0]] (by rfl) rfl rfl q7_5 ?_
        with_reducible refine (laws_toFew.calls kj24 _ _ l1_0 t448 _ ?side1 ?side2 A102.out).mono ?_
        (case side1 => exact q7_18);(case side2 => exact HC1_0.out);rintro e w113 ⟨v449, rfl, ho0, hb⟩;refine ⟨_, rfl, ?_⟩;have n0_ := z7k (Kd.R_elder' q7_11 (Kd.R_base ho0) hb);have n1_ := z7k (Kd.R_elder' q7_12 (Kd.R_base ho0) hb);have n2_ := z7k (Kd.R_elder' q7_13 (Kd.R_base ho0) hb);have n3_ := z7k (Kd.R_elder' q7_14 (Kd.R_base ho0) hb);have n4_ := z7k (Kd.R_elder' q7_30 (Kd.R_base ho0) hb);have n5_ := z7k (Kd.R_lower (Kd.R_new' (Kd.R_new' (Kd.R_new' (Kd.R_new' (Kd.R_new' ho0 (Kd.R_lt q7_11)) (Kd.R_lt q7_12)) (Kd.R_lt q7_13)) (Kd.R_lt q7_14)) (Kd.R_lt q7_30)) (below_size q7_0));have n6_ := z7k (blk_below (g := gb415) (o := .cells #[.slice A0_0 l0_0.length c0_0] 37 (0, 0)) q7_1 hb);have n7_ := z7k (blk_below (g := gb416) (o := .cells #[.slice A1_0 l1_0.length c1_0] 37 (0, 0)) q7_2 hb);have n8_ := z7k (blk_below (g := gb429) (o := .cells #[.slice Ao41 t425.length co41] 25 (0, 0)) q7_4 hb);have n9_ := z7k (blk_below (g := gb433) (o := .cells #[.slice Ao47 t430.length co47] 25 (0, 0)) q7_6 hb);have n10_ := z7k (blk_below (g := gb437) (o := .cells #[.slice Ao56 t434.length co56] 25 (0, 0)) q7_7 hb);have n11_ := z7k (blk_below (g := gb442) (o := .cells #[.slice Ao65 t438.length co65] 25 (0, 0)) q7_8 hb);have n12_ := z7k (below_step q7_0 hb);clear HO_430000 HO_434000 HO_438000 HO_443000 HO446 BK415 BK416 BK429 BK433 BK437 BK442 HB;have HO_430000 := n0_;have HO_434000 := n1_;have HO_438000 := n2_;have HO_443000 := n3_;have HO446 := n4_;have HO450 := n5_;have BK415 := n6_;have BK416 := n7_;have BK429 := n8_;have BK433 := n9_;have BK437 := n10_;have BK442 := n11_;have HB := n12_;clear n0_ n1_ n2_ n3_ n4_ n5_ n6_ n7_ n8_ n9_ n10_ n11_ n12_;(try clear hb);(try clear hb2);(try clear hk);(try clear hi);(try clear ho0);obtain ⟨Ao114, co114, eo114⟩ := Kd.R_slice HO450.out;(first | subst eo114 | (injection eo114 with f1_ f2_ f3_; have f4_ := f1_.symm; have f5_ := f3_.symm; clear f1_ f2_ f3_; subst f4_; subst f5_));refine hK.out _ _ ⟨(blk_cell BK437.out 0).trans rfl, (blk_cell BK416.out 0).trans rfl⟩ (fun hHeld => ?_);clear hK K;refine norm_ (a' := ?_) ?_ ?_;rotate_left
        ·show Act.put _ (some 61) _ = _
         simp only [Act.put, z7a, z7b, z7c, i64_w, i32_w]
         rfl
        refine one_ (i := 3) (N := some 62) #[true, true, true, true, false] rfl rfl (by kernel_rfl) (by decide) (fun K hK => ?_);refine goes_ Try.func21 (by kernel_rfl) rfl #[.agg #[.slice Ao56 t434.length co56], .agg #[.slice Ao114 t448.length co114]] (by rfl) rfl rfl q7_5 ?_
        with_reducible refine (laws_eqFew.calls kj24 _ _ t434 _ _ t448 true _ ?side1 ?side2 ?side3 ?side4 A103.out).mono ?_
        (case side1 => exact q7_110);(case side2 => exact (Kd.R_reads' HO_438000.out).2.1);(case side3 => exact q7_112);(case side4 => exact (Kd.R_reads' HO450.out).2.1);rintro e w115 ⟨rfl, hb⟩;refine ⟨_, rfl, ?_⟩;have n0_ := z7k (Kd.R_below q7_11 hb);have n1_ := z7k (Kd.R_below q7_12 hb);have n2_ := z7k (Kd.R_below q7_13 hb);have n3_ := z7k (Kd.R_below q7_14 hb);have n4_ := z7k (Kd.R_below q7_30 hb);have n5_ := z7k (Kd.R_below q7_71 hb);have n6_ := z7k (blk_below (g := gb415) (o := .cells #[.slice A0_0 l0_0.length c0_0] 37 (0, 0)) q7_1 hb);have n7_ := z7k (blk_below (g := gb416) (o := .cells #[.slice A1_0 l1_0.length c1_0] 37 (0, 0)) q7_2 hb);have n8_ := z7k (blk_below (g := gb429) (o := .cells #[.slice Ao41 t425.length co41] 25 (0, 0)) q7_4 hb);have n9_ := z7k (blk_below (g := gb433) (o := .cells #[.slice Ao47 t430.length co47] 25 (0, 0)) q7_6 hb);have n10_ := z7k (blk_below (g := gb437) (o := .cells #[.slice Ao56 t434.length co56] 25 (0, 0)) q7_7 hb);have n11_ := z7k (blk_below (g := gb442) (o := .cells #[.slice Ao65 t438.length co65] 25 (0, 0)) q7_8 hb);have n12_ := z7k (below_step q7_0 hb);clear HO_430000 HO_434000 HO_438000 HO_443000 HO446 HO450 BK415 BK416 BK429 BK433 BK437 BK442 HB;have HO_430000 := n0_;have HO_434000 := n1_;have HO_438000 := n2_;have HO_443000 := n3_;have HO446 := n4_;have HO450 := n5_;have BK415 := n6_;have BK416 := n7_;have BK429 := n8_;have BK433 := n9_;have BK437 := n10_;have BK442 := n11_;have HB := n12_;clear n0_ n1_ n2_ n3_ n4_ n5_ n6_ n7_ n8_ n9_ n10_ n11_ n12_;(try clear hb);(try clear hb2);(try clear hk);(try clear hi);refine hK.out _ _ ⟨(blk_cell BK437.out 0).trans rfl, (blk_cell BK416.out 0).trans rfl⟩ (fun hHeld => ?_);clear hK K;refine norm_ (a' := ?_) ?_ ?_;rotate_left
        ·show Act.put _ (some 62) _ = _
         simp only [Act.put, z7a, z7b, z7c, i64_w, i32_w]
         rfl
        refine pure_ (i := 4) (N := some 63) (v := ?_) (a' := ?_) #[true, true, true, true, true] rfl rfl (by kernel_rfl) (fun _ _ _ h => h) (Or.inl ⟨by rfl, ?_⟩) ?_ ?_;rotate_left
        ·intro w'
         go_simp
         with_reducible rfl
        rotate_left
        ·simp only [Act.put, z7a, z7b, z7c, i64_w, i32_w]
         rfl
        refine done_ (by kernel_rfl) ?_;have hnb116 := NB433_415.out;have hnc116 := NB415_433.out;have hnb117 := NB433_416.out;have hnc117 := NB416_433.out;have hnb118 := NB433_429.out;have hnc118 := NB429_433.out;have hnb119 := NB433_437.out;have hnc119 := NB437_433.out;have hnb120 := NB433_442.out;have hnc120 := NB442_433.out
        have hcz121_0 : w115.cell? ⟨gb433, 0, none⟩ = some (.slice Ao47 t430.length co47) := (blk_cell BK433.out 0).trans rfl
        have hfz121_0 := blk_frozen BK433.out 0
        go_upto_region 21 with (first | ((with_reducible refine gate_callee (f := 22) rfl ?_); refine goesL_ (some 66) rfl rfl Try.func22 (by kernel_rfl) rfl #[.agg #[.slice Ao47 t430.length co47], .int .i64 1] rfl q7_5 ?_; (with_reducible refine (laws_markFew.calls kj24 (fun k_ => some k_ = (.slice Ao47 t430.length co47 : Value).ownBlock) (.slice Ao47 t430.length co47) t430 1 t452 t453 w _ ?side1 ?side2 A105.out).mono ?_); (case side1 => exact q7_0); (case side2 => exact Kd.R_tight rfl HO_434000.out); rintro e w122 ⟨rfl, hy0, hb, hkp⟩; refine ⟨_, rfl, ?_⟩; have n0_ := z7k (Kd.R_mono (ok' := fun k_ => some k_ ≠ (.slice Ao47 t430.length co47 : Value).ownBlock ∧ some k_ ≠ (.slice Ao56 t434.length co56 : Value).ownBlock ∧ some k_ ≠ (.slice Ao65 t438.length co65 : Value).ownBlock ∧ some k_ ≠ (.slice Ao110 t444.length co110 : Value).ownBlock ∧ some k_ ≠ (.slice Ao114 t448.length co114 : Value).ownBlock) (Kd.R_keptB (HO_430000.out) hkp (fun k_ hk_ hs_ => (hk_.1.1.1) hs_)) (fun k_ hk_ => ⟨hk_.1.1.1.1, hk_.1.1.1.2.1, hk_.1.1.1.2.2, hk_.1.1.2, hk_.1.2⟩)); have n1_ := z7k (Kd.R_reok rfl hy0 (fun k_ e_ => HO_434000.out.1 k_ e_)); have n2_ := z7k (Kd.R_mono (ok' := fun k_ => some k_ ≠ (.slice Ao41 t425.length co41 : Value).ownBlock ∧ some k_ ≠ (.slice Ao47 t430.length co47 : Value).ownBlock ∧ some k_ ≠ (.slice Ao65 t438.length co65 : Value).ownBlock ∧ some k_ ≠ (.slice Ao110 t444.length co110 : Value).ownBlock ∧ some k_ ≠ (.slice Ao114 t448.length co114 : Value).ownBlock) (Kd.R_keptB (HO_438000.out) hkp (fun k_ hk_ hs_ => (hk_.1.1.2.1) hs_)) (fun k_ hk_ => ⟨hk_.1.1.1.1, hk_.1.1.1.2.1, hk_.1.1.1.2.2, hk_.1.1.2, hk_.1.2⟩)); have n3_ := z7k (Kd.R_mono (ok' := fun k_ => some k_ ≠ (.slice Ao41 t425.length co41 : Value).ownBlock ∧ some k_ ≠ (.slice Ao47 t430.length co47 : Value).ownBlock ∧ some k_ ≠ (.slice Ao56 t434.length co56 : Value).ownBlock ∧ some k_ ≠ (.slice Ao110 t444.length co110 : Value).ownBlock ∧ some k_ ≠ (.slice Ao114 t448.length co114 : Value).ownBlock) (Kd.R_keptB (HO_443000.out) hkp (fun k_ hk_ hs_ => (hk_.1.1.2.1) hs_)) (fun k_ hk_ => ⟨hk_.1.1.1.1, hk_.1.1.1.2.1, hk_.1.1.1.2.2, hk_.1.1.2, hk_.1.2⟩)); have n4_ := z7k (blk_kept q7_1 hkp (fun hs_ => (fun e_ => (Kd.R_ne HO_434000.out BK415.out (by decide)) e_) hs_)); have n5_ := z7k (blk_kept q7_2 hkp (fun hs_ => (fun e_ => (Kd.R_ne HO_434000.out BK416.out (by decide)) e_) hs_)); have n6_ := z7k (blk_kept q7_4 hkp (fun hs_ => (fun e_ => (Kd.R_ne HO_434000.out BK429.out (by decide)) e_) hs_)); have n7_ := z7k (blk_kept q7_6 hkp (fun hs_ => (fun e_ => (Kd.R_ne HO_434000.out BK433.out (by decide)) e_) hs_)); have n8_ := z7k (blk_kept q7_7 hkp (fun hs_ => (fun e_ => (Kd.R_ne HO_434000.out BK437.out (by decide)) e_) hs_)); have n9_ := z7k (blk_kept q7_8 hkp (fun hs_ => (fun e_ => (Kd.R_ne HO_434000.out BK442.out (by decide)) e_) hs_)); have n10_ := z7k (Kd.R_mono (ok' := fun k_ => some k_ ≠ (.slice Ao41 t425.length co41 : Value).ownBlock ∧ some k_ ≠ (.slice Ao47 t430.length co47 : Value).ownBlock ∧ some k_ ≠ (.slice Ao56 t434.length co56 : Value).ownBlock ∧ some k_ ≠ (.slice Ao65 t438.length co65 : Value).ownBlock ∧ some k_ ≠ (.slice Ao114 t448.length co114 : Value).ownBlock) (Kd.R_keptB (HO446.out) hkp (fun k_ hk_ hs_ => (hk_.1.1.1.2) hs_)) (fun k_ hk_ => ⟨hk_.1.1.1.1.1.2, hk_.1.1.1.1.2, hk_.1.1.1.2, hk_.1.1.2, hk_.1.2⟩)); have n11_ := z7k (Kd.R_mono (ok' := fun k_ => some k_ ≠ (.slice Ao41 t425.length co41 : Value).ownBlock ∧ some k_ ≠ (.slice Ao47 t430.length co47 : Value).ownBlock ∧ some k_ ≠ (.slice Ao56 t434.length co56 : Value).ownBlock ∧ some k_ ≠ (.slice Ao65 t438.length co65 : Value).ownBlock ∧ some k_ ≠ (.slice Ao110 t444.length co110 : Value).ownBlock) (Kd.R_keptB (HO450.out) hkp (fun k_ hk_ hs_ => (hk_.1.1.1.2) hs_)) (fun k_ hk_ => ⟨hk_.1.1.1.1.1.2, hk_.1.1.1.1.2, hk_.1.1.1.2, hk_.1.1.2, hk_.1.2⟩)); have n12_ := z7k (hb); clear HO_430000; clear HO_434000; clear HO_438000; clear HO_443000; clear BK415; clear BK416; clear BK429; clear BK433; clear BK437; clear BK442; clear HO446; clear HO450; clear HB; have HO_430000 := n0_; have HO_434000 := n1_; have HO_438000 := n2_; have HO_443000 := n3_; have BK415 := n4_; have BK416 := n5_; have BK429 := n6_; have BK433 := n7_; have BK437 := n8_; have BK442 := n9_; have HO446 := n10_; have HO450 := n11_; have HB := n12_; clear n0_ n1_ n2_ n3_ n4_ n5_ n6_ n7_ n8_ n9_ n10_ n11_ n12_; (try clear hb); (try clear hkp); (try clear hy0); have hnb123 := NB437_415.out; have hnc123 := NB415_437.out; have hnb124 := NB437_416.out; have hnc124 := NB416_437.out; have hnb125 := NB437_429.out; have hnc125 := NB429_437.out; have hnb126 := NB437_442.out; have hnc126 := NB442_437.out; have hcz127_0 : w122.cell? ⟨gb437, 0, none⟩ = some (.slice Ao56 t434.length co56) := (blk_cell BK437.out 0).trans rfl; have hfz127_0 := blk_frozen BK437.out 0) | ((with_reducible refine gate_callee (f := 22) rfl ?_); refine goesL_ (some 69) rfl rfl Try.func22 (by kernel_rfl) rfl #[.agg #[.slice Ao56 t434.length co56], .int .i64 t452] rfl q7_5 ?_; (with_reducible refine (laws_markFew.calls kj24 (fun k_ => some k_ = (.slice Ao56 t434.length co56 : Value).ownBlock) (.slice Ao56 t434.length co56) t434 t452 t454 t455 w _ ?side1 ?side2 A106.out).mono ?_); (case side1 => exact q7_0); (case side2 => exact Kd.R_tight rfl HO_438000.out); rintro e w128 ⟨rfl, hy0, hb, hkp⟩; refine ⟨_, rfl, ?_⟩; have n0_ := z7k (Kd.R_mono (ok' := fun k_ => some k_ ≠ (.slice Ao47 t430.length co47 : Value).ownBlock ∧ some k_ ≠ (.slice Ao56 t434.length co56 : Value).ownBlock ∧ some k_ ≠ (.slice Ao65 t438.length co65 : Value).ownBlock ∧ some k_ ≠ (.slice Ao110 t444.length co110 : Value).ownBlock ∧ some k_ ≠ (.slice Ao114 t448.length co114 : Value).ownBlock) (Kd.R_keptB (HO_430000.out) hkp (fun k_ hk_ hs_ => (hk_.2.1) hs_)) (fun k_ hk_ => ⟨hk_.1.1, hk_.1.2.1, hk_.1.2.2.1, hk_.1.2.2.2.1, hk_.1.2.2.2.2⟩)); have n1_ := z7k (Kd.R_mono (ok' := fun k_ => some k_ ≠ (.slice Ao41 t425.length co41 : Value).ownBlock ∧ some k_ ≠ (.slice Ao56 t434.length co56 : Value).ownBlock ∧ some k_ ≠ (.slice Ao65 t438.length co65 : Value).ownBlock ∧ some k_ ≠ (.slice Ao110 t444.length co110 : Value).ownBlock ∧ some k_ ≠ (.slice Ao114 t448.length co114 : Value).ownBlock) (Kd.R_keptB (HO_434000.out) hkp (fun k_ hk_ hs_ => (hk_.1.1.2.1) hs_)) (fun k_ hk_ => ⟨hk_.1.1.1.1, hk_.1.1.1.2.1, hk_.1.1.1.2.2, hk_.1.1.2, hk_.1.2⟩)); have n2_ := z7k (Kd.R_reok rfl hy0 (fun k_ e_ => HO_438000.out.1 k_ e_)); have n3_ := z7k (Kd.R_mono (ok' := fun k_ => some k_ ≠ (.slice Ao41 t425.length co41 : Value).ownBlock ∧ some k_ ≠ (.slice Ao47 t430.length co47 : Value).ownBlock ∧ some k_ ≠ (.slice Ao56 t434.length co56 : Value).ownBlock ∧ some k_ ≠ (.slice Ao110 t444.length co110 : Value).ownBlock ∧ some k_ ≠ (.slice Ao114 t448.length co114 : Value).ownBlock) (Kd.R_keptB (HO_443000.out) hkp (fun k_ hk_ hs_ => (hk_.2.2.1) hs_)) (fun k_ hk_ => ⟨hk_.1.1, hk_.1.2.1, hk_.1.2.2.1, hk_.1.2.2.2.1, hk_.1.2.2.2.2⟩)); have n4_ := z7k (blk_kept q7_1 hkp (fun hs_ => (fun e_ => (Kd.R_ne HO_438000.out BK415.out (by decide)) e_) hs_)); have n5_ := z7k (blk_kept q7_2 hkp (fun hs_ => (fun e_ => (Kd.R_ne HO_438000.out BK416.out (by decide)) e_) hs_)); have n6_ := z7k (blk_kept q7_4 hkp (fun hs_ => (fun e_ => (Kd.R_ne HO_438000.out BK429.out (by decide)) e_) hs_)); have n7_ := z7k (blk_kept q7_6 hkp (fun hs_ => (fun e_ => (Kd.R_ne HO_438000.out BK433.out (by decide)) e_) hs_)); have n8_ := z7k (blk_kept q7_7 hkp (fun hs_ => (fun e_ => (Kd.R_ne HO_438000.out BK437.out (by decide)) e_) hs_)); have n9_ := z7k (blk_kept q7_8 hkp (fun hs_ => (fun e_ => (Kd.R_ne HO_438000.out BK442.out (by decide)) e_) hs_)); have n10_ := z7k (Kd.R_mono (ok' := fun k_ => some k_ ≠ (.slice Ao41 t425.length co41 : Value).ownBlock ∧ some k_ ≠ (.slice Ao47 t430.length co47 : Value).ownBlock ∧ some k_ ≠ (.slice Ao56 t434.length co56 : Value).ownBlock ∧ some k_ ≠ (.slice Ao65 t438.length co65 : Value).ownBlock ∧ some k_ ≠ (.slice Ao114 t448.length co114 : Value).ownBlock) (Kd.R_keptB (HO446.out) hkp (fun k_ hk_ hs_ => (hk_.2.2.1) hs_)) (fun k_ hk_ => ⟨hk_.1.1, hk_.1.2.1, hk_.1.2.2.1, hk_.1.2.2.2.1, hk_.1.2.2.2.2⟩)); have n11_ := z7k (Kd.R_mono (ok' := fun k_ => some k_ ≠ (.slice Ao41 t425.length co41 : Value).ownBlock ∧ some k_ ≠ (.slice Ao47 t430.length co47 : Value).ownBlock ∧ some k_ ≠ (.slice Ao56 t434.length co56 : Value).ownBlock ∧ some k_ ≠ (.slice Ao65 t438.length co65 : Value).ownBlock ∧ some k_ ≠ (.slice Ao110 t444.length co110 : Value).ownBlock) (Kd.R_keptB (HO450.out) hkp (fun k_ hk_ hs_ => (hk_.2.2.1) hs_)) (fun k_ hk_ => ⟨hk_.1.1, hk_.1.2.1, hk_.1.2.2.1, hk_.1.2.2.2.1, hk_.1.2.2.2.2⟩)); have n12_ := z7k (hb); clear HO_430000; clear HO_434000; clear HO_438000; clear HO_443000; clear BK415; clear BK416; clear BK429; clear BK433; clear BK437; clear BK442; clear HO446; clear HO450; clear HB; have HO_430000 := n0_; have HO_434000 := n1_; have HO_438000 := n2_; have HO_443000 := n3_; have BK415 := n4_; have BK416 := n5_; have BK429 := n6_; have BK433 := n7_; have BK437 := n8_; have BK442 := n9_; have HO446 := n10_; have HO450 := n11_; have HB := n12_; clear n0_ n1_ n2_ n3_ n4_ n5_ n6_ n7_ n8_ n9_ n10_ n11_ n12_; (try clear hb); (try clear hkp); (try clear hy0)))
        (try simp only [Act.put, z7a, z7b, z7c])
        go_cut [82] (fun v82 wc => ∃ (kq : Nat) (x82_106 : Bool), v82 = .bool x82_106 ∧ Aside0 (laws_FnExactFewJoin.j1 kq t428 x82_106 l0_0 l1_0 t425 t438 = some r) ∧ Aside0 (kq ≤ kj24) ∧ Aside0 (Kd.R (Kd.int .i64) 3 wc w.heap.size (fun k_ => some k_ ≠ ((.slice Ao47 t430.length co47) : Value).ownBlock ∧ some k_ ≠ ((.slice Ao56 t434.length co56) : Value).ownBlock ∧ some k_ ≠ ((.slice Ao65 t438.length co65) : Value).ownBlock) (.slice Ao41 t425.length co41) t425) ∧ Aside0 (Kd.R (Kd.int .i64) 3 wc w.heap.size (fun k_ => some k_ ≠ ((.slice Ao41 t425.length co41) : Value).ownBlock ∧ some k_ ≠ ((.slice Ao56 t434.length co56) : Value).ownBlock ∧ some k_ ≠ ((.slice Ao65 t438.length co65) : Value).ownBlock) (.slice Ao47 t430.length co47) t453) ∧ Aside0 (Kd.R (Kd.int .i64) 3 wc w.heap.size (fun k_ => some k_ ≠ ((.slice Ao41 t425.length co41) : Value).ownBlock ∧ some k_ ≠ ((.slice Ao47 t430.length co47) : Value).ownBlock ∧ some k_ ≠ ((.slice Ao65 t438.length co65) : Value).ownBlock) (.slice Ao56 t434.length co56) t455) ∧ Aside0 (Kd.R (Kd.int .i64) 3 wc w.heap.size (fun k_ => some k_ ≠ ((.slice Ao41 t425.length co41) : Value).ownBlock ∧ some k_ ≠ ((.slice Ao47 t430.length co47) : Value).ownBlock ∧ some k_ ≠ ((.slice Ao56 t434.length co56) : Value).ownBlock) (.slice Ao65 t438.length co65) t438) ∧ Aside0 (wc.heap[gb415]? = some (.cells #[(.slice A0_0 l0_0.length c0_0)] 37 (0, 0))) ∧ Aside0 (wc.heap[gb416]? = some (.cells #[(.slice A1_0 l1_0.length c1_0)] 37 (0, 0))) ∧ Aside0 (wc.heap[gb429]? = some (.cells #[(.slice Ao41 t425.length co41)] 25 (0, 0))) ∧ Aside0 (wc.heap[gb433]? = some (.cells #[(.slice Ao47 t430.length co47)] 25 (0, 0))) ∧ Aside0 (wc.heap[gb437]? = some (.cells #[(.slice Ao56 t434.length co56)] 25 (0, 0))) ∧ Aside0 (wc.heap[gb442]? = some (.cells #[(.slice Ao65 t438.length co65)] 25 (0, 0))) ∧ Aside0 (Below w.heap.size w wc))
        case first =>
         have H := HC107.out;clear HC107
         by_cases c129 : t454 < 0
         ·rw [if_pos c129] at H
          have c129b0 : decide (t454 < 0) = true := decide_eq_true c129
          clear c129;(first | rw [c129b0] | (simp only [i64_w, i32_w]; rw [c129b0]) | skip)
          have H' := Aside0.mk H
          clear H
          go_wp2
          go_meet
          case rel => exact ⟨_, (true), q7_104, H', ⟨by have := HJ24.out; first | omega | exact Nat.le_refl _⟩, ⟨by (with_reducible repeat (first | apply Kd.R_alloc | apply Kd.R_drewN | apply Kd.R_drew)); exact Kd.R_mono HO_430000.out (fun _ hk => ⟨hk.1, ⟨hk.2.1, hk.2.2.1⟩⟩)⟩, ⟨by (with_reducible repeat (first | apply Kd.R_alloc | apply Kd.R_drewN | apply Kd.R_drew)); exact Kd.R_mono HO_434000.out (fun _ hk => ⟨hk.1, ⟨hk.2.1, hk.2.2.1⟩⟩)⟩, ⟨by (with_reducible repeat (first | apply Kd.R_alloc | apply Kd.R_drewN | apply Kd.R_drew)); exact Kd.R_mono HO_438000.out (fun _ hk => ⟨hk.1, ⟨hk.2.1, hk.2.2.1⟩⟩)⟩, ⟨by (with_reducible repeat (first | apply Kd.R_alloc | apply Kd.R_drewN | apply Kd.R_drew)); exact Kd.R_mono HO_443000.out (fun _ hk => ⟨hk.1, ⟨hk.2.1, hk.2.2.1⟩⟩)⟩, ⟨by (with_reducible repeat (first | refine blk_drewN ?_ _ | refine blk_drew ?_ | refine blk_alloc ?_ _)); exact BK415.out⟩, ⟨by (with_reducible repeat (first | refine blk_drewN ?_ _ | refine blk_drew ?_ | refine blk_alloc ?_ _)); exact BK416.out⟩, ⟨by (with_reducible repeat (first | refine blk_drewN ?_ _ | refine blk_drew ?_ | refine blk_alloc ?_ _)); exact BK429.out⟩, ⟨by (with_reducible repeat (first | refine blk_drewN ?_ _ | refine blk_drew ?_ | refine blk_alloc ?_ _)); exact BK433.out⟩, ⟨by (with_reducible repeat (first | refine blk_drewN ?_ _ | refine blk_drew ?_ | refine blk_alloc ?_ _)); exact BK437.out⟩, ⟨by (with_reducible repeat (first | refine blk_drewN ?_ _ | refine blk_drew ?_ | refine blk_alloc ?_ _)); exact BK442.out⟩, ⟨q7_0⟩⟩
         ·rw [if_neg c129] at H
          have c129b0 : decide (t454 < 0) = false := decide_eq_false c129
          clear c129;(first | rw [c129b0] | (simp only [i64_w, i32_w]; rw [c129b0]) | skip)
          replace H := Option.bind_eq_some_iff.mp H
          obtain ⟨t456, A1300, H⟩ := H
          replace H : (if t456 = true then (laws_FnExactFewJoin.j1 kj24 t428 (t441 != t428) l0_0 l1_0 t425 t438) else (laws_FnExactFewJoin.j1 kj24 t428 true l0_0 l1_0 t425 t438)) = some r := H
          have A130 := Aside0.mk A1300;clear A1300
          by_cases c131 : t456 = true
          ·subst c131
           have H1 : (laws_FnExactFewJoin.j1 kj24 t428 (t441 != t428) l0_0 l1_0 t425 t438) = some r := by rw [if_pos rfl] at H; exact H
           clear H;have H := H1;clear H1
           have H' := Aside0.mk H
           clear H;have hnb132 := NB442_415.out;have hnc132 := NB415_442.out;have hnb133 := NB442_416.out;have hnc133 := NB416_442.out;have hnb134 := NB442_429.out;have hnc134 := NB429_442.out;have hnb135 := NB442_433.out;have hnc135 := NB433_442.out;have hnb136 := NB442_437.out;have hnc136 := NB437_442.out
           have hcz137_0 : w128.cell? ⟨gb442, 0, none⟩ = some (.slice Ao65 t438.length co65) := (blk_cell BK442.out 0).trans rfl
           have hfz137_0 := blk_frozen BK442.out 0;have hnb138 := NB429_415.out;have hnc138 := NB415_429.out;have hnb139 := NB429_416.out;have hnc139 := NB416_429.out;have hnb140 := NB429_433.out;have hnc140 := NB433_429.out;have hnb141 := NB429_437.out;have hnc141 := NB437_429.out
           have hcz142_0 : w128.cell? ⟨gb429, 0, none⟩ = some (.slice Ao41 t425.length co41) := (blk_cell BK429.out 0).trans rfl
           have hfz142_0 := blk_frozen BK429.out 0
           go_wp2_with (first | (go_at_call 21; (with_reducible refine (laws_eqFew.calls kj24 _ _ t438 _ _ t425 true _ ?side1 ?side2 ?side3 ?side4 A130.out).mono ?_); (case side1 => exact q7_24); (case side2 => exact (Kd.R_reads' HO_443000.out).2.1); (case side3 => exact q7_111); (case side4 => exact (Kd.R_reads' HO_430000.out).2.1); rintro e w143 ⟨rfl, hb⟩; have n0_ := z7k (Kd.R_below q7_11 hb); have n1_ := z7k (Kd.R_below q7_12 hb); have n2_ := z7k (Kd.R_below q7_13 hb); have n3_ := z7k (Kd.R_below q7_14 hb); have n4_ := z7k (Kd.R_below q7_30 hb); have n5_ := z7k (Kd.R_below q7_71 hb); have n6_ := z7k (blk_below (g := gb415) (o := .cells #[.slice A0_0 l0_0.length c0_0] 37 (0, 0)) q7_1 hb); have n7_ := z7k (blk_below (g := gb416) (o := .cells #[.slice A1_0 l1_0.length c1_0] 37 (0, 0)) q7_2 hb); have n8_ := z7k (blk_below (g := gb429) (o := .cells #[.slice Ao41 t425.length co41] 25 (0, 0)) q7_4 hb); have n9_ := z7k (blk_below (g := gb433) (o := .cells #[.slice Ao47 t430.length co47] 25 (0, 0)) q7_6 hb); have n10_ := z7k (blk_below (g := gb437) (o := .cells #[.slice Ao56 t434.length co56] 25 (0, 0)) q7_7 hb); have n11_ := z7k (blk_below (g := gb442) (o := .cells #[.slice Ao65 t438.length co65] 25 (0, 0)) q7_8 hb); have n12_ := z7k (below_step q7_0 hb); clear HO_430000; clear HO_434000; clear HO_438000; clear HO_443000; clear HO446; clear HO450; clear BK415; clear BK416; clear BK429; clear BK433; clear BK437; clear BK442; clear HB; have HO_430000 := n0_; have HO_434000 := n1_; have HO_438000 := n2_; have HO_443000 := n3_; have HO446 := n4_; have HO450 := n5_; have BK415 := n6_; have BK416 := n7_; have BK429 := n8_; have BK433 := n9_; have BK437 := n10_; have BK442 := n11_; have HB := n12_; clear n0_ n1_ n2_ n3_ n4_ n5_ n6_ n7_ n8_ n9_ n10_ n11_ n12_; (try clear hb); (try clear hb2); (try clear hk); (try clear hi)))
           go_meet
           case rel => exact ⟨_, ((t441 != t428)), q7_104, H', ⟨by have := HJ24.out; first | omega | exact Nat.le_refl _⟩, ⟨by (with_reducible repeat (first | apply Kd.R_alloc | apply Kd.R_drewN | apply Kd.R_drew)); exact Kd.R_mono HO_430000.out (fun _ hk => ⟨hk.1, ⟨hk.2.1, hk.2.2.1⟩⟩)⟩, ⟨by (with_reducible repeat (first | apply Kd.R_alloc | apply Kd.R_drewN | apply Kd.R_drew)); exact Kd.R_mono HO_434000.out (fun _ hk => ⟨hk.1, ⟨hk.2.1, hk.2.2.1⟩⟩)⟩, ⟨by (with_reducible repeat (first | apply Kd.R_alloc | apply Kd.R_drewN | apply Kd.R_drew)); exact Kd.R_mono HO_438000.out (fun _ hk => ⟨hk.1, ⟨hk.2.1, hk.2.2.1⟩⟩)⟩, ⟨by (with_reducible repeat (first | apply Kd.R_alloc | apply Kd.R_drewN | apply Kd.R_drew)); exact Kd.R_mono HO_443000.out (fun _ hk => ⟨hk.1, ⟨hk.2.1, hk.2.2.1⟩⟩)⟩, ⟨by (with_reducible repeat (first | refine blk_drewN ?_ _ | refine blk_drew ?_ | refine blk_alloc ?_ _)); exact BK415.out⟩, ⟨by (with_reducible repeat (first | refine blk_drewN ?_ _ | refine blk_drew ?_ | refine blk_alloc ?_ _)); exact BK416.out⟩, ⟨by (with_reducible repeat (first | refine blk_drewN ?_ _ | refine blk_drew ?_ | refine blk_alloc ?_ _)); exact BK429.out⟩, ⟨by (with_reducible repeat (first | refine blk_drewN ?_ _ | refine blk_drew ?_ | refine blk_alloc ?_ _)); exact BK433.out⟩, ⟨by (with_reducible repeat (first | refine blk_drewN ?_ _ | refine blk_drew ?_ | refine blk_alloc ?_ _)); exact BK437.out⟩, ⟨by (with_reducible repeat (first | refine blk_drewN ?_ _ | refine blk_drew ?_ | refine blk_alloc ?_ _)); exact BK442.out⟩, ⟨q7_0⟩⟩
          ·replace c131 := Bool.eq_false_iff.mpr c131
           subst c131
           have H1 : (laws_FnExactFewJoin.j1 kj24 t428 true l0_0 l1_0 t425 t438) = some r := by rw [if_neg (show ¬ (false = true) by decide)] at H; exact H
           clear H;have H := H1;clear H1
           have H' := Aside0.mk H
           clear H;have hnb144 := NB442_415.out;have hnc144 := NB415_442.out;have hnb145 := NB442_416.out;have hnc145 := NB416_442.out;have hnb146 := NB442_429.out;have hnc146 := NB429_442.out;have hnb147 := NB442_433.out;have hnc147 := NB433_442.out;have hnb148 := NB442_437.out;have hnc148 := NB437_442.out
           have hcz149_0 : w128.cell? ⟨gb442, 0, none⟩ = some (.slice Ao65 t438.length co65) := (blk_cell BK442.out 0).trans rfl
           have hfz149_0 := blk_frozen BK442.out 0;have hnb150 := NB429_415.out;have hnc150 := NB415_429.out;have hnb151 := NB429_416.out;have hnc151 := NB416_429.out;have hnb152 := NB429_433.out;have hnc152 := NB433_429.out;have hnb153 := NB429_437.out;have hnc153 := NB437_429.out
           have hcz154_0 : w128.cell? ⟨gb429, 0, none⟩ = some (.slice Ao41 t425.length co41) := (blk_cell BK429.out 0).trans rfl
           have hfz154_0 := blk_frozen BK429.out 0
           go_wp2_with (first | (go_at_call 21; (with_reducible refine (laws_eqFew.calls kj24 _ _ t438 _ _ t425 false _ ?side1 ?side2 ?side3 ?side4 A130.out).mono ?_); (case side1 => exact q7_24); (case side2 => exact (Kd.R_reads' HO_443000.out).2.1); (case side3 => exact q7_111); (case side4 => exact (Kd.R_reads' HO_430000.out).2.1); rintro e w155 ⟨rfl, hb⟩; have n0_ := z7k (Kd.R_below q7_11 hb); have n1_ := z7k (Kd.R_below q7_12 hb); have n2_ := z7k (Kd.R_below q7_13 hb); have n3_ := z7k (Kd.R_below q7_14 hb); have n4_ := z7k (Kd.R_below q7_30 hb); have n5_ := z7k (Kd.R_below q7_71 hb); have n6_ := z7k (blk_below (g := gb415) (o := .cells #[.slice A0_0 l0_0.length c0_0] 37 (0, 0)) q7_1 hb); have n7_ := z7k (blk_below (g := gb416) (o := .cells #[.slice A1_0 l1_0.length c1_0] 37 (0, 0)) q7_2 hb); have n8_ := z7k (blk_below (g := gb429) (o := .cells #[.slice Ao41 t425.length co41] 25 (0, 0)) q7_4 hb); have n9_ := z7k (blk_below (g := gb433) (o := .cells #[.slice Ao47 t430.length co47] 25 (0, 0)) q7_6 hb); have n10_ := z7k (blk_below (g := gb437) (o := .cells #[.slice Ao56 t434.length co56] 25 (0, 0)) q7_7 hb); have n11_ := z7k (blk_below (g := gb442) (o := .cells #[.slice Ao65 t438.length co65] 25 (0, 0)) q7_8 hb); have n12_ := z7k (below_step q7_0 hb); clear HO_430000; clear HO_434000; clear HO_438000; clear HO_443000; clear HO446; clear HO450; clear BK415; clear BK416; clear BK429; clear BK433; clear BK437; clear BK442; clear HB; have HO_430000 := n0_; have HO_434000 := n1_; have HO_438000 := n2_; have HO_443000 := n3_; have HO446 := n4_; have HO450 := n5_; have BK415 := n6_; have BK416 := n7_; have BK429 := n8_; have BK433 := n9_; have BK437 := n10_; have BK442 := n11_; have HB := n12_; clear n0_ n1_ n2_ n3_ n4_ n5_ n6_ n7_ n8_ n9_ n10_ n11_ n12_; (try clear hb); (try clear hb2); (try clear hk); (try clear hi)))
           go_meet
           case rel => exact ⟨_, (true), q7_104, H', ⟨by have := HJ24.out; first | omega | exact Nat.le_refl _⟩, ⟨by (with_reducible repeat (first | apply Kd.R_alloc | apply Kd.R_drewN | apply Kd.R_drew)); exact Kd.R_mono HO_430000.out (fun _ hk => ⟨hk.1, ⟨hk.2.1, hk.2.2.1⟩⟩)⟩, ⟨by (with_reducible repeat (first | apply Kd.R_alloc | apply Kd.R_drewN | apply Kd.R_drew)); exact Kd.R_mono HO_434000.out (fun _ hk => ⟨hk.1, ⟨hk.2.1, hk.2.2.1⟩⟩)⟩, ⟨by (with_reducible repeat (first | apply Kd.R_alloc | apply Kd.R_drewN | apply Kd.R_drew)); exact Kd.R_mono HO_438000.out (fun _ hk => ⟨hk.1, ⟨hk.2.1, hk.2.2.1⟩⟩)⟩, ⟨by (with_reducible repeat (first | apply Kd.R_alloc | apply Kd.R_drewN | apply Kd.R_drew)); exact Kd.R_mono HO_443000.out (fun _ hk => ⟨hk.1, ⟨hk.2.1, hk.2.2.1⟩⟩)⟩, ⟨by (with_reducible repeat (first | refine blk_drewN ?_ _ | refine blk_drew ?_ | refine blk_alloc ?_ _)); exact BK415.out⟩, ⟨by (with_reducible repeat (first | refine blk_drewN ?_ _ | refine blk_drew ?_ | refine blk_alloc ?_ _)); exact BK416.out⟩, ⟨by (with_reducible repeat (first | refine blk_drewN ?_ _ | refine blk_drew ?_ | refine blk_alloc ?_ _)); exact BK429.out⟩, ⟨by (with_reducible repeat (first | refine blk_drewN ?_ _ | refine blk_drew ?_ | refine blk_alloc ?_ _)); exact BK433.out⟩, ⟨by (with_reducible repeat (first | refine blk_drewN ?_ _ | refine blk_drew ?_ | refine blk_alloc ?_ _)); exact BK437.out⟩, ⟨by (with_reducible repeat (first | refine blk_drewN ?_ _ | refine blk_drew ?_ | refine blk_alloc ?_ _)); exact BK442.out⟩, ⟨q7_0⟩⟩
        case rest =>
         clear HC107
         try clear c1
         try clear c2
         try clear p2
         try clear c4
         try clear c5
         try clear c6
         try clear c7
         try clear c8
         try clear c9
         try clear c10
         try clear c11
         try clear c12
         try clear c13
         try clear c14
         try clear c15
         try clear c20
         try clear c21
         try clear c22
         try clear c43
         try clear c48
         try clear c49
         try clear c50
         try clear c52
         try clear c57
         try clear c58
         try clear c59
         try clear c60
         try clear c66
         try clear c67
         try clear c68
         try clear c69
         try clear c70
         try clear c73
         try clear c74
         try clear c75
         try clear c76
         try clear c77
         try clear c78
         try clear c80
         try clear c81
         try clear c82
         try clear c83
         try clear c86
         try clear c87
         try clear c88
         try clear c89
         try clear c90
         try clear c92
         try clear c93
         try clear c94
         try clear c95
         try clear c98
         try clear c101
         try clear c104
         try clear c116
         try clear c117
         try clear c118
         try clear c119
         try clear c120
         try clear c123
         try clear c124
         try clear c125
         try clear c126
         try clear c129
         try clear c129b0
         try clear c131
         try clear c132
         try clear c133
         try clear c134
         try clear c135
         try clear c136
         try clear c138
         try clear c139
         try clear c140
         try clear c141
         try clear c144
         try clear c145
         try clear c146
         try clear c147
         try clear c148
         try clear c150
         try clear c151
         try clear c152
         try clear c153
         try clear hcz121_0
         try clear hcz127_0
         try clear hcz137_0
         try clear hcz142_0
         try clear hcz149_0
         try clear hcz154_0
         try clear hcz44_0
         try clear hcz51_0
         try clear hcz53_0
         try clear hcz61_0
         try clear hcz62_0
         try clear hcz71_0
         try clear hcz79_0
         try clear hcz84_0
         try clear hcz91_0
         try clear hcz96_0
         try clear hfz121_0
         try clear hfz127_0
         try clear hfz137_0
         try clear hfz142_0
         try clear hfz149_0
         try clear hfz154_0
         try clear hfz44_0
         try clear hfz51_0
         try clear hfz53_0
         try clear hfz61_0
         try clear hfz62_0
         try clear hfz71_0
         try clear hfz79_0
         try clear hfz84_0
         try clear hfz91_0
         try clear hfz96_0
         try clear p2
         obtain ⟨kq, x82_106, rfl, HA, HJ106, HO_430000, HO_434000, HO_438000, HO_443000, BK415, BK416, BK429, BK433, BK437, BK442, HB⟩ := hcut;have hl434000_106 := (Kd.R_reads' HO_434000.out).1
         rw [hl434000_106] at HO_434000
         (try simp only [hl434000_106])
         (try simp only [hl434000_106] at BK415)
         (try simp only [hl434000_106] at BK416)
         (try simp only [hl434000_106] at BK429)
         (try simp only [hl434000_106] at BK433)
         (try simp only [hl434000_106] at BK437)
         (try simp only [hl434000_106] at BK442)
         (try simp only [hl434000_106] at HO_430000)
         (try simp only [hl434000_106] at HO_438000)
         (try simp only [hl434000_106] at HO_443000)
         have hl438000_106 := (Kd.R_reads' HO_438000.out).1
         rw [hl438000_106] at HO_438000
         (try simp only [hl438000_106])
         (try simp only [hl438000_106] at BK415)
         (try simp only [hl438000_106] at BK416)
         (try simp only [hl438000_106] at BK429)
         (try simp only [hl438000_106] at BK433)
         (try simp only [hl438000_106] at BK437)
         (try simp only [hl438000_106] at BK442)
         (try simp only [hl438000_106] at HO_430000)
         (try simp only [hl438000_106] at HO_434000)
         (try simp only [hl438000_106] at HO_443000)
         cases kq with
         | zero => exact absurd HA.out (by simp [laws_FnExactFewJoin.j1])
         | succ kj106 =>
          have H := HA.out;clear HA
          simp only [laws_FnExactFewJoin.j1] at H
          by_cases c156 : x82_106 = true
          ·subst c156
           have H1 : (some false) = some r := by rw [if_pos rfl] at H; exact H
           clear H;have H := H1;clear H1
           obtain rfl := Option.some.inj H
           go_wp2
           go_ret
           exact ⟨q7_31, q7_0⟩
          ·replace c156 := Bool.eq_false_iff.mpr c156
           subst c156
           have H1 : ((laws_markFew.f kj106 t438 1).bind fun bt457 => ((laws_heldFew.f kj106 bt457.2 1).bind fun t459 => (if t459 < 0 then (some false) else (if t459 = bt457.1 then ((laws_toFew.f kj106 l0_0).bind fun t460 => ((laws_toFew.f kj106 l1_0).bind fun t463 => ((impl_FewJoin.f kj106 t460 t463).bind fun bt466 => ((laws_eqFew.f kj106 bt466.1 t425).bind fun t471 => (if t471 = true then (laws_FnExactFewJoin.j2 kj106 bt457.1 (bt466.2 != t428) bt457.2) else (laws_FnExactFewJoin.j2 kj106 bt457.1 true bt457.2)))))) else (some false))))) = some r := by rw [if_neg (show ¬ (false = true) by decide)] at H; exact H
           clear H;have H := H1;clear H1
           replace H := Option.bind_eq_some_iff.mp H
           obtain ⟨⟨t457, t458⟩, A1570, H⟩ := H
           replace H : ((laws_heldFew.f kj106 t458 1).bind fun t459 => (if t459 < 0 then (some false) else (if t459 = t457 then ((laws_toFew.f kj106 l0_0).bind fun t460 => ((laws_toFew.f kj106 l1_0).bind fun t463 => ((impl_FewJoin.f kj106 t460 t463).bind fun bt466 => ((laws_eqFew.f kj106 bt466.1 t425).bind fun t471 => (if t471 = true then (laws_FnExactFewJoin.j2 kj106 t457 (bt466.2 != t428) t458) else (laws_FnExactFewJoin.j2 kj106 t457 true t458)))))) else (some false)))) = some r := H
           have A157 := Aside0.mk A1570;clear A1570
           replace H := Option.bind_eq_some_iff.mp H
           obtain ⟨t459, A1580, H⟩ := H
           replace H : (if t459 < 0 then (some false) else (if t459 = t457 then ((laws_toFew.f kj106 l0_0).bind fun t460 => ((laws_toFew.f kj106 l1_0).bind fun t463 => ((impl_FewJoin.f kj106 t460 t463).bind fun bt466 => ((laws_eqFew.f kj106 bt466.1 t425).bind fun t471 => (if t471 = true then (laws_FnExactFewJoin.j2 kj106 t457 (bt466.2 != t428) t458) else (laws_FnExactFewJoin.j2 kj106 t457 true t458)))))) else (some false))) = some r := H
           have A158 := Aside0.mk A1580;clear A1580
           by_cases c159 : t459 < 0
           ·rw [if_pos c159] at H
            have c159b0 : decide (t459 < 0) = true := decide_eq_true c159
            clear c159
            obtain rfl := Option.some.inj H
            have hnb160 := NB442_415.out;have hnc160 := NB415_442.out;have hnb161 := NB442_416.out;have hnc161 := NB416_442.out;have hnb162 := NB442_429.out;have hnc162 := NB429_442.out;have hnb163 := NB442_433.out;have hnc163 := NB433_442.out;have hnb164 := NB442_437.out;have hnc164 := NB437_442.out
            have hcz165_0 : wc.cell? ⟨gb442, 0, none⟩ = some (.slice Ao65 t438.length co65) := (blk_cell BK442.out 0).trans rfl
            have hfz165_0 := blk_frozen BK442.out 0
            go_wp2_with (first | ((with_reducible refine gate_callee (f := 22) rfl ?_); refine goesL_ (some 85) rfl rfl Try.func22 (by kernel_rfl) rfl #[.agg #[.slice Ao65 t438.length co65], .int .i64 1] rfl q7_5 ?_; (with_reducible refine (laws_markFew.calls kj106 (fun k_ => some k_ = (.slice Ao65 t438.length co65 : Value).ownBlock) (.slice Ao65 t438.length co65) t438 1 t457 t458 w _ ?side1 ?side2 A157.out).mono ?_); (case side1 => exact q7_0); (case side2 => exact Kd.R_tight rfl HO_443000.out); rintro e w166 ⟨rfl, hy0, hb, hkp⟩; refine ⟨_, rfl, ?_⟩; have n0_ := z7k (Kd.R_mono (ok' := fun k_ => some k_ ≠ (.slice Ao47 t453.length co47 : Value).ownBlock ∧ some k_ ≠ (.slice Ao56 t455.length co56 : Value).ownBlock ∧ some k_ ≠ (.slice Ao65 t438.length co65 : Value).ownBlock) (Kd.R_keptB (HO_430000.out) hkp (fun k_ hk_ hs_ => (hk_.2.2) hs_)) (fun k_ hk_ => ⟨hk_.1.1, hk_.1.2.1, hk_.1.2.2⟩)); have n1_ := z7k (Kd.R_mono (ok' := fun k_ => some k_ ≠ (.slice Ao41 t425.length co41 : Value).ownBlock ∧ some k_ ≠ (.slice Ao56 t455.length co56 : Value).ownBlock ∧ some k_ ≠ (.slice Ao65 t438.length co65 : Value).ownBlock) (Kd.R_keptB (HO_434000.out) hkp (fun k_ hk_ hs_ => (hk_.2.2) hs_)) (fun k_ hk_ => ⟨hk_.1.1, hk_.1.2.1, hk_.1.2.2⟩)); have n2_ := z7k (Kd.R_mono (ok' := fun k_ => some k_ ≠ (.slice Ao41 t425.length co41 : Value).ownBlock ∧ some k_ ≠ (.slice Ao47 t453.length co47 : Value).ownBlock ∧ some k_ ≠ (.slice Ao65 t438.length co65 : Value).ownBlock) (Kd.R_keptB (HO_438000.out) hkp (fun k_ hk_ hs_ => (hk_.2.2) hs_)) (fun k_ hk_ => ⟨hk_.1.1, hk_.1.2.1, hk_.1.2.2⟩)); have n3_ := z7k (Kd.R_reok rfl hy0 (fun k_ e_ => HO_443000.out.1 k_ e_)); have n4_ := z7k (blk_kept q7_1 hkp (fun hs_ => (fun e_ => (Kd.R_ne HO_443000.out BK415.out (by decide)) e_) hs_)); have n5_ := z7k (blk_kept q7_2 hkp (fun hs_ => (fun e_ => (Kd.R_ne HO_443000.out BK416.out (by decide)) e_) hs_)); have n6_ := z7k (blk_kept q7_4 hkp (fun hs_ => (fun e_ => (Kd.R_ne HO_443000.out BK429.out (by decide)) e_) hs_)); have n7_ := z7k (blk_kept q7_6 hkp (fun hs_ => (fun e_ => (Kd.R_ne HO_443000.out BK433.out (by decide)) e_) hs_)); have n8_ := z7k (blk_kept q7_7 hkp (fun hs_ => (fun e_ => (Kd.R_ne HO_443000.out BK437.out (by decide)) e_) hs_)); have n9_ := z7k (blk_kept q7_8 hkp (fun hs_ => (fun e_ => (Kd.R_ne HO_443000.out BK442.out (by decide)) e_) hs_)); have n10_ := z7k (hb); clear HO_430000; clear HO_434000; clear HO_438000; clear HO_443000; clear BK415; clear BK416; clear BK429; clear BK433; clear BK437; clear BK442; clear HB; have HO_430000 := n0_; have HO_434000 := n1_; have HO_438000 := n2_; have HO_443000 := n3_; have BK415 := n4_; have BK416 := n5_; have BK429 := n6_; have BK433 := n7_; have BK437 := n8_; have BK442 := n9_; have HB := n10_; clear n0_ n1_ n2_ n3_ n4_ n5_ n6_ n7_ n8_ n9_ n10_; (try clear hb); (try clear hkp); (try clear hy0); have hcz167_0 : w166.cell? ⟨gb442, 0, none⟩ = some (.slice Ao65 t438.length co65) := (blk_cell BK442.out 0).trans rfl; have hfz167_0 := blk_frozen BK442.out 0) | ((with_reducible refine gate_callee (f := 23) rfl ?_); refine goesL_ (some 88) rfl rfl Try.func23 (by kernel_rfl) rfl #[.agg #[.slice Ao65 t458.length co65], .int .i64 1] rfl q7_56 ?_; (with_reducible refine (laws_heldFew.calls kj106 _ _ t458 1 t459 _ ?side1 ?side2 A158.out).mono ?_); (case side1 => exact q7_24); (case side2 => exact q7_105); rintro e w168 ⟨rfl, hb⟩; refine ⟨_, rfl, ?_⟩; have n0_ := z7k (Kd.R_below q7_11 hb); have n1_ := z7k (Kd.R_below q7_12 hb); have n2_ := z7k (Kd.R_below q7_13 hb); have n3_ := z7k (Kd.R_below q7_14 hb); have n4_ := z7k (blk_below (g := gb415) (o := .cells #[.slice A0_0 l0_0.length c0_0] 37 (0, 0)) q7_1 hb); have n5_ := z7k (blk_below (g := gb416) (o := .cells #[.slice A1_0 l1_0.length c1_0] 37 (0, 0)) q7_2 hb); have n6_ := z7k (blk_below (g := gb429) (o := .cells #[.slice Ao41 t425.length co41] 25 (0, 0)) q7_4 hb); have n7_ := z7k (blk_below (g := gb433) (o := .cells #[.slice Ao47 t453.length co47] 25 (0, 0)) q7_6 hb); have n8_ := z7k (blk_below (g := gb437) (o := .cells #[.slice Ao56 t455.length co56] 25 (0, 0)) q7_7 hb); have n9_ := z7k (blk_below (g := gb442) (o := .cells #[.slice Ao65 t438.length co65] 25 (0, 0)) q7_8 hb); have n10_ := z7k (below_step q7_0 hb); clear HO_430000; clear HO_434000; clear HO_438000; clear HO_443000; clear BK415; clear BK416; clear BK429; clear BK433; clear BK437; clear BK442; clear HB; have HO_430000 := n0_; have HO_434000 := n1_; have HO_438000 := n2_; have HO_443000 := n3_; have BK415 := n4_; have BK416 := n5_; have BK429 := n6_; have BK433 := n7_; have BK437 := n8_; have BK442 := n9_; have HB := n10_; clear n0_ n1_ n2_ n3_ n4_ n5_ n6_ n7_ n8_ n9_ n10_; (try clear hb); (try clear hb2); (try clear hk); (try clear hi)))
            go_ret
            exact ⟨q7_31, q7_0⟩
           ·rw [if_neg c159] at H
            have c159b0 : decide (t459 < 0) = false := decide_eq_false c159
            clear c159
            by_cases c169 : t459 = t457
            ·rw [if_pos c169] at H
             have c169b0 : (t459 == t457) = true := beq_iff_eq.mpr c169
             have c169b1 : (t459 != t457) = false := bne_eq_false_iff_eq.mpr c169
             clear c169
             replace H := Option.bind_eq_some_iff.mp H
             obtain ⟨t460, A1700, H⟩ := H
             replace H : ((laws_toFew.f kj106 l1_0).bind fun t463 => ((impl_FewJoin.f kj106 t460 t463).bind fun bt466 => ((laws_eqFew.f kj106 bt466.1 t425).bind fun t471 => (if t471 = true then (laws_FnExactFewJoin.j2 kj106 t457 (bt466.2 != t428) t458) else (laws_FnExactFewJoin.j2 kj106 t457 true t458))))) = some r := H
             have A170 := Aside0.mk A1700;clear A1700
             replace H := Option.bind_eq_some_iff.mp H
             obtain ⟨t463, A1710, H⟩ := H
             replace H : ((impl_FewJoin.f kj106 t460 t463).bind fun bt466 => ((laws_eqFew.f kj106 bt466.1 t425).bind fun t471 => (if t471 = true then (laws_FnExactFewJoin.j2 kj106 t457 (bt466.2 != t428) t458) else (laws_FnExactFewJoin.j2 kj106 t457 true t458)))) = some r := H
             have A171 := Aside0.mk A1710;clear A1710
             replace H := Option.bind_eq_some_iff.mp H
             obtain ⟨⟨t466, t469⟩, A1720, H⟩ := H
             replace H : ((laws_eqFew.f kj106 t466 t425).bind fun t471 => (if t471 = true then (laws_FnExactFewJoin.j2 kj106 t457 (t469 != t428) t458) else (laws_FnExactFewJoin.j2 kj106 t457 true t458))) = some r := H
             have A172 := Aside0.mk A1720;clear A1720;have HC173 := Aside0.mk H;clear H;have hnb174 := NB442_415.out;have hnc174 := NB415_442.out;have hnb175 := NB442_416.out;have hnc175 := NB416_442.out;have hnb176 := NB442_429.out;have hnc176 := NB429_442.out;have hnb177 := NB442_433.out;have hnc177 := NB433_442.out;have hnb178 := NB442_437.out;have hnc178 := NB437_442.out
             have hcz179_0 : wc.cell? ⟨gb442, 0, none⟩ = some (.slice Ao65 t438.length co65) := (blk_cell BK442.out 0).trans rfl
             have hfz179_0 := blk_frozen BK442.out 0
             try go_wp2_with (first | ((with_reducible refine gate_callee (f := 22) rfl ?_); refine goesL_ (some 85) rfl rfl Try.func22 (by kernel_rfl) rfl #[.agg #[.slice Ao65 t438.length co65], .int .i64 1] rfl q7_5 ?_; (with_reducible refine (laws_markFew.calls kj106 (fun k_ => some k_ = (.slice Ao65 t438.length co65 : Value).ownBlock) (.slice Ao65 t438.length co65) t438 1 t457 t458 w _ ?side1 ?side2 A157.out).mono ?_); (case side1 => exact q7_0); (case side2 => exact Kd.R_tight rfl HO_443000.out); rintro e w180 ⟨rfl, hy0, hb, hkp⟩; refine ⟨_, rfl, ?_⟩; have n0_ := z7k (Kd.R_mono (ok' := fun k_ => some k_ ≠ (.slice Ao47 t453.length co47 : Value).ownBlock ∧ some k_ ≠ (.slice Ao56 t455.length co56 : Value).ownBlock ∧ some k_ ≠ (.slice Ao65 t438.length co65 : Value).ownBlock) (Kd.R_keptB (HO_430000.out) hkp (fun k_ hk_ hs_ => (hk_.2.2) hs_)) (fun k_ hk_ => ⟨hk_.1.1, hk_.1.2.1, hk_.1.2.2⟩)); have n1_ := z7k (Kd.R_mono (ok' := fun k_ => some k_ ≠ (.slice Ao41 t425.length co41 : Value).ownBlock ∧ some k_ ≠ (.slice Ao56 t455.length co56 : Value).ownBlock ∧ some k_ ≠ (.slice Ao65 t438.length co65 : Value).ownBlock) (Kd.R_keptB (HO_434000.out) hkp (fun k_ hk_ hs_ => (hk_.2.2) hs_)) (fun k_ hk_ => ⟨hk_.1.1, hk_.1.2.1, hk_.1.2.2⟩)); have n2_ := z7k (Kd.R_mono (ok' := fun k_ => some k_ ≠ (.slice Ao41 t425.length co41 : Value).ownBlock ∧ some k_ ≠ (.slice Ao47 t453.length co47 : Value).ownBlock ∧ some k_ ≠ (.slice Ao65 t438.length co65 : Value).ownBlock) (Kd.R_keptB (HO_438000.out) hkp (fun k_ hk_ hs_ => (hk_.2.2) hs_)) (fun k_ hk_ => ⟨hk_.1.1, hk_.1.2.1, hk_.1.2.2⟩)); have n3_ := z7k (Kd.R_reok rfl hy0 (fun k_ e_ => HO_443000.out.1 k_ e_)); have n4_ := z7k (blk_kept q7_1 hkp (fun hs_ => (fun e_ => (Kd.R_ne HO_443000.out BK415.out (by decide)) e_) hs_)); have n5_ := z7k (blk_kept q7_2 hkp (fun hs_ => (fun e_ => (Kd.R_ne HO_443000.out BK416.out (by decide)) e_) hs_)); have n6_ := z7k (blk_kept q7_4 hkp (fun hs_ => (fun e_ => (Kd.R_ne HO_443000.out BK429.out (by decide)) e_) hs_)); have n7_ := z7k (blk_kept q7_6 hkp (fun hs_ => (fun e_ => (Kd.R_ne HO_443000.out BK433.out (by decide)) e_) hs_)); have n8_ := z7k (blk_kept q7_7 hkp (fun hs_ => (fun e_ => (Kd.R_ne HO_443000.out BK437.out (by decide)) e_) hs_)); have n9_ := z7k (blk_kept q7_8 hkp (fun hs_ => (fun e_ => (Kd.R_ne HO_443000.out BK442.out (by decide)) e_) hs_)); have n10_ := z7k (hb); clear HO_430000; clear HO_434000; clear HO_438000; clear HO_443000; clear BK415; clear BK416; clear BK429; clear BK433; clear BK437; clear BK442; clear HB; have HO_430000 := n0_; have HO_434000 := n1_; have HO_438000 := n2_; have HO_443000 := n3_; have BK415 := n4_; have BK416 := n5_; have BK429 := n6_; have BK433 := n7_; have BK437 := n8_; have BK442 := n9_; have HB := n10_; clear n0_ n1_ n2_ n3_ n4_ n5_ n6_ n7_ n8_ n9_ n10_; (try clear hb); (try clear hkp); (try clear hy0); have hcz181_0 : w180.cell? ⟨gb442, 0, none⟩ = some (.slice Ao65 t438.length co65) := (blk_cell BK442.out 0).trans rfl; have hfz181_0 := blk_frozen BK442.out 0) | ((with_reducible refine gate_callee (f := 23) rfl ?_); refine goesL_ (some 88) rfl rfl Try.func23 (by kernel_rfl) rfl #[.agg #[.slice Ao65 t458.length co65], .int .i64 1] rfl q7_56 ?_; (with_reducible refine (laws_heldFew.calls kj106 _ _ t458 1 t459 _ ?side1 ?side2 A158.out).mono ?_); (case side1 => exact q7_24); (case side2 => exact q7_105); rintro e w182 ⟨rfl, hb⟩; refine ⟨_, rfl, ?_⟩; have n0_ := z7k (Kd.R_below q7_11 hb); have n1_ := z7k (Kd.R_below q7_12 hb); have n2_ := z7k (Kd.R_below q7_13 hb); have n3_ := z7k (Kd.R_below q7_14 hb); have n4_ := z7k (blk_below (g := gb415) (o := .cells #[.slice A0_0 l0_0.length c0_0] 37 (0, 0)) q7_1 hb); have n5_ := z7k (blk_below (g := gb416) (o := .cells #[.slice A1_0 l1_0.length c1_0] 37 (0, 0)) q7_2 hb); have n6_ := z7k (blk_below (g := gb429) (o := .cells #[.slice Ao41 t425.length co41] 25 (0, 0)) q7_4 hb); have n7_ := z7k (blk_below (g := gb433) (o := .cells #[.slice Ao47 t453.length co47] 25 (0, 0)) q7_6 hb); have n8_ := z7k (blk_below (g := gb437) (o := .cells #[.slice Ao56 t455.length co56] 25 (0, 0)) q7_7 hb); have n9_ := z7k (blk_below (g := gb442) (o := .cells #[.slice Ao65 t438.length co65] 25 (0, 0)) q7_8 hb); have n10_ := z7k (below_step q7_0 hb); clear HO_430000; clear HO_434000; clear HO_438000; clear HO_443000; clear BK415; clear BK416; clear BK429; clear BK433; clear BK437; clear BK442; clear HB; have HO_430000 := n0_; have HO_434000 := n1_; have HO_438000 := n2_; have HO_443000 := n3_; have BK415 := n4_; have BK416 := n5_; have BK429 := n6_; have BK433 := n7_; have BK437 := n8_; have BK442 := n9_; have HB := n10_; clear n0_ n1_ n2_ n3_ n4_ n5_ n6_ n7_ n8_ n9_ n10_; (try clear hb); (try clear hb2); (try clear hk); (try clear hi)))
             have n0_ := z7k (Kd.R_drew HO_430000.out);have n1_ := z7k (Kd.R_drew HO_434000.out);have n2_ := z7k (Kd.R_drew HO_438000.out);have n3_ := z7k (Kd.R_drew HO_443000.out);have n4_ := z7k (blk_drew BK415.out);have n5_ := z7k (blk_drew BK416.out);have n6_ := z7k (blk_drew BK429.out);have n7_ := z7k (blk_drew BK433.out);have n8_ := z7k (blk_drew BK437.out);have n9_ := z7k (blk_drew BK442.out);have n10_ := z7k (below_drew1 HB.out);clear HO_430000 HO_434000 HO_438000 HO_443000 BK415 BK416 BK429 BK433 BK437 BK442 HB;have HO_430000 := n0_;have HO_434000 := n1_;have HO_438000 := n2_;have HO_443000 := n3_;have BK415 := n4_;have BK416 := n5_;have BK429 := n6_;have BK433 := n7_;have BK437 := n8_;have BK442 := n9_;have HB := n10_;clear n0_ n1_ n2_ n3_ n4_ n5_ n6_ n7_ n8_ n9_ n10_;refine start_ (n := 11) (S := fun w' => w'.cell? ⟨gb415, 0, none⟩ = some (.slice A0_0 l0_0.length c0_0) ∧ w'.cell? ⟨gb416, 0, none⟩ = some (.slice A1_0 l1_0.length c1_0)) (ds := []) laws_FnExactFewJoin.D0 (by kernel_rfl) rfl rfl ⟨(blk_cell BK415.out 0).trans rfl, (blk_cell BK416.out 0).trans rfl⟩ (fun hHeld => ?_); refine with_tabW laws_FnExactFewJoin.tab31 laws_FnExactFewJoin.bits31 (fun HT_ HW_ => ?_)
             generalize w182.drew = w183 at HO_430000 HO_434000 HO_438000 HO_443000 BK415 BK416 BK429 BK433 BK437 BK442 HB hHeld ⊢
             refine take_ (i := 0) (N := some 95) (v := ?_) (a' := ?_) laws_FnExactFewJoin.D1 rfl rfl (take_ofW HT_.out HW_.out (by kernel_rfl)) (fun _ _ _ h => h) (Or.inl ⟨by rfl, ?_⟩) hHeld ?_ ?_;rotate_left
             ·rintro w' ⟨s0, s1⟩
              go_simp
              with_reducible rfl
             rotate_left
             ·simp only [Act.put, z7a, z7b, z7c, i64_w, i32_w]
              rfl
             refine take_ (i := 2) (N := some 97) (v := ?_) (a' := ?_) laws_FnExactFewJoin.D2 rfl rfl (take_ofW HT_.out HW_.out (by kernel_rfl)) (fun _ _ _ h => h) (Or.inl ⟨by rfl, ?_⟩) hHeld ?_ ?_;rotate_left
             ·rintro w' ⟨s0, s1⟩
              go_simp
              with_reducible rfl
             rotate_left
             ·simp only [Act.put, z7a, z7b, z7c, i64_w, i32_w]
              rfl
             refine join_ (σ := Value × Value × Value × Nat) 2 laws_FnExactFewJoin.D3 (fun s_ => [(96, .agg #[s_.1]), (98, .agg #[s_.2.1]), (99, .tuple #[.agg #[s_.2.2.1], .bool t469]), (15, .pointer (some ⟨s_.2.2.2, 0, none⟩)), (94, .tuple #[.agg #[s_.2.2.1], .bool t469]), (100, .agg #[s_.2.2.1]), (101, .bool t469)]) (fun s_ w' => (w'.cell? ⟨gb415, 0, none⟩ = some (.slice A0_0 l0_0.length c0_0) ∧ w'.cell? ⟨gb416, 0, none⟩ = some (.slice A1_0 l1_0.length c1_0)) ∧ (Kd.R (Kd.int .i64) 3 w' w.heap.size (fun k_ => some k_ ≠ (s_.2.1 : Value).ownBlock ∧ some k_ ≠ (s_.2.2.1 : Value).ownBlock ∧ some k_ ≠ (.slice Ao41 t425.length co41 : Value).ownBlock ∧ some k_ ≠ (.slice Ao47 t453.length co47 : Value).ownBlock ∧ some k_ ≠ (.slice Ao56 t455.length co56 : Value).ownBlock ∧ some k_ ≠ (.slice Ao65 t438.length co65 : Value).ownBlock) s_.1 t460) ∧ (Kd.R (Kd.int .i64) 3 w' w.heap.size (fun k_ => some k_ ≠ (s_.1 : Value).ownBlock ∧ some k_ ≠ (s_.2.2.1 : Value).ownBlock ∧ some k_ ≠ (.slice Ao41 t425.length co41 : Value).ownBlock ∧ some k_ ≠ (.slice Ao47 t453.length co47 : Value).ownBlock ∧ some k_ ≠ (.slice Ao56 t455.length co56 : Value).ownBlock ∧ some k_ ≠ (.slice Ao65 t438.length co65 : Value).ownBlock) s_.2.1 t463) ∧ (Kd.R (Kd.int .i64) 3 w' w.heap.size (fun k_ => some k_ ≠ (s_.1 : Value).ownBlock ∧ some k_ ≠ (s_.2.1 : Value).ownBlock ∧ some k_ ≠ (.slice Ao41 t425.length co41 : Value).ownBlock ∧ some k_ ≠ (.slice Ao47 t453.length co47 : Value).ownBlock ∧ some k_ ≠ (.slice Ao56 t455.length co56 : Value).ownBlock ∧ some k_ ≠ (.slice Ao65 t438.length co65 : Value).ownBlock) s_.2.2.1 t466) ∧ (Kd.R (Kd.int .i64) 3 w' w.heap.size (fun k_ => some k_ ≠ (s_.1 : Value).ownBlock ∧ some k_ ≠ (s_.2.1 : Value).ownBlock ∧ some k_ ≠ (s_.2.2.1 : Value).ownBlock ∧ some k_ ≠ (.slice Ao47 t453.length co47 : Value).ownBlock ∧ some k_ ≠ (.slice Ao56 t455.length co56 : Value).ownBlock ∧ some k_ ≠ (.slice Ao65 t438.length co65 : Value).ownBlock) (.slice Ao41 t425.length co41) t425) ∧ (Kd.R (Kd.int .i64) 3 w' w.heap.size (fun k_ => some k_ ≠ (s_.1 : Value).ownBlock ∧ some k_ ≠ (s_.2.1 : Value).ownBlock ∧ some k_ ≠ (s_.2.2.1 : Value).ownBlock ∧ some k_ ≠ (.slice Ao41 t425.length co41 : Value).ownBlock ∧ some k_ ≠ (.slice Ao56 t455.length co56 : Value).ownBlock ∧ some k_ ≠ (.slice Ao65 t438.length co65 : Value).ownBlock) (.slice Ao47 t453.length co47) t453) ∧ (Kd.R (Kd.int .i64) 3 w' w.heap.size (fun k_ => some k_ ≠ (s_.1 : Value).ownBlock ∧ some k_ ≠ (s_.2.1 : Value).ownBlock ∧ some k_ ≠ (s_.2.2.1 : Value).ownBlock ∧ some k_ ≠ (.slice Ao41 t425.length co41 : Value).ownBlock ∧ some k_ ≠ (.slice Ao47 t453.length co47 : Value).ownBlock ∧ some k_ ≠ (.slice Ao65 t438.length co65 : Value).ownBlock) (.slice Ao56 t455.length co56) t455) ∧ (Kd.R (Kd.int .i64) 3 w' w.heap.size (fun k_ => some k_ ≠ (s_.1 : Value).ownBlock ∧ some k_ ≠ (s_.2.1 : Value).ownBlock ∧ some k_ ≠ (s_.2.2.1 : Value).ownBlock ∧ some k_ ≠ (.slice Ao41 t425.length co41 : Value).ownBlock ∧ some k_ ≠ (.slice Ao47 t453.length co47 : Value).ownBlock ∧ some k_ ≠ (.slice Ao56 t455.length co56 : Value).ownBlock) (.slice Ao65 t438.length co65) t458) ∧ (w'.heap[gb415]? = some (.cells #[.slice A0_0 l0_0.length c0_0] 37 (0, 0))) ∧ (w'.heap[gb416]? = some (.cells #[.slice A1_0 l1_0.length c1_0] 37 (0, 0))) ∧ (w'.heap[gb429]? = some (.cells #[.slice Ao41 t425.length co41] 25 (0, 0))) ∧ (w'.heap[gb433]? = some (.cells #[.slice Ao47 t453.length co47] 25 (0, 0))) ∧ (w'.heap[gb437]? = some (.cells #[.slice Ao56 t455.length co56] 25 (0, 0))) ∧ (w'.heap[gb442]? = some (.cells #[.slice Ao65 t438.length co65] 25 (0, 0))) ∧ (w'.heap[s_.2.2.2]? = some (.cells #[.slice none 0 0] 25 (0, 0))) ∧ (w.heap.size ≤ s_.2.2.2) ∧ (w.heap.size ≤ s_.2.2.2) ∧ (gb415 ≠ s_.2.2.2) ∧ (s_.2.2.2 ≠ gb415) ∧ (gb416 ≠ s_.2.2.2) ∧ (s_.2.2.2 ≠ gb416) ∧ (gb429 ≠ s_.2.2.2) ∧ (s_.2.2.2 ≠ gb429) ∧ (gb433 ≠ s_.2.2.2) ∧ (s_.2.2.2 ≠ gb433) ∧ (gb437 ≠ s_.2.2.2) ∧ (s_.2.2.2 ≠ gb437) ∧ (gb442 ≠ s_.2.2.2) ∧ (s_.2.2.2 ≠ gb442) ∧ (Below w.heap.size w w')) ?_ ?_;rotate_left
             ·intro hCont;refine two_ (i := 1) (j := 8) (Ni := some 96) (Nj := some 15) laws_FnExactFewJoin.D4 laws_FnExactFewJoin.D5 rfl rfl rfl rfl (two_of HT_.out (by kernel_rfl)) (by decide) (by decide) (fun K hK => ?_) (fun K hK => ?_)
              ·refine goes_ Try.func20 (by kernel_rfl) rfl #[.agg #[.slice A0_0 l0_0.length c0_0]] (by rfl) rfl rfl q7_5 ?_
               with_reducible refine (laws_toFew.calls kj106 _ _ l0_0 t460 _ ?side1 ?side2 A170.out).mono ?_
               (case side1 => exact q7_17);(case side2 => exact HC0_0.out);rintro e w184 ⟨v461, rfl, ho0, hb⟩;refine ⟨_, rfl, ?_⟩;have n0_ := z7k (Kd.R_elder' q7_11 (Kd.R_base ho0) hb);have n1_ := z7k (Kd.R_elder' q7_12 (Kd.R_base ho0) hb);have n2_ := z7k (Kd.R_elder' q7_13 (Kd.R_base ho0) hb);have n3_ := z7k (Kd.R_elder' q7_14 (Kd.R_base ho0) hb);have n4_ := z7k (Kd.R_lower (Kd.R_new' (Kd.R_new' (Kd.R_new' (Kd.R_new' ho0 (Kd.R_lt q7_11)) (Kd.R_lt q7_12)) (Kd.R_lt q7_13)) (Kd.R_lt q7_14)) (below_size q7_0));have n5_ := z7k (blk_below (g := gb415) (o := .cells #[.slice A0_0 l0_0.length c0_0] 37 (0, 0)) q7_1 hb);have n6_ := z7k (blk_below (g := gb416) (o := .cells #[.slice A1_0 l1_0.length c1_0] 37 (0, 0)) q7_2 hb);have n7_ := z7k (blk_below (g := gb429) (o := .cells #[.slice Ao41 t425.length co41] 25 (0, 0)) q7_4 hb);have n8_ := z7k (blk_below (g := gb433) (o := .cells #[.slice Ao47 t453.length co47] 25 (0, 0)) q7_6 hb);have n9_ := z7k (blk_below (g := gb437) (o := .cells #[.slice Ao56 t455.length co56] 25 (0, 0)) q7_7 hb);have n10_ := z7k (blk_below (g := gb442) (o := .cells #[.slice Ao65 t438.length co65] 25 (0, 0)) q7_8 hb);have n11_ := z7k (below_step q7_0 hb);clear HO_430000 HO_434000 HO_438000 HO_443000 BK415 BK416 BK429 BK433 BK437 BK442 HB;have HO_430000 := n0_;have HO_434000 := n1_;have HO_438000 := n2_;have HO_443000 := n3_;have HO462 := n4_;have BK415 := n5_;have BK416 := n6_;have BK429 := n7_;have BK433 := n8_;have BK437 := n9_;have BK442 := n10_;have HB := n11_;clear n0_ n1_ n2_ n3_ n4_ n5_ n6_ n7_ n8_ n9_ n10_ n11_;(try clear hb);(try clear hb2);(try clear hk);(try clear hi);(try clear ho0);refine hK.out _ _ ⟨(blk_cell BK415.out 0).trans rfl, (blk_cell BK416.out 0).trans rfl⟩ (fun hHeld => ?_);clear hK K;refine norm_ (a' := ?_) ?_ ?_;rotate_left
               ·show Act.put _ (some 96) _ = _
                simp only [Act.put, z7a, z7b, z7c, i64_w, i32_w]
                rfl
               refine two_ (i := 3) (j := 8) (Ni := some 98) (Nj := some 15) laws_FnExactFewJoin.D6 laws_FnExactFewJoin.D7 rfl rfl rfl rfl (two_of HT_.out (by kernel_rfl)) (by decide) (by decide) (fun K hK => ?_) (fun K hK => ?_)
               ·refine goes_ Try.func20 (by kernel_rfl) rfl #[.agg #[.slice A1_0 l1_0.length c1_0]] (by rfl) rfl rfl q7_5 ?_
                with_reducible refine (laws_toFew.calls kj106 _ _ l1_0 t463 _ ?side1 ?side2 A171.out).mono ?_
                (case side1 => exact q7_18);(case side2 => exact HC1_0.out);rintro e w185 ⟨v464, rfl, ho0, hb⟩;refine ⟨_, rfl, ?_⟩;have n0_ := z7k (Kd.R_elder' q7_11 (Kd.R_base ho0) hb);have n1_ := z7k (Kd.R_elder' q7_12 (Kd.R_base ho0) hb);have n2_ := z7k (Kd.R_elder' q7_13 (Kd.R_base ho0) hb);have n3_ := z7k (Kd.R_elder' q7_14 (Kd.R_base ho0) hb);have n4_ := z7k (Kd.R_elder' q7_16 (Kd.R_base ho0) hb);have n5_ := z7k (Kd.R_lower (Kd.R_new' (Kd.R_new' (Kd.R_new' (Kd.R_new' (Kd.R_new' ho0 (Kd.R_lt q7_11)) (Kd.R_lt q7_12)) (Kd.R_lt q7_13)) (Kd.R_lt q7_14)) (Kd.R_lt q7_16)) (below_size q7_0));have n6_ := z7k (blk_below (g := gb415) (o := .cells #[.slice A0_0 l0_0.length c0_0] 37 (0, 0)) q7_1 hb);have n7_ := z7k (blk_below (g := gb416) (o := .cells #[.slice A1_0 l1_0.length c1_0] 37 (0, 0)) q7_2 hb);have n8_ := z7k (blk_below (g := gb429) (o := .cells #[.slice Ao41 t425.length co41] 25 (0, 0)) q7_4 hb);have n9_ := z7k (blk_below (g := gb433) (o := .cells #[.slice Ao47 t453.length co47] 25 (0, 0)) q7_6 hb);have n10_ := z7k (blk_below (g := gb437) (o := .cells #[.slice Ao56 t455.length co56] 25 (0, 0)) q7_7 hb);have n11_ := z7k (blk_below (g := gb442) (o := .cells #[.slice Ao65 t438.length co65] 25 (0, 0)) q7_8 hb);have n12_ := z7k (below_step q7_0 hb);clear HO_430000 HO_434000 HO_438000 HO_443000 HO462 BK415 BK416 BK429 BK433 BK437 BK442 HB;have HO_430000 := n0_;have HO_434000 := n1_;have HO_438000 := n2_;have HO_443000 := n3_;have HO462 := n4_;have HO465 := n5_;have BK415 := n6_;have BK416 := n7_;have BK429 := n8_;have BK433 := n9_;have BK437 := n10_;have BK442 := n11_;have HB := n12_;clear n0_ n1_ n2_ n3_ n4_ n5_ n6_ n7_ n8_ n9_ n10_ n11_ n12_;(try clear hb);(try clear hb2);(try clear hk);(try clear hi);(try clear ho0);obtain ⟨Ao186, co186, eo186⟩ := Kd.R_slice HO462.out;(first | subst eo186 | (injection eo186 with f1_ f2_ f3_; have f4_ := f1_.symm; have f5_ := f3_.symm; clear f1_ f2_ f3_; subst f4_; subst f5_));obtain ⟨Ao187, co187, eo187⟩ := Kd.R_slice HO465.out;(first | subst eo187 | (injection eo187 with f1_ f2_ f3_; have f4_ := f1_.symm; have f5_ := f3_.symm; clear f1_ f2_ f3_; subst f4_; subst f5_));refine hK.out _ _ ⟨(blk_cell BK415.out 0).trans rfl, (blk_cell BK416.out 0).trans rfl⟩ (fun hHeld => ?_);clear hK K;refine norm_ (a' := ?_) ?_ ?_;rotate_left
                ·show Act.put _ (some 98) _ = _
                 simp only [Act.put, z7a, z7b, z7c, i64_w, i32_w]
                 rfl
                refine two_ (i := 4) (j := 8) (Ni := some 99) (Nj := some 15) laws_FnExactFewJoin.D8 laws_FnExactFewJoin.D9 rfl rfl rfl rfl (two_of HT_.out (by kernel_rfl)) (by decide) (by decide) (fun K hK => ?_) (fun K hK => ?_)
                ·refine goes_ Try.func13 (by kernel_rfl) rfl #[.agg #[.slice Ao186 t460.length co186], .agg #[.slice Ao187 t463.length co187]] (by rfl) rfl rfl q7_5 ?_
                 with_reducible refine (impl_FewJoin.calls kj106 _ _ t460 _ _ t463 t466 t469 _ ?side1 ?side2 ?side3 ?side4 A172.out).mono ?_
                 (case side1 => exact q7_52);(case side2 => exact (Kd.R_reads' HO462.out).2.1);(case side3 => exact q7_53);(case side4 => exact (Kd.R_reads' HO465.out).2.1);rintro e w188 ⟨v467, rfl, ho0, hb⟩;refine ⟨_, rfl, ?_⟩;have n0_ := z7k (Kd.R_elder' q7_11 (Kd.R_base ho0) hb);have n1_ := z7k (Kd.R_elder' q7_12 (Kd.R_base ho0) hb);have n2_ := z7k (Kd.R_elder' q7_13 (Kd.R_base ho0) hb);have n3_ := z7k (Kd.R_elder' q7_14 (Kd.R_base ho0) hb);have n4_ := z7k (Kd.R_elder' q7_16 (Kd.R_base ho0) hb);have n5_ := z7k (Kd.R_elder' q7_32 (Kd.R_base ho0) hb);have n6_ := z7k (Kd.R_lower (Kd.R_new' (Kd.R_new' (Kd.R_new' (Kd.R_new' (Kd.R_new' (Kd.R_new' ho0 (Kd.R_lt q7_11)) (Kd.R_lt q7_12)) (Kd.R_lt q7_13)) (Kd.R_lt q7_14)) (Kd.R_lt q7_16)) (Kd.R_lt q7_32)) (below_size q7_0));have n7_ := z7k (blk_below (g := gb415) (o := .cells #[.slice A0_0 l0_0.length c0_0] 37 (0, 0)) q7_1 hb);have n8_ := z7k (blk_below (g := gb416) (o := .cells #[.slice A1_0 l1_0.length c1_0] 37 (0, 0)) q7_2 hb);have n9_ := z7k (blk_below (g := gb429) (o := .cells #[.slice Ao41 t425.length co41] 25 (0, 0)) q7_4 hb);have n10_ := z7k (blk_below (g := gb433) (o := .cells #[.slice Ao47 t453.length co47] 25 (0, 0)) q7_6 hb);have n11_ := z7k (blk_below (g := gb437) (o := .cells #[.slice Ao56 t455.length co56] 25 (0, 0)) q7_7 hb);have n12_ := z7k (blk_below (g := gb442) (o := .cells #[.slice Ao65 t438.length co65] 25 (0, 0)) q7_8 hb);have n13_ := z7k (below_step q7_0 hb);clear HO_430000 HO_434000 HO_438000 HO_443000 HO462 HO465 BK415 BK416 BK429 BK433 BK437 BK442 HB;have HO_430000 := n0_;have HO_434000 := n1_;have HO_438000 := n2_;have HO_443000 := n3_;have HO462 := n4_;have HO465 := n5_;have HO468 := n6_;have BK415 := n7_;have BK416 := n8_;have BK429 := n9_;have BK433 := n10_;have BK437 := n11_;have BK442 := n12_;have HB := n13_;clear n0_ n1_ n2_ n3_ n4_ n5_ n6_ n7_ n8_ n9_ n10_ n11_ n12_ n13_;(try clear hb);(try clear hb2);(try clear hk);(try clear hi);(try clear ho0);refine hK.out _ _ ⟨(blk_cell BK415.out 0).trans rfl, (blk_cell BK416.out 0).trans rfl⟩ (fun hHeld => ?_);clear hK K;refine norm_ (a' := ?_) ?_ ?_;rotate_left
                 ·show Act.put _ (some 99) _ = _
                  simp only [Act.put, z7a, z7b, z7c, i64_w, i32_w]
                  rfl
                 refine pure_ (i := 5) (N := some 94) (v := ?_) (a' := ?_) laws_FnExactFewJoin.D10 rfl rfl (any_of HT_.out (by kernel_rfl)) (fun _ _ _ h => h) (Or.inl ⟨by rfl, ?_⟩) ?_ ?_;rotate_left
                 ·intro w'
                  go_simp
                  with_reducible rfl
                 rotate_left
                 ·simp only [Act.put, z7a, z7b, z7c, i64_w, i32_w]
                  rfl
                 refine pure_ (i := 6) (N := some 100) (v := ?_) (a' := ?_) laws_FnExactFewJoin.D11 rfl rfl (any_of HT_.out (by kernel_rfl)) (fun _ _ _ h => h) (Or.inl ⟨by rfl, ?_⟩) ?_ ?_;rotate_left
                 ·intro w'
                  go_simp
                  with_reducible rfl
                 rotate_left
                 ·simp only [Act.put, z7a, z7b, z7c, i64_w, i32_w]
                  rfl
                 refine pure_ (i := 7) (N := some 101) (v := ?_) (a' := ?_) laws_FnExactFewJoin.D12 rfl rfl (any_of HT_.out (by kernel_rfl)) (fun _ _ _ h => h) (Or.inl ⟨by rfl, ?_⟩) ?_ ?_;rotate_left
                 ·intro w'
                  go_simp
                  with_reducible rfl
                 rotate_left
                 ·simp only [Act.put, z7a, z7b, z7c, i64_w, i32_w]
                  rfl
                 refine one_ (i := 8) (N := some 15) laws_FnExactFewJoin.D3 rfl rfl (one_of HT_.out (by kernel_rfl)) (by decide) (fun K hK => ?_);refine box_step ?hg (N := 15) ?hd (cs := #[.slice none 0 0]) (t := 25) ?hr ?_; (case hd => rfl); (case hg => rfl); (case hr => exact q7_47);intro gb470 hg w189 hbox hb;have n0_ := z7k (Kd.R_below q7_11 hb);have n1_ := z7k (Kd.R_below q7_12 hb);have n2_ := z7k (Kd.R_below q7_13 hb);have n3_ := z7k (Kd.R_below q7_14 hb);have n4_ := z7k (Kd.R_below q7_16 hb);have n5_ := z7k (Kd.R_below q7_32 hb);have n6_ := z7k (Kd.R_below (by (with_reducible repeat (first | apply Kd.R_alloc | apply Kd.R_drewN | apply Kd.R_drew)); exact HO468.out) hb);have n7_ := z7k (blk_below (g := gb415) (o := .cells #[.slice A0_0 l0_0.length c0_0] 37 (0, 0)) q7_1 hb);have n8_ := z7k (blk_below (g := gb416) (o := .cells #[.slice A1_0 l1_0.length c1_0] 37 (0, 0)) q7_2 hb);have n9_ := z7k (blk_below (g := gb429) (o := .cells #[.slice Ao41 t425.length co41] 25 (0, 0)) q7_4 hb);have n10_ := z7k (blk_below (g := gb433) (o := .cells #[.slice Ao47 t453.length co47] 25 (0, 0)) q7_6 hb);have n11_ := z7k (blk_below (g := gb437) (o := .cells #[.slice Ao56 t455.length co56] 25 (0, 0)) q7_7 hb);have n12_ := z7k (blk_below (g := gb442) (o := .cells #[.slice Ao65 t438.length co65] 25 (0, 0)) q7_8 hb);have n13_ := z7k (below_step q7_0 hb);have n14_ := z7k (hbox);have n15_ := z7k ((q7_109 : w.heap.size ≤ gb470));have n16_ := z7k ((q7_109 : w.heap.size ≤ gb470));have n17_ := z7k ((q7_19 : gb415 ≠ gb470));have n18_ := z7k ((q7_20 : gb470 ≠ gb415));have n19_ := z7k ((q7_27 : gb416 ≠ gb470));have n20_ := z7k ((q7_28 : gb470 ≠ gb416));have n21_ := z7k ((q7_44 : gb429 ≠ gb470));have n22_ := z7k ((q7_45 : gb470 ≠ gb429));have n23_ := z7k ((q7_64 : gb433 ≠ gb470));have n24_ := z7k ((q7_65 : gb470 ≠ gb433));have n25_ := z7k ((q7_66 : gb437 ≠ gb470));have n26_ := z7k ((q7_67 : gb470 ≠ gb437));have n27_ := z7k ((q7_68 : gb442 ≠ gb470));have n28_ := z7k ((q7_69 : gb470 ≠ gb442));clear HO_430000 HO_434000 HO_438000 HO_443000 HO462 HO465 HO468 BK415 BK416 BK429 BK433 BK437 BK442 HB;have HO_430000 := n0_;have HO_434000 := n1_;have HO_438000 := n2_;have HO_443000 := n3_;have HO462 := n4_;have HO465 := n5_;have HO468 := n6_;have BK415 := n7_;have BK416 := n8_;have BK429 := n9_;have BK433 := n10_;have BK437 := n11_;have BK442 := n12_;have HB := n13_;have BK470 := n14_;have GW470 := n15_;have GE470 := n16_;have NB415_470 := n17_;have NB470_415 := n18_;have NB416_470 := n19_;have NB470_416 := n20_;have NB429_470 := n21_;have NB470_429 := n22_;have NB433_470 := n23_;have NB470_433 := n24_;have NB437_470 := n25_;have NB470_437 := n26_;have NB442_470 := n27_;have NB470_442 := n28_;clear n0_ n1_ n2_ n3_ n4_ n5_ n6_ n7_ n8_ n9_ n10_ n11_ n12_ n13_ n14_ n15_ n16_ n17_ n18_ n19_ n20_ n21_ n22_ n23_ n24_ n25_ n26_ n27_ n28_ hb hbox hg;refine hK.out _ _ ⟨(blk_cell BK415.out 0).trans rfl, (blk_cell BK416.out 0).trans rfl⟩ (fun hHeld => ?_);clear hK K;refine norm_ (a' := ?_) ?_ ?_;rotate_left
                 ·show Act.put _ (some 15) _ = _
                  simp only [Act.put, z7a, z7b, z7c, i64_w, i32_w]
                  rfl
                 exact norm_ q7_46 (hCont (.slice Ao186 t460.length co186, .slice Ao187 t463.length co187, v467, gb470) _ ⟨hHeld, q7_41, q7_42, q7_43, q7_37, q7_38, q7_39, q7_40, q7_1, q7_2, q7_4, q7_6, q7_7, q7_8, q7_21, GW470.out, GE470.out, NB415_470.out, NB470_415.out, NB416_470.out, NB470_416.out, NB429_470.out, NB470_429.out, NB433_470.out, NB470_433.out, NB437_470.out, NB470_437.out, NB442_470.out, NB470_442.out, q7_3⟩)
                ·refine box_step ?hg (N := 15) ?hd (cs := #[.slice none 0 0]) (t := 25) ?hr ?_; (case hd => rfl); (case hg => rfl); (case hr => exact q7_47);intro gb470 hg w186 hbox hb;have n0_ := z7k (Kd.R_below q7_11 hb);have n1_ := z7k (Kd.R_below q7_12 hb);have n2_ := z7k (Kd.R_below q7_13 hb);have n3_ := z7k (Kd.R_below q7_14 hb);have n4_ := z7k (Kd.R_below q7_16 hb);have n5_ := z7k (Kd.R_below q7_32 hb);have n6_ := z7k (blk_below (g := gb415) (o := .cells #[.slice A0_0 l0_0.length c0_0] 37 (0, 0)) q7_1 hb);have n7_ := z7k (blk_below (g := gb416) (o := .cells #[.slice A1_0 l1_0.length c1_0] 37 (0, 0)) q7_2 hb);have n8_ := z7k (blk_below (g := gb429) (o := .cells #[.slice Ao41 t425.length co41] 25 (0, 0)) q7_4 hb);have n9_ := z7k (blk_below (g := gb433) (o := .cells #[.slice Ao47 t453.length co47] 25 (0, 0)) q7_6 hb);have n10_ := z7k (blk_below (g := gb437) (o := .cells #[.slice Ao56 t455.length co56] 25 (0, 0)) q7_7 hb);have n11_ := z7k (blk_below (g := gb442) (o := .cells #[.slice Ao65 t438.length co65] 25 (0, 0)) q7_8 hb);have n12_ := z7k (below_step q7_0 hb);have n13_ := z7k (hbox);have n14_ := z7k ((q7_109 : w.heap.size ≤ gb470));have n15_ := z7k ((q7_109 : w.heap.size ≤ gb470));have n16_ := z7k ((q7_19 : gb415 ≠ gb470));have n17_ := z7k ((q7_20 : gb470 ≠ gb415));have n18_ := z7k ((q7_27 : gb416 ≠ gb470));have n19_ := z7k ((q7_28 : gb470 ≠ gb416));have n20_ := z7k ((q7_44 : gb429 ≠ gb470));have n21_ := z7k ((q7_45 : gb470 ≠ gb429));have n22_ := z7k ((q7_64 : gb433 ≠ gb470));have n23_ := z7k ((q7_65 : gb470 ≠ gb433));have n24_ := z7k ((q7_66 : gb437 ≠ gb470));have n25_ := z7k ((q7_67 : gb470 ≠ gb437));have n26_ := z7k ((q7_68 : gb442 ≠ gb470));have n27_ := z7k ((q7_69 : gb470 ≠ gb442));clear HO_430000 HO_434000 HO_438000 HO_443000 HO462 HO465 BK415 BK416 BK429 BK433 BK437 BK442 HB;have HO_430000 := n0_;have HO_434000 := n1_;have HO_438000 := n2_;have HO_443000 := n3_;have HO462 := n4_;have HO465 := n5_;have BK415 := n6_;have BK416 := n7_;have BK429 := n8_;have BK433 := n9_;have BK437 := n10_;have BK442 := n11_;have HB := n12_;have BK470 := n13_;have GW470 := n14_;have GE470 := n15_;have NB415_470 := n16_;have NB470_415 := n17_;have NB416_470 := n18_;have NB470_416 := n19_;have NB429_470 := n20_;have NB470_429 := n21_;have NB433_470 := n22_;have NB470_433 := n23_;have NB437_470 := n24_;have NB470_437 := n25_;have NB442_470 := n26_;have NB470_442 := n27_;clear n0_ n1_ n2_ n3_ n4_ n5_ n6_ n7_ n8_ n9_ n10_ n11_ n12_ n13_ n14_ n15_ n16_ n17_ n18_ n19_ n20_ n21_ n22_ n23_ n24_ n25_ n26_ n27_ hb hbox hg;obtain ⟨Ao187, co187, eo187⟩ := Kd.R_slice HO462.out;(first | subst eo187 | (injection eo187 with f1_ f2_ f3_; have f4_ := f1_.symm; have f5_ := f3_.symm; clear f1_ f2_ f3_; subst f4_; subst f5_));obtain ⟨Ao188, co188, eo188⟩ := Kd.R_slice HO465.out;(first | subst eo188 | (injection eo188 with f1_ f2_ f3_; have f4_ := f1_.symm; have f5_ := f3_.symm; clear f1_ f2_ f3_; subst f4_; subst f5_));refine hK.out _ _ ⟨(blk_cell BK415.out 0).trans rfl, (blk_cell BK416.out 0).trans rfl⟩ (fun hHeld => ?_);clear hK K;refine norm_ (a' := ?_) ?_ ?_;rotate_left
                 ·show Act.put _ (some 15) _ = _
                  simp only [Act.put, z7a, z7b, z7c, i64_w, i32_w]
                  rfl
                 refine one_ (i := 4) (N := some 99) laws_FnExactFewJoin.D13 rfl rfl (one_of HT_.out (by kernel_rfl)) (by decide) (fun K hK => ?_);refine goes_ Try.func13 (by kernel_rfl) rfl #[.agg #[.slice Ao187 t460.length co187], .agg #[.slice Ao188 t463.length co188]] (by rfl) rfl rfl q7_5 ?_
                 with_reducible refine (impl_FewJoin.calls kj106 _ _ t460 _ _ t463 t466 t469 _ ?side1 ?side2 ?side3 ?side4 A172.out).mono ?_
                 (case side1 => exact q7_52);(case side2 => exact (Kd.R_reads' HO462.out).2.1);(case side3 => exact q7_53);(case side4 => exact (Kd.R_reads' HO465.out).2.1);rintro e w189 ⟨v467, rfl, ho0, hb⟩;refine ⟨_, rfl, ?_⟩;have n0_ := z7k (Kd.R_elder' q7_11 (Kd.R_base ho0) hb);have n1_ := z7k (Kd.R_elder' q7_12 (Kd.R_base ho0) hb);have n2_ := z7k (Kd.R_elder' q7_13 (Kd.R_base ho0) hb);have n3_ := z7k (Kd.R_elder' q7_14 (Kd.R_base ho0) hb);have n4_ := z7k (Kd.R_elder' q7_16 (Kd.R_base ho0) hb);have n5_ := z7k (Kd.R_elder' q7_32 (Kd.R_base ho0) hb);have n6_ := z7k (Kd.R_lower (Kd.R_new' (Kd.R_new' (Kd.R_new' (Kd.R_new' (Kd.R_new' (Kd.R_new' ho0 (Kd.R_lt q7_11)) (Kd.R_lt q7_12)) (Kd.R_lt q7_13)) (Kd.R_lt q7_14)) (Kd.R_lt q7_16)) (Kd.R_lt q7_32)) (below_size q7_3));have n7_ := z7k (blk_below (g := gb415) (o := .cells #[.slice A0_0 l0_0.length c0_0] 37 (0, 0)) q7_1 hb);have n8_ := z7k (blk_below (g := gb416) (o := .cells #[.slice A1_0 l1_0.length c1_0] 37 (0, 0)) q7_2 hb);have n9_ := z7k (blk_below (g := gb429) (o := .cells #[.slice Ao41 t425.length co41] 25 (0, 0)) q7_4 hb);have n10_ := z7k (blk_below (g := gb433) (o := .cells #[.slice Ao47 t453.length co47] 25 (0, 0)) q7_6 hb);have n11_ := z7k (blk_below (g := gb437) (o := .cells #[.slice Ao56 t455.length co56] 25 (0, 0)) q7_7 hb);have n12_ := z7k (blk_below (g := gb442) (o := .cells #[.slice Ao65 t438.length co65] 25 (0, 0)) q7_8 hb);have n13_ := z7k (blk_below (g := gb470) (o := .cells #[.slice none 0 0] 25 (0, 0)) q7_21 hb);have n14_ := z7k (below_step q7_3 hb);clear HO_430000 HO_434000 HO_438000 HO_443000 HO462 HO465 BK415 BK416 BK429 BK433 BK437 BK442 BK470 HB;have HO_430000 := n0_;have HO_434000 := n1_;have HO_438000 := n2_;have HO_443000 := n3_;have HO462 := n4_;have HO465 := n5_;have HO468 := n6_;have BK415 := n7_;have BK416 := n8_;have BK429 := n9_;have BK433 := n10_;have BK437 := n11_;have BK442 := n12_;have BK470 := n13_;have HB := n14_;clear n0_ n1_ n2_ n3_ n4_ n5_ n6_ n7_ n8_ n9_ n10_ n11_ n12_ n13_ n14_;(try clear hb);(try clear hb2);(try clear hk);(try clear hi);(try clear ho0);refine hK.out _ _ ⟨(blk_cell BK415.out 0).trans rfl, (blk_cell BK416.out 0).trans rfl⟩ (fun hHeld => ?_);clear hK K;refine norm_ (a' := ?_) ?_ ?_;rotate_left
                 ·show Act.put _ (some 99) _ = _
                  simp only [Act.put, z7a, z7b, z7c, i64_w, i32_w]
                  rfl
                 refine pure_ (i := 5) (N := some 94) (v := ?_) (a' := ?_) laws_FnExactFewJoin.D14 rfl rfl (any_of HT_.out (by kernel_rfl)) (fun _ _ _ h => h) (Or.inl ⟨by rfl, ?_⟩) ?_ ?_;rotate_left
                 ·intro w'
                  go_simp
                  with_reducible rfl
                 rotate_left
                 ·simp only [Act.put, z7a, z7b, z7c, i64_w, i32_w]
                  rfl
                 refine pure_ (i := 6) (N := some 100) (v := ?_) (a' := ?_) laws_FnExactFewJoin.D15 rfl rfl (any_of HT_.out (by kernel_rfl)) (fun _ _ _ h => h) (Or.inl ⟨by rfl, ?_⟩) ?_ ?_;rotate_left
                 ·intro w'
                  go_simp
                  with_reducible rfl
                 rotate_left
                 ·simp only [Act.put, z7a, z7b, z7c, i64_w, i32_w]
                  rfl
                 refine pure_ (i := 7) (N := some 101) (v := ?_) (a' := ?_) laws_FnExactFewJoin.D3 rfl rfl (any_of HT_.out (by kernel_rfl)) (fun _ _ _ h => h) (Or.inl ⟨by rfl, ?_⟩) ?_ ?_;rotate_left
                 ·intro w'
                  go_simp
                  with_reducible rfl
                 rotate_left
                 ·simp only [Act.put, z7a, z7b, z7c, i64_w, i32_w]
                  rfl
                 exact norm_ q7_46 (hCont (.slice Ao187 t460.length co187, .slice Ao188 t463.length co188, v467, gb470) _ ⟨hHeld, q7_41, q7_42, q7_43, q7_37, q7_38, q7_39, q7_40, q7_1, q7_2, q7_4, q7_6, q7_7, q7_8, q7_21, GW470.out, GE470.out, NB415_470.out, NB470_415.out, NB416_470.out, NB470_416.out, NB429_470.out, NB470_429.out, NB433_470.out, NB470_433.out, NB437_470.out, NB470_437.out, NB442_470.out, NB470_442.out, q7_3⟩)
               ·refine box_step ?hg (N := 15) ?hd (cs := #[.slice none 0 0]) (t := 25) ?hr ?_; (case hd => rfl); (case hg => rfl); (case hr => exact q7_47);intro gb470 hg w185 hbox hb;have n0_ := z7k (Kd.R_below q7_11 hb);have n1_ := z7k (Kd.R_below q7_12 hb);have n2_ := z7k (Kd.R_below q7_13 hb);have n3_ := z7k (Kd.R_below q7_14 hb);have n4_ := z7k (Kd.R_below q7_16 hb);have n5_ := z7k (blk_below (g := gb415) (o := .cells #[.slice A0_0 l0_0.length c0_0] 37 (0, 0)) q7_1 hb);have n6_ := z7k (blk_below (g := gb416) (o := .cells #[.slice A1_0 l1_0.length c1_0] 37 (0, 0)) q7_2 hb);have n7_ := z7k (blk_below (g := gb429) (o := .cells #[.slice Ao41 t425.length co41] 25 (0, 0)) q7_4 hb);have n8_ := z7k (blk_below (g := gb433) (o := .cells #[.slice Ao47 t453.length co47] 25 (0, 0)) q7_6 hb);have n9_ := z7k (blk_below (g := gb437) (o := .cells #[.slice Ao56 t455.length co56] 25 (0, 0)) q7_7 hb);have n10_ := z7k (blk_below (g := gb442) (o := .cells #[.slice Ao65 t438.length co65] 25 (0, 0)) q7_8 hb);have n11_ := z7k (below_step q7_0 hb);have n12_ := z7k (hbox);have n13_ := z7k ((q7_109 : w.heap.size ≤ gb470));have n14_ := z7k ((q7_109 : w.heap.size ≤ gb470));have n15_ := z7k ((q7_19 : gb415 ≠ gb470));have n16_ := z7k ((q7_20 : gb470 ≠ gb415));have n17_ := z7k ((q7_27 : gb416 ≠ gb470));have n18_ := z7k ((q7_28 : gb470 ≠ gb416));have n19_ := z7k ((q7_44 : gb429 ≠ gb470));have n20_ := z7k ((q7_45 : gb470 ≠ gb429));have n21_ := z7k ((q7_64 : gb433 ≠ gb470));have n22_ := z7k ((q7_65 : gb470 ≠ gb433));have n23_ := z7k ((q7_66 : gb437 ≠ gb470));have n24_ := z7k ((q7_67 : gb470 ≠ gb437));have n25_ := z7k ((q7_68 : gb442 ≠ gb470));have n26_ := z7k ((q7_69 : gb470 ≠ gb442));clear HO_430000 HO_434000 HO_438000 HO_443000 HO462 BK415 BK416 BK429 BK433 BK437 BK442 HB;have HO_430000 := n0_;have HO_434000 := n1_;have HO_438000 := n2_;have HO_443000 := n3_;have HO462 := n4_;have BK415 := n5_;have BK416 := n6_;have BK429 := n7_;have BK433 := n8_;have BK437 := n9_;have BK442 := n10_;have HB := n11_;have BK470 := n12_;have GW470 := n13_;have GE470 := n14_;have NB415_470 := n15_;have NB470_415 := n16_;have NB416_470 := n17_;have NB470_416 := n18_;have NB429_470 := n19_;have NB470_429 := n20_;have NB433_470 := n21_;have NB470_433 := n22_;have NB437_470 := n23_;have NB470_437 := n24_;have NB442_470 := n25_;have NB470_442 := n26_;clear n0_ n1_ n2_ n3_ n4_ n5_ n6_ n7_ n8_ n9_ n10_ n11_ n12_ n13_ n14_ n15_ n16_ n17_ n18_ n19_ n20_ n21_ n22_ n23_ n24_ n25_ n26_ hb hbox hg;refine hK.out _ _ ⟨(blk_cell BK415.out 0).trans rfl, (blk_cell BK416.out 0).trans rfl⟩ (fun hHeld => ?_);clear hK K;refine norm_ (a' := ?_) ?_ ?_;rotate_left
                ·show Act.put _ (some 15) _ = _
                 simp only [Act.put, z7a, z7b, z7c, i64_w, i32_w]
                 rfl
                refine one_ (i := 3) (N := some 98) laws_FnExactFewJoin.D9 rfl rfl (one_of HT_.out (by kernel_rfl)) (by decide) (fun K hK => ?_);refine goes_ Try.func20 (by kernel_rfl) rfl #[.agg #[.slice A1_0 l1_0.length c1_0]] (by rfl) rfl rfl q7_5 ?_
                with_reducible refine (laws_toFew.calls kj106 _ _ l1_0 t463 _ ?side1 ?side2 A171.out).mono ?_
                (case side1 => exact q7_18);(case side2 => exact HC1_0.out);rintro e w186 ⟨v464, rfl, ho0, hb⟩;refine ⟨_, rfl, ?_⟩;have n0_ := z7k (Kd.R_elder' q7_11 (Kd.R_base ho0) hb);have n1_ := z7k (Kd.R_elder' q7_12 (Kd.R_base ho0) hb);have n2_ := z7k (Kd.R_elder' q7_13 (Kd.R_base ho0) hb);have n3_ := z7k (Kd.R_elder' q7_14 (Kd.R_base ho0) hb);have n4_ := z7k (Kd.R_elder' q7_16 (Kd.R_base ho0) hb);have n5_ := z7k (Kd.R_lower (Kd.R_new' (Kd.R_new' (Kd.R_new' (Kd.R_new' (Kd.R_new' ho0 (Kd.R_lt q7_11)) (Kd.R_lt q7_12)) (Kd.R_lt q7_13)) (Kd.R_lt q7_14)) (Kd.R_lt q7_16)) (below_size q7_3));have n6_ := z7k (blk_below (g := gb415) (o := .cells #[.slice A0_0 l0_0.length c0_0] 37 (0, 0)) q7_1 hb);have n7_ := z7k (blk_below (g := gb416) (o := .cells #[.slice A1_0 l1_0.length c1_0] 37 (0, 0)) q7_2 hb);have n8_ := z7k (blk_below (g := gb429) (o := .cells #[.slice Ao41 t425.length co41] 25 (0, 0)) q7_4 hb);have n9_ := z7k (blk_below (g := gb433) (o := .cells #[.slice Ao47 t453.length co47] 25 (0, 0)) q7_6 hb);have n10_ := z7k (blk_below (g := gb437) (o := .cells #[.slice Ao56 t455.length co56] 25 (0, 0)) q7_7 hb);have n11_ := z7k (blk_below (g := gb442) (o := .cells #[.slice Ao65 t438.length co65] 25 (0, 0)) q7_8 hb);have n12_ := z7k (blk_below (g := gb470) (o := .cells #[.slice none 0 0] 25 (0, 0)) q7_21 hb);have n13_ := z7k (below_step q7_3 hb);clear HO_430000 HO_434000 HO_438000 HO_443000 HO462 BK415 BK416 BK429 BK433 BK437 BK442 BK470 HB;have HO_430000 := n0_;have HO_434000 := n1_;have HO_438000 := n2_;have HO_443000 := n3_;have HO462 := n4_;have HO465 := n5_;have BK415 := n6_;have BK416 := n7_;have BK429 := n8_;have BK433 := n9_;have BK437 := n10_;have BK442 := n11_;have BK470 := n12_;have HB := n13_;clear n0_ n1_ n2_ n3_ n4_ n5_ n6_ n7_ n8_ n9_ n10_ n11_ n12_ n13_;(try clear hb);(try clear hb2);(try clear hk);(try clear hi);(try clear ho0);obtain ⟨Ao187, co187, eo187⟩ := Kd.R_slice HO462.out;(first | subst eo187 | (injection eo187 with f1_ f2_ f3_; have f4_ := f1_.symm; have f5_ := f3_.symm; clear f1_ f2_ f3_; subst f4_; subst f5_));obtain ⟨Ao188, co188, eo188⟩ := Kd.R_slice HO465.out;(first | subst eo188 | (injection eo188 with f1_ f2_ f3_; have f4_ := f1_.symm; have f5_ := f3_.symm; clear f1_ f2_ f3_; subst f4_; subst f5_));refine hK.out _ _ ⟨(blk_cell BK415.out 0).trans rfl, (blk_cell BK416.out 0).trans rfl⟩ (fun hHeld => ?_);clear hK K;refine norm_ (a' := ?_) ?_ ?_;rotate_left
                ·show Act.put _ (some 98) _ = _
                 simp only [Act.put, z7a, z7b, z7c, i64_w, i32_w]
                 rfl
                refine one_ (i := 4) (N := some 99) laws_FnExactFewJoin.D13 rfl rfl (one_of HT_.out (by kernel_rfl)) (by decide) (fun K hK => ?_);refine goes_ Try.func13 (by kernel_rfl) rfl #[.agg #[.slice Ao187 t460.length co187], .agg #[.slice Ao188 t463.length co188]] (by rfl) rfl rfl q7_5 ?_
                with_reducible refine (impl_FewJoin.calls kj106 _ _ t460 _ _ t463 t466 t469 _ ?side1 ?side2 ?side3 ?side4 A172.out).mono ?_
                (case side1 => exact q7_52);(case side2 => exact (Kd.R_reads' HO462.out).2.1);(case side3 => exact q7_53);(case side4 => exact (Kd.R_reads' HO465.out).2.1);rintro e w189 ⟨v467, rfl, ho0, hb⟩;refine ⟨_, rfl, ?_⟩;have n0_ := z7k (Kd.R_elder' q7_11 (Kd.R_base ho0) hb);have n1_ := z7k (Kd.R_elder' q7_12 (Kd.R_base ho0) hb);have n2_ := z7k (Kd.R_elder' q7_13 (Kd.R_base ho0) hb);have n3_ := z7k (Kd.R_elder' q7_14 (Kd.R_base ho0) hb);have n4_ := z7k (Kd.R_elder' q7_16 (Kd.R_base ho0) hb);have n5_ := z7k (Kd.R_elder' q7_32 (Kd.R_base ho0) hb);have n6_ := z7k (Kd.R_lower (Kd.R_new' (Kd.R_new' (Kd.R_new' (Kd.R_new' (Kd.R_new' (Kd.R_new' ho0 (Kd.R_lt q7_11)) (Kd.R_lt q7_12)) (Kd.R_lt q7_13)) (Kd.R_lt q7_14)) (Kd.R_lt q7_16)) (Kd.R_lt q7_32)) (below_size q7_3));have n7_ := z7k (blk_below (g := gb415) (o := .cells #[.slice A0_0 l0_0.length c0_0] 37 (0, 0)) q7_1 hb);have n8_ := z7k (blk_below (g := gb416) (o := .cells #[.slice A1_0 l1_0.length c1_0] 37 (0, 0)) q7_2 hb);have n9_ := z7k (blk_below (g := gb429) (o := .cells #[.slice Ao41 t425.length co41] 25 (0, 0)) q7_4 hb);have n10_ := z7k (blk_below (g := gb433) (o := .cells #[.slice Ao47 t453.length co47] 25 (0, 0)) q7_6 hb);have n11_ := z7k (blk_below (g := gb437) (o := .cells #[.slice Ao56 t455.length co56] 25 (0, 0)) q7_7 hb);have n12_ := z7k (blk_below (g := gb442) (o := .cells #[.slice Ao65 t438.length co65] 25 (0, 0)) q7_8 hb);have n13_ := z7k (blk_below (g := gb470) (o := .cells #[.slice none 0 0] 25 (0, 0)) q7_21 hb);have n14_ := z7k (below_step q7_3 hb);clear HO_430000 HO_434000 HO_438000 HO_443000 HO462 HO465 BK415 BK416 BK429 BK433 BK437 BK442 BK470 HB;have HO_430000 := n0_;have HO_434000 := n1_;have HO_438000 := n2_;have HO_443000 := n3_;have HO462 := n4_;have HO465 := n5_;have HO468 := n6_;have BK415 := n7_;have BK416 := n8_;have BK429 := n9_;have BK433 := n10_;have BK437 := n11_;have BK442 := n12_;have BK470 := n13_;have HB := n14_;clear n0_ n1_ n2_ n3_ n4_ n5_ n6_ n7_ n8_ n9_ n10_ n11_ n12_ n13_ n14_;(try clear hb);(try clear hb2);(try clear hk);(try clear hi);(try clear ho0);refine hK.out _ _ ⟨(blk_cell BK415.out 0).trans rfl, (blk_cell BK416.out 0).trans rfl⟩ (fun hHeld => ?_);clear hK K;refine norm_ (a' := ?_) ?_ ?_;rotate_left
                ·show Act.put _ (some 99) _ = _
                 simp only [Act.put, z7a, z7b, z7c, i64_w, i32_w]
                 rfl
                refine pure_ (i := 5) (N := some 94) (v := ?_) (a' := ?_) laws_FnExactFewJoin.D14 rfl rfl (any_of HT_.out (by kernel_rfl)) (fun _ _ _ h => h) (Or.inl ⟨by rfl, ?_⟩) ?_ ?_;rotate_left
                ·intro w'
                 go_simp
                 with_reducible rfl
                rotate_left
                ·simp only [Act.put, z7a, z7b, z7c, i64_w, i32_w]
                 rfl
                refine pure_ (i := 6) (N := some 100) (v := ?_) (a' := ?_) laws_FnExactFewJoin.D15 rfl rfl (any_of HT_.out (by kernel_rfl)) (fun _ _ _ h => h) (Or.inl ⟨by rfl, ?_⟩) ?_ ?_;rotate_left
                ·intro w'
                 go_simp
                 with_reducible rfl
                rotate_left
                ·simp only [Act.put, z7a, z7b, z7c, i64_w, i32_w]
                 rfl
                refine pure_ (i := 7) (N := some 101) (v := ?_) (a' := ?_) laws_FnExactFewJoin.D3 rfl rfl (any_of HT_.out (by kernel_rfl)) (fun _ _ _ h => h) (Or.inl ⟨by rfl, ?_⟩) ?_ ?_;rotate_left
                ·intro w'
                 go_simp
                 with_reducible rfl
                rotate_left
                ·simp only [Act.put, z7a, z7b, z7c, i64_w, i32_w]
                 rfl
                exact norm_ q7_46 (hCont (.slice Ao187 t460.length co187, .slice Ao188 t463.length co188, v467, gb470) _ ⟨hHeld, q7_41, q7_42, q7_43, q7_37, q7_38, q7_39, q7_40, q7_1, q7_2, q7_4, q7_6, q7_7, q7_8, q7_21, GW470.out, GE470.out, NB415_470.out, NB470_415.out, NB416_470.out, NB470_416.out, NB429_470.out, NB470_429.out, NB433_470.out, NB470_433.out, NB437_470.out, NB470_437.out, NB442_470.out, NB470_442.out, q7_3⟩)
              ·refine box_step ?hg (N := 15) ?hd (cs := #[.slice none 0 0]) (t := 25) ?hr ?_; (case hd => rfl); (case hg => rfl); (case hr => exact q7_47);intro gb470 hg w184 hbox hb;have n0_ := z7k (Kd.R_below q7_11 hb);have n1_ := z7k (Kd.R_below q7_12 hb);have n2_ := z7k (Kd.R_below q7_13 hb);have n3_ := z7k (Kd.R_below q7_14 hb);have n4_ := z7k (blk_below (g := gb415) (o := .cells #[.slice A0_0 l0_0.length c0_0] 37 (0, 0)) q7_1 hb);have n5_ := z7k (blk_below (g := gb416) (o := .cells #[.slice A1_0 l1_0.length c1_0] 37 (0, 0)) q7_2 hb);have n6_ := z7k (blk_below (g := gb429) (o := .cells #[.slice Ao41 t425.length co41] 25 (0, 0)) q7_4 hb);have n7_ := z7k (blk_below (g := gb433) (o := .cells #[.slice Ao47 t453.length co47] 25 (0, 0)) q7_6 hb);have n8_ := z7k (blk_below (g := gb437) (o := .cells #[.slice Ao56 t455.length co56] 25 (0, 0)) q7_7 hb);have n9_ := z7k (blk_below (g := gb442) (o := .cells #[.slice Ao65 t438.length co65] 25 (0, 0)) q7_8 hb);have n10_ := z7k (below_step q7_0 hb);have n11_ := z7k (hbox);have n12_ := z7k ((q7_109 : w.heap.size ≤ gb470));have n13_ := z7k ((q7_109 : w.heap.size ≤ gb470));have n14_ := z7k ((q7_19 : gb415 ≠ gb470));have n15_ := z7k ((q7_20 : gb470 ≠ gb415));have n16_ := z7k ((q7_27 : gb416 ≠ gb470));have n17_ := z7k ((q7_28 : gb470 ≠ gb416));have n18_ := z7k ((q7_44 : gb429 ≠ gb470));have n19_ := z7k ((q7_45 : gb470 ≠ gb429));have n20_ := z7k ((q7_64 : gb433 ≠ gb470));have n21_ := z7k ((q7_65 : gb470 ≠ gb433));have n22_ := z7k ((q7_66 : gb437 ≠ gb470));have n23_ := z7k ((q7_67 : gb470 ≠ gb437));have n24_ := z7k ((q7_68 : gb442 ≠ gb470));have n25_ := z7k ((q7_69 : gb470 ≠ gb442));clear HO_430000 HO_434000 HO_438000 HO_443000 BK415 BK416 BK429 BK433 BK437 BK442 HB;have HO_430000 := n0_;have HO_434000 := n1_;have HO_438000 := n2_;have HO_443000 := n3_;have BK415 := n4_;have BK416 := n5_;have BK429 := n6_;have BK433 := n7_;have BK437 := n8_;have BK442 := n9_;have HB := n10_;have BK470 := n11_;have GW470 := n12_;have GE470 := n13_;have NB415_470 := n14_;have NB470_415 := n15_;have NB416_470 := n16_;have NB470_416 := n17_;have NB429_470 := n18_;have NB470_429 := n19_;have NB433_470 := n20_;have NB470_433 := n21_;have NB437_470 := n22_;have NB470_437 := n23_;have NB442_470 := n24_;have NB470_442 := n25_;clear n0_ n1_ n2_ n3_ n4_ n5_ n6_ n7_ n8_ n9_ n10_ n11_ n12_ n13_ n14_ n15_ n16_ n17_ n18_ n19_ n20_ n21_ n22_ n23_ n24_ n25_ hb hbox hg;refine hK.out _ _ ⟨(blk_cell BK415.out 0).trans rfl, (blk_cell BK416.out 0).trans rfl⟩ (fun hHeld => ?_);clear hK K;refine norm_ (a' := ?_) ?_ ?_;rotate_left
               ·show Act.put _ (some 15) _ = _
                simp only [Act.put, z7a, z7b, z7c, i64_w, i32_w]
                rfl
               refine one_ (i := 1) (N := some 96) laws_FnExactFewJoin.D7 rfl rfl (one_of HT_.out (by kernel_rfl)) (by decide) (fun K hK => ?_);refine goes_ Try.func20 (by kernel_rfl) rfl #[.agg #[.slice A0_0 l0_0.length c0_0]] (by rfl) rfl rfl q7_5 ?_
               with_reducible refine (laws_toFew.calls kj106 _ _ l0_0 t460 _ ?side1 ?side2 A170.out).mono ?_
               (case side1 => exact q7_17);(case side2 => exact HC0_0.out);rintro e w185 ⟨v461, rfl, ho0, hb⟩;refine ⟨_, rfl, ?_⟩;have n0_ := z7k (Kd.R_elder' q7_11 (Kd.R_base ho0) hb);have n1_ := z7k (Kd.R_elder' q7_12 (Kd.R_base ho0) hb);have n2_ := z7k (Kd.R_elder' q7_13 (Kd.R_base ho0) hb);have n3_ := z7k (Kd.R_elder' q7_14 (Kd.R_base ho0) hb);have n4_ := z7k (Kd.R_lower (Kd.R_new' (Kd.R_new' (Kd.R_new' (Kd.R_new' ho0 (Kd.R_lt q7_11)) (Kd.R_lt q7_12)) (Kd.R_lt q7_13)) (Kd.R_lt q7_14)) (below_size q7_3));have n5_ := z7k (blk_below (g := gb415) (o := .cells #[.slice A0_0 l0_0.length c0_0] 37 (0, 0)) q7_1 hb);have n6_ := z7k (blk_below (g := gb416) (o := .cells #[.slice A1_0 l1_0.length c1_0] 37 (0, 0)) q7_2 hb);have n7_ := z7k (blk_below (g := gb429) (o := .cells #[.slice Ao41 t425.length co41] 25 (0, 0)) q7_4 hb);have n8_ := z7k (blk_below (g := gb433) (o := .cells #[.slice Ao47 t453.length co47] 25 (0, 0)) q7_6 hb);have n9_ := z7k (blk_below (g := gb437) (o := .cells #[.slice Ao56 t455.length co56] 25 (0, 0)) q7_7 hb);have n10_ := z7k (blk_below (g := gb442) (o := .cells #[.slice Ao65 t438.length co65] 25 (0, 0)) q7_8 hb);have n11_ := z7k (blk_below (g := gb470) (o := .cells #[.slice none 0 0] 25 (0, 0)) q7_21 hb);have n12_ := z7k (below_step q7_3 hb);clear HO_430000 HO_434000 HO_438000 HO_443000 BK415 BK416 BK429 BK433 BK437 BK442 BK470 HB;have HO_430000 := n0_;have HO_434000 := n1_;have HO_438000 := n2_;have HO_443000 := n3_;have HO462 := n4_;have BK415 := n5_;have BK416 := n6_;have BK429 := n7_;have BK433 := n8_;have BK437 := n9_;have BK442 := n10_;have BK470 := n11_;have HB := n12_;clear n0_ n1_ n2_ n3_ n4_ n5_ n6_ n7_ n8_ n9_ n10_ n11_ n12_;(try clear hb);(try clear hb2);(try clear hk);(try clear hi);(try clear ho0);refine hK.out _ _ ⟨(blk_cell BK415.out 0).trans rfl, (blk_cell BK416.out 0).trans rfl⟩ (fun hHeld => ?_);clear hK K;refine norm_ (a' := ?_) ?_ ?_;rotate_left
               ·show Act.put _ (some 96) _ = _
                simp only [Act.put, z7a, z7b, z7c, i64_w, i32_w]
                rfl
               refine one_ (i := 3) (N := some 98) laws_FnExactFewJoin.D9 rfl rfl (one_of HT_.out (by kernel_rfl)) (by decide) (fun K hK => ?_);refine goes_ Try.func20 (by kernel_rfl) rfl #[.agg #[.slice A1_0 l1_0.length c1_0]] (by rfl) rfl rfl q7_5 ?_
               with_reducible refine (laws_toFew.calls kj106 _ _ l1_0 t463 _ ?side1 ?side2 A171.out).mono ?_
               (case side1 => exact q7_18);(case side2 => exact HC1_0.out);rintro e w186 ⟨v464, rfl, ho0, hb⟩;refine ⟨_, rfl, ?_⟩;have n0_ := z7k (Kd.R_elder' q7_11 (Kd.R_base ho0) hb);have n1_ := z7k (Kd.R_elder' q7_12 (Kd.R_base ho0) hb);have n2_ := z7k (Kd.R_elder' q7_13 (Kd.R_base ho0) hb);have n3_ := z7k (Kd.R_elder' q7_14 (Kd.R_base ho0) hb);have n4_ := z7k (Kd.R_elder' q7_16 (Kd.R_base ho0) hb);have n5_ := z7k (Kd.R_lower (Kd.R_new' (Kd.R_new' (Kd.R_new' (Kd.R_new' (Kd.R_new' ho0 (Kd.R_lt q7_11)) (Kd.R_lt q7_12)) (Kd.R_lt q7_13)) (Kd.R_lt q7_14)) (Kd.R_lt q7_16)) (below_size q7_3));have n6_ := z7k (blk_below (g := gb415) (o := .cells #[.slice A0_0 l0_0.length c0_0] 37 (0, 0)) q7_1 hb);have n7_ := z7k (blk_below (g := gb416) (o := .cells #[.slice A1_0 l1_0.length c1_0] 37 (0, 0)) q7_2 hb);have n8_ := z7k (blk_below (g := gb429) (o := .cells #[.slice Ao41 t425.length co41] 25 (0, 0)) q7_4 hb);have n9_ := z7k (blk_below (g := gb433) (o := .cells #[.slice Ao47 t453.length co47] 25 (0, 0)) q7_6 hb);have n10_ := z7k (blk_below (g := gb437) (o := .cells #[.slice Ao56 t455.length co56] 25 (0, 0)) q7_7 hb);have n11_ := z7k (blk_below (g := gb442) (o := .cells #[.slice Ao65 t438.length co65] 25 (0, 0)) q7_8 hb);have n12_ := z7k (blk_below (g := gb470) (o := .cells #[.slice none 0 0] 25 (0, 0)) q7_21 hb);have n13_ := z7k (below_step q7_3 hb);clear HO_430000 HO_434000 HO_438000 HO_443000 HO462 BK415 BK416 BK429 BK433 BK437 BK442 BK470 HB;have HO_430000 := n0_;have HO_434000 := n1_;have HO_438000 := n2_;have HO_443000 := n3_;have HO462 := n4_;have HO465 := n5_;have BK415 := n6_;have BK416 := n7_;have BK429 := n8_;have BK433 := n9_;have BK437 := n10_;have BK442 := n11_;have BK470 := n12_;have HB := n13_;clear n0_ n1_ n2_ n3_ n4_ n5_ n6_ n7_ n8_ n9_ n10_ n11_ n12_ n13_;(try clear hb);(try clear hb2);(try clear hk);(try clear hi);(try clear ho0);obtain ⟨Ao187, co187, eo187⟩ := Kd.R_slice HO462.out;(first | subst eo187 | (injection eo187 with f1_ f2_ f3_; have f4_ := f1_.symm; have f5_ := f3_.symm; clear f1_ f2_ f3_; subst f4_; subst f5_));obtain ⟨Ao188, co188, eo188⟩ := Kd.R_slice HO465.out;(first | subst eo188 | (injection eo188 with f1_ f2_ f3_; have f4_ := f1_.symm; have f5_ := f3_.symm; clear f1_ f2_ f3_; subst f4_; subst f5_));refine hK.out _ _ ⟨(blk_cell BK415.out 0).trans rfl, (blk_cell BK416.out 0).trans rfl⟩ (fun hHeld => ?_);clear hK K;refine norm_ (a' := ?_) ?_ ?_;rotate_left
               ·show Act.put _ (some 98) _ = _
                simp only [Act.put, z7a, z7b, z7c, i64_w, i32_w]
                rfl
               refine one_ (i := 4) (N := some 99) laws_FnExactFewJoin.D13 rfl rfl (one_of HT_.out (by kernel_rfl)) (by decide) (fun K hK => ?_);refine goes_ Try.func13 (by kernel_rfl) rfl #[.agg #[.slice Ao187 t460.length co187], .agg #[.slice Ao188 t463.length co188]] (by rfl) rfl rfl q7_5 ?_
               with_reducible refine (impl_FewJoin.calls kj106 _ _ t460 _ _ t463 t466 t469 _ ?side1 ?side2 ?side3 ?side4 A172.out).mono ?_
               (case side1 => exact q7_52);(case side2 => exact (Kd.R_reads' HO462.out).2.1);(case side3 => exact q7_53);(case side4 => exact (Kd.R_reads' HO465.out).2.1);rintro e w189 ⟨v467, rfl, ho0, hb⟩;refine ⟨_, rfl, ?_⟩;have n0_ := z7k (Kd.R_elder' q7_11 (Kd.R_base ho0) hb);have n1_ := z7k (Kd.R_elder' q7_12 (Kd.R_base ho0) hb);have n2_ := z7k (Kd.R_elder' q7_13 (Kd.R_base ho0) hb);have n3_ := z7k (Kd.R_elder' q7_14 (Kd.R_base ho0) hb);have n4_ := z7k (Kd.R_elder' q7_16 (Kd.R_base ho0) hb);have n5_ := z7k (Kd.R_elder' q7_32 (Kd.R_base ho0) hb);have n6_ := z7k (Kd.R_lower (Kd.R_new' (Kd.R_new' (Kd.R_new' (Kd.R_new' (Kd.R_new' (Kd.R_new' ho0 (Kd.R_lt q7_11)) (Kd.R_lt q7_12)) (Kd.R_lt q7_13)) (Kd.R_lt q7_14)) (Kd.R_lt q7_16)) (Kd.R_lt q7_32)) (below_size q7_3));have n7_ := z7k (blk_below (g := gb415) (o := .cells #[.slice A0_0 l0_0.length c0_0] 37 (0, 0)) q7_1 hb);have n8_ := z7k (blk_below (g := gb416) (o := .cells #[.slice A1_0 l1_0.length c1_0] 37 (0, 0)) q7_2 hb);have n9_ := z7k (blk_below (g := gb429) (o := .cells #[.slice Ao41 t425.length co41] 25 (0, 0)) q7_4 hb);have n10_ := z7k (blk_below (g := gb433) (o := .cells #[.slice Ao47 t453.length co47] 25 (0, 0)) q7_6 hb);have n11_ := z7k (blk_below (g := gb437) (o := .cells #[.slice Ao56 t455.length co56] 25 (0, 0)) q7_7 hb);have n12_ := z7k (blk_below (g := gb442) (o := .cells #[.slice Ao65 t438.length co65] 25 (0, 0)) q7_8 hb);have n13_ := z7k (blk_below (g := gb470) (o := .cells #[.slice none 0 0] 25 (0, 0)) q7_21 hb);have n14_ := z7k (below_step q7_3 hb);clear HO_430000 HO_434000 HO_438000 HO_443000 HO462 HO465 BK415 BK416 BK429 BK433 BK437 BK442 BK470 HB;have HO_430000 := n0_;have HO_434000 := n1_;have HO_438000 := n2_;have HO_443000 := n3_;have HO462 := n4_;have HO465 := n5_;have HO468 := n6_;have BK415 := n7_;have BK416 := n8_;have BK429 := n9_;have BK433 := n10_;have BK437 := n11_;have BK442 := n12_;have BK470 := n13_;have HB := n14_;clear n0_ n1_ n2_ n3_ n4_ n5_ n6_ n7_ n8_ n9_ n10_ n11_ n12_ n13_ n14_;(try clear hb);(try clear hb2);(try clear hk);(try clear hi);(try clear ho0);refine hK.out _ _ ⟨(blk_cell BK415.out 0).trans rfl, (blk_cell BK416.out 0).trans rfl⟩ (fun hHeld => ?_);clear hK K;refine norm_ (a' := ?_) ?_ ?_;rotate_left
               ·show Act.put _ (some 99) _ = _
                simp only [Act.put, z7a, z7b, z7c, i64_w, i32_w]
                rfl
               refine pure_ (i := 5) (N := some 94) (v := ?_) (a' := ?_) laws_FnExactFewJoin.D14 rfl rfl (any_of HT_.out (by kernel_rfl)) (fun _ _ _ h => h) (Or.inl ⟨by rfl, ?_⟩) ?_ ?_;rotate_left
               ·intro w'
                go_simp
                with_reducible rfl
               rotate_left
               ·simp only [Act.put, z7a, z7b, z7c, i64_w, i32_w]
                rfl
               refine pure_ (i := 6) (N := some 100) (v := ?_) (a' := ?_) laws_FnExactFewJoin.D15 rfl rfl (any_of HT_.out (by kernel_rfl)) (fun _ _ _ h => h) (Or.inl ⟨by rfl, ?_⟩) ?_ ?_;rotate_left
               ·intro w'
                go_simp
                with_reducible rfl
               rotate_left
               ·simp only [Act.put, z7a, z7b, z7c, i64_w, i32_w]
                rfl
               refine pure_ (i := 7) (N := some 101) (v := ?_) (a' := ?_) laws_FnExactFewJoin.D3 rfl rfl (any_of HT_.out (by kernel_rfl)) (fun _ _ _ h => h) (Or.inl ⟨by rfl, ?_⟩) ?_ ?_;rotate_left
               ·intro w'
                go_simp
                with_reducible rfl
               rotate_left
               ·simp only [Act.put, z7a, z7b, z7c, i64_w, i32_w]
                rfl
               exact norm_ q7_46 (hCont (.slice Ao187 t460.length co187, .slice Ao188 t463.length co188, v467, gb470) _ ⟨hHeld, q7_41, q7_42, q7_43, q7_37, q7_38, q7_39, q7_40, q7_1, q7_2, q7_4, q7_6, q7_7, q7_8, q7_21, GW470.out, GE470.out, NB415_470.out, NB470_415.out, NB416_470.out, NB470_416.out, NB429_470.out, NB470_429.out, NB433_470.out, NB470_433.out, NB437_470.out, NB470_437.out, NB442_470.out, NB470_442.out, q7_3⟩)
             rintro ⟨v461, v464, v467, gb470⟩ w190 ⟨hS_, h0_, h1_, h2_, h3_, h4_, h5_, h6_, h7_, h8_, h9_, h10_, h11_, h12_, h13_, h14_, h15_, h16_, h17_, h18_, h19_, h20_, h21_, h22_, h23_, h24_, h25_, h26_, h27_, h28_⟩
             have n0_ : Aside0 (Kd.R (Kd.int .i64) 3 w190 w.heap.size (fun k_ => some k_ ≠ (v464 : Value).ownBlock ∧ some k_ ≠ (v467 : Value).ownBlock ∧ some k_ ≠ (.slice Ao41 t425.length co41 : Value).ownBlock ∧ some k_ ≠ (.slice Ao47 t453.length co47 : Value).ownBlock ∧ some k_ ≠ (.slice Ao56 t455.length co56 : Value).ownBlock ∧ some k_ ≠ (.slice Ao65 t438.length co65 : Value).ownBlock) v461 t460) := ⟨h0_⟩
             have n1_ : Aside0 (Kd.R (Kd.int .i64) 3 w190 w.heap.size (fun k_ => some k_ ≠ (v461 : Value).ownBlock ∧ some k_ ≠ (v467 : Value).ownBlock ∧ some k_ ≠ (.slice Ao41 t425.length co41 : Value).ownBlock ∧ some k_ ≠ (.slice Ao47 t453.length co47 : Value).ownBlock ∧ some k_ ≠ (.slice Ao56 t455.length co56 : Value).ownBlock ∧ some k_ ≠ (.slice Ao65 t438.length co65 : Value).ownBlock) v464 t463) := ⟨h1_⟩
             have n2_ : Aside0 (Kd.R (Kd.int .i64) 3 w190 w.heap.size (fun k_ => some k_ ≠ (v461 : Value).ownBlock ∧ some k_ ≠ (v464 : Value).ownBlock ∧ some k_ ≠ (.slice Ao41 t425.length co41 : Value).ownBlock ∧ some k_ ≠ (.slice Ao47 t453.length co47 : Value).ownBlock ∧ some k_ ≠ (.slice Ao56 t455.length co56 : Value).ownBlock ∧ some k_ ≠ (.slice Ao65 t438.length co65 : Value).ownBlock) v467 t466) := ⟨h2_⟩
             have n3_ : Aside0 (Kd.R (Kd.int .i64) 3 w190 w.heap.size (fun k_ => some k_ ≠ (v461 : Value).ownBlock ∧ some k_ ≠ (v464 : Value).ownBlock ∧ some k_ ≠ (v467 : Value).ownBlock ∧ some k_ ≠ (.slice Ao47 t453.length co47 : Value).ownBlock ∧ some k_ ≠ (.slice Ao56 t455.length co56 : Value).ownBlock ∧ some k_ ≠ (.slice Ao65 t438.length co65 : Value).ownBlock) (.slice Ao41 t425.length co41) t425) := ⟨h3_⟩
             have n4_ : Aside0 (Kd.R (Kd.int .i64) 3 w190 w.heap.size (fun k_ => some k_ ≠ (v461 : Value).ownBlock ∧ some k_ ≠ (v464 : Value).ownBlock ∧ some k_ ≠ (v467 : Value).ownBlock ∧ some k_ ≠ (.slice Ao41 t425.length co41 : Value).ownBlock ∧ some k_ ≠ (.slice Ao56 t455.length co56 : Value).ownBlock ∧ some k_ ≠ (.slice Ao65 t438.length co65 : Value).ownBlock) (.slice Ao47 t453.length co47) t453) := ⟨h4_⟩
             have n5_ : Aside0 (Kd.R (Kd.int .i64) 3 w190 w.heap.size (fun k_ => some k_ ≠ (v461 : Value).ownBlock ∧ some k_ ≠ (v464 : Value).ownBlock ∧ some k_ ≠ (v467 : Value).ownBlock ∧ some k_ ≠ (.slice Ao41 t425.length co41 : Value).ownBlock ∧ some k_ ≠ (.slice Ao47 t453.length co47 : Value).ownBlock ∧ some k_ ≠ (.slice Ao65 t438.length co65 : Value).ownBlock) (.slice Ao56 t455.length co56) t455) := ⟨h5_⟩
             have n6_ : Aside0 (Kd.R (Kd.int .i64) 3 w190 w.heap.size (fun k_ => some k_ ≠ (v461 : Value).ownBlock ∧ some k_ ≠ (v464 : Value).ownBlock ∧ some k_ ≠ (v467 : Value).ownBlock ∧ some k_ ≠ (.slice Ao41 t425.length co41 : Value).ownBlock ∧ some k_ ≠ (.slice Ao47 t453.length co47 : Value).ownBlock ∧ some k_ ≠ (.slice Ao56 t455.length co56 : Value).ownBlock) (.slice Ao65 t438.length co65) t458) := ⟨h6_⟩
             have n7_ : Aside0 (w190.heap[gb415]? = some (.cells #[.slice A0_0 l0_0.length c0_0] 37 (0, 0))) := ⟨h7_⟩
             have n8_ : Aside0 (w190.heap[gb416]? = some (.cells #[.slice A1_0 l1_0.length c1_0] 37 (0, 0))) := ⟨h8_⟩
             have n9_ : Aside0 (w190.heap[gb429]? = some (.cells #[.slice Ao41 t425.length co41] 25 (0, 0))) := ⟨h9_⟩
             have n10_ : Aside0 (w190.heap[gb433]? = some (.cells #[.slice Ao47 t453.length co47] 25 (0, 0))) := ⟨h10_⟩
             have n11_ : Aside0 (w190.heap[gb437]? = some (.cells #[.slice Ao56 t455.length co56] 25 (0, 0))) := ⟨h11_⟩
             have n12_ : Aside0 (w190.heap[gb442]? = some (.cells #[.slice Ao65 t438.length co65] 25 (0, 0))) := ⟨h12_⟩
             have n13_ : Aside0 (w190.heap[gb470]? = some (.cells #[.slice none 0 0] 25 (0, 0))) := ⟨h13_⟩
             have n14_ : Aside0 (w.heap.size ≤ gb470) := ⟨h14_⟩
             have n15_ : Aside0 (w.heap.size ≤ gb470) := ⟨h15_⟩
             have n16_ : Aside0 (gb415 ≠ gb470) := ⟨h16_⟩
             have n17_ : Aside0 (gb470 ≠ gb415) := ⟨h17_⟩
             have n18_ : Aside0 (gb416 ≠ gb470) := ⟨h18_⟩
             have n19_ : Aside0 (gb470 ≠ gb416) := ⟨h19_⟩
             have n20_ : Aside0 (gb429 ≠ gb470) := ⟨h20_⟩
             have n21_ : Aside0 (gb470 ≠ gb429) := ⟨h21_⟩
             have n22_ : Aside0 (gb433 ≠ gb470) := ⟨h22_⟩
             have n23_ : Aside0 (gb470 ≠ gb433) := ⟨h23_⟩
             have n24_ : Aside0 (gb437 ≠ gb470) := ⟨h24_⟩
             have n25_ : Aside0 (gb470 ≠ gb437) := ⟨h25_⟩
             have n26_ : Aside0 (gb442 ≠ gb470) := ⟨h26_⟩
             have n27_ : Aside0 (gb470 ≠ gb442) := ⟨h27_⟩
             have n28_ : Aside0 (Below w.heap.size w w190) := ⟨h28_⟩
             clear HO_430000 HO_434000 HO_438000 HO_443000 BK415 BK416 BK429 BK433 BK437 BK442 HB h0_ h1_ h2_ h3_ h4_ h5_ h6_ h7_ h8_ h9_ h10_ h11_ h12_ h13_ h14_ h15_ h16_ h17_ h18_ h19_ h20_ h21_ h22_ h23_ h24_ h25_ h26_ h27_ h28_;have HO462 := n0_;have HO465 := n1_;have HO468 := n2_;have HO_430000 := n3_;have HO_434000 := n4_;have HO_438000 := n5_;have HO_443000 := n6_;have BK415 := n7_;have BK416 := n8_;have BK429 := n9_;have BK433 := n10_;have BK437 := n11_;have BK442 := n12_;have BK470 := n13_;have GW470 := n14_;have GE470 := n15_;have NB415_470 := n16_;have NB470_415 := n17_;have NB416_470 := n18_;have NB470_416 := n19_;have NB429_470 := n20_;have NB470_429 := n21_;have NB433_470 := n22_;have NB470_433 := n23_;have NB437_470 := n24_;have NB470_437 := n25_;have NB442_470 := n26_;have NB470_442 := n27_;have HB := n28_;clear n0_ n1_ n2_ n3_ n4_ n5_ n6_ n7_ n8_ n9_ n10_ n11_ n12_ n13_ n14_ n15_ n16_ n17_ n18_ n19_ n20_ n21_ n22_ n23_ n24_ n25_ n26_ n27_ n28_
             have hHeld : w190.cell? ⟨gb415, 0, none⟩ = some (.slice A0_0 l0_0.length c0_0) ∧ w190.cell? ⟨gb416, 0, none⟩ = some (.slice A1_0 l1_0.length c1_0) := hS_
             obtain ⟨Ao191, co191, eo191⟩ := Kd.R_slice HO468.out;(first | subst eo191 | (injection eo191 with f1_ f2_ f3_; have f4_ := f1_.symm; have f5_ := f3_.symm; clear f1_ f2_ f3_; subst f4_; subst f5_));refine norm_ (a' := ?_) ?_ ?_;rotate_left
             ·simp only [putAll, Act.put, z7a, z7b, z7c]
              rfl
             refine one_ (i := 9) (N := none) laws_FnExactFewJoin.D16 rfl rfl (one_of HT_.out (by kernel_rfl)) (by decide) (fun K hK => ?_)
             have hs192 : w190.cell? ⟨gb470, 0, none⟩ = some (.slice none 0 0) := (blk_cell BK470.out 0).trans rfl
             have hfs192 := blk_frozen BK470.out 0;have hns192_0 := NB415_470.out;have hns192_1 := NB416_470.out;have hns192_2 := NB429_470.out;have hns192_3 := NB433_470.out;have hns192_4 := NB437_470.out;have hns192_5 := NB442_470.out;have hms192_0 := NB470_415.out;have hms192_1 := NB470_416.out;have hms192_2 := NB470_429.out;have hms192_3 := NB470_433.out;have hms192_4 := NB470_437.out;have hms192_5 := NB470_442.out;refine skip_ (w1 := ?_) (by rfl) rfl ?_ ?_;rotate_left
             ·go_simp
              rfl
             refine hK.out _ _ ⟨((cell_far (p := ⟨gb470, _, none⟩) NB415_470.out _).trans (hHeld.1)), ((cell_far (p := ⟨gb470, _, none⟩) NB416_470.out _).trans (hHeld.2))⟩ (fun hHeld => ?_);clear hK K;refine pure_ (i := 10) (N := some 16) (v := ?_) (a' := ?_) laws_FnExactFewJoin.D17 rfl rfl (any_of HT_.out (by kernel_rfl)) (fun _ _ _ h => h) (Or.inl ⟨by rfl, ?_⟩) ?_ ?_;rotate_left
             ·intro w'
              go_simp
              with_reducible rfl
             rotate_left
             ·simp only [Act.put, z7a, z7b, z7c, i64_w, i32_w]
              rfl
             refine done_ (done_of HT_.out (by kernel_rfl)) ?_
             go_upto_region 32 with (fail)
             go_cut [110] (fun v110 wc => ∃ (kq : Nat) (x110_172 : Bool), v110 = .bool x110_172 ∧ Aside0 (laws_FnExactFewJoin.j2 kq t457 x110_172 t458 = some r) ∧ Aside0 (kq ≤ kj106) ∧ Aside0 (Kd.R (Kd.int .i64) 3 wc w.heap.size (fun k_ => some k_ ≠ ((.slice Ao47 t453.length co47) : Value).ownBlock ∧ some k_ ≠ ((.slice Ao56 t455.length co56) : Value).ownBlock ∧ some k_ ≠ ((.slice Ao65 t438.length co65) : Value).ownBlock ∧ some k_ ≠ ((.slice Ao191 t466.length co191) : Value).ownBlock) (.slice Ao41 t425.length co41) t425) ∧ Aside0 (Kd.R (Kd.int .i64) 3 wc w.heap.size (fun k_ => some k_ ≠ ((.slice Ao41 t425.length co41) : Value).ownBlock ∧ some k_ ≠ ((.slice Ao56 t455.length co56) : Value).ownBlock ∧ some k_ ≠ ((.slice Ao65 t438.length co65) : Value).ownBlock ∧ some k_ ≠ ((.slice Ao191 t466.length co191) : Value).ownBlock) (.slice Ao47 t453.length co47) t453) ∧ Aside0 (Kd.R (Kd.int .i64) 3 wc w.heap.size (fun k_ => some k_ ≠ ((.slice Ao41 t425.length co41) : Value).ownBlock ∧ some k_ ≠ ((.slice Ao47 t453.length co47) : Value).ownBlock ∧ some k_ ≠ ((.slice Ao65 t438.length co65) : Value).ownBlock ∧ some k_ ≠ ((.slice Ao191 t466.length co191) : Value).ownBlock) (.slice Ao56 t455.length co56) t455) ∧ Aside0 (Kd.R (Kd.int .i64) 3 wc w.heap.size (fun k_ => some k_ ≠ ((.slice Ao41 t425.length co41) : Value).ownBlock ∧ some k_ ≠ ((.slice Ao47 t453.length co47) : Value).ownBlock ∧ some k_ ≠ ((.slice Ao56 t455.length co56) : Value).ownBlock ∧ some k_ ≠ ((.slice Ao191 t466.length co191) : Value).ownBlock) (.slice Ao65 t438.length co65) t458) ∧ Aside0 (Kd.R (Kd.int .i64) 3 wc w.heap.size (fun k_ => some k_ ≠ ((.slice Ao41 t425.length co41) : Value).ownBlock ∧ some k_ ≠ ((.slice Ao47 t453.length co47) : Value).ownBlock ∧ some k_ ≠ ((.slice Ao56 t455.length co56) : Value).ownBlock ∧ some k_ ≠ ((.slice Ao65 t438.length co65) : Value).ownBlock) (.slice Ao191 t466.length co191) t466) ∧ Aside0 (wc.heap[gb415]? = some (.cells #[(.slice A0_0 l0_0.length c0_0)] 37 (0, 0))) ∧ Aside0 (wc.heap[gb416]? = some (.cells #[(.slice A1_0 l1_0.length c1_0)] 37 (0, 0))) ∧ Aside0 (wc.heap[gb429]? = some (.cells #[(.slice Ao41 t425.length co41)] 25 (0, 0))) ∧ Aside0 (wc.heap[gb433]? = some (.cells #[(.slice Ao47 t453.length co47)] 25 (0, 0))) ∧ Aside0 (wc.heap[gb437]? = some (.cells #[(.slice Ao56 t455.length co56)] 25 (0, 0))) ∧ Aside0 (wc.heap[gb442]? = some (.cells #[(.slice Ao65 t438.length co65)] 25 (0, 0))) ∧ Aside0 (wc.heap[gb470]? = some (.cells #[(.slice Ao191 t466.length co191)] 25 (0, 0))) ∧ Aside0 (Below w.heap.size w wc))
             case first =>
              have H := HC173.out;clear HC173
              replace H := Option.bind_eq_some_iff.mp H
              obtain ⟨t471, A1930, H⟩ := H
              replace H : (if t471 = true then (laws_FnExactFewJoin.j2 kj106 t457 (t469 != t428) t458) else (laws_FnExactFewJoin.j2 kj106 t457 true t458)) = some r := H
              have A193 := Aside0.mk A1930;clear A1930
              by_cases c194 : t471 = true
              ·subst c194
               have H1 : (laws_FnExactFewJoin.j2 kj106 t457 (t469 != t428) t458) = some r := by rw [if_pos rfl] at H; exact H
               clear H;have H := H1;clear H1
               have H' := Aside0.mk H
               clear H;have hnb195 := NB470_415.out;have hnc195 := NB415_470.out;have hnb196 := NB470_416.out;have hnc196 := NB416_470.out;have hnb197 := NB470_429.out;have hnc197 := NB429_470.out;have hnb198 := NB470_433.out;have hnc198 := NB433_470.out;have hnb199 := NB470_437.out;have hnc199 := NB437_470.out;have hnb200 := NB470_442.out;have hnc200 := NB442_470.out
               have hcz201_0 : w190.cell? ⟨gb470, 0, none⟩ = some (.slice none 0 0) := (blk_cell BK470.out 0).trans rfl
               have hfz201_0 := blk_frozen BK470.out 0;have hnb202 := NB429_415.out;have hnc202 := NB415_429.out;have hnb203 := NB429_416.out;have hnc203 := NB416_429.out;have hnb204 := NB429_433.out;have hnc204 := NB433_429.out;have hnb205 := NB429_437.out;have hnc205 := NB437_429.out;have hnb206 := NB429_442.out;have hnc206 := NB442_429.out
               have hcz207_0 : w190.cell? ⟨gb429, 0, none⟩ = some (.slice Ao41 t425.length co41) := (blk_cell BK429.out 0).trans rfl
               have hfz207_0 := blk_frozen BK429.out 0
               go_wp2_with (first | ((with_reducible refine gate_callee (f := 21) rfl ?_); refine goesL_ (some 104) rfl rfl Try.func21 (by kernel_rfl) rfl #[.agg #[.slice Ao191 t466.length co191], .agg #[.slice Ao41 t425.length co41]] rfl q7_5 ?_; (with_reducible refine (laws_eqFew.calls kj106 _ _ t466 _ _ t425 true _ ?side1 ?side2 ?side3 ?side4 A193.out).mono ?_); (case side1 => exact q7_55); (case side2 => exact (Kd.R_reads' HO468.out).2.1); (case side3 => exact q7_54); (case side4 => exact (Kd.R_reads' HO_430000.out).2.1); rintro e w208 ⟨rfl, hb⟩; refine ⟨_, rfl, ?_⟩; have n0_ := z7k (Kd.R_below q7_33 hb); have n1_ := z7k (Kd.R_below q7_74 hb); have n2_ := z7k (Kd.R_below q7_75 hb); have n3_ := z7k (Kd.R_below q7_76 hb); have n4_ := z7k (Kd.R_below q7_77 hb); have n5_ := z7k (Kd.R_below q7_78 hb); have n6_ := z7k (Kd.R_below q7_34 hb); have n7_ := z7k (blk_below (g := gb415) (o := .cells #[.slice A0_0 l0_0.length c0_0] 37 (0, 0)) q7_98 hb); have n8_ := z7k (blk_below (g := gb416) (o := .cells #[.slice A1_0 l1_0.length c1_0] 37 (0, 0)) q7_99 hb); have n9_ := z7k (blk_below (g := gb429) (o := .cells #[.slice Ao41 t425.length co41] 25 (0, 0)) q7_100 hb); have n10_ := z7k (blk_below (g := gb433) (o := .cells #[.slice Ao47 t453.length co47] 25 (0, 0)) q7_101 hb); have n11_ := z7k (blk_below (g := gb437) (o := .cells #[.slice Ao56 t455.length co56] 25 (0, 0)) q7_102 hb); have n12_ := z7k (blk_below (g := gb442) (o := .cells #[.slice Ao65 t438.length co65] 25 (0, 0)) q7_103 hb); have n13_ := z7k (blk_below (g := gb470) (o := .cells #[.slice Ao191 t466.length co191] 25 (0, 0)) q7_73 hb); have n14_ := z7k (below_step q7_3 hb); clear HO_430000; clear HO_434000; clear HO_438000; clear HO_443000; clear HO462; clear HO465; clear HO468; clear BK415; clear BK416; clear BK429; clear BK433; clear BK437; clear BK442; clear BK470; clear HB; have HO_430000 := n0_; have HO_434000 := n1_; have HO_438000 := n2_; have HO_443000 := n3_; have HO462 := n4_; have HO465 := n5_; have HO468 := n6_; have BK415 := n7_; have BK416 := n8_; have BK429 := n9_; have BK433 := n10_; have BK437 := n11_; have BK442 := n12_; have BK470 := n13_; have HB := n14_; clear n0_ n1_ n2_ n3_ n4_ n5_ n6_ n7_ n8_ n9_ n10_ n11_ n12_ n13_ n14_; (try clear hb); (try clear hb2); (try clear hk); (try clear hi)))
               go_meet
               case rel => exact ⟨_, ((t469 != t428)), q7_104, H', ⟨by have := HJ24.out; have := HJ106.out; first | omega | exact Nat.le_refl _⟩, ⟨by (try simp only [hl434000_106]); (try simp only [hl438000_106]); (with_reducible repeat (first | apply Kd.R_alloc | apply Kd.R_drewN | apply Kd.R_drew)); exact Kd.R_mono HO_430000.out (fun _ hk => ⟨hk.2.2.2.1, ⟨hk.2.2.2.2.1, ⟨hk.2.2.2.2.2, hk.2.2.1⟩⟩⟩)⟩, ⟨by (try simp only [hl434000_106]); (try simp only [hl438000_106]); (with_reducible repeat (first | apply Kd.R_alloc | apply Kd.R_drewN | apply Kd.R_drew)); exact Kd.R_mono HO_434000.out (fun _ hk => ⟨hk.2.2.2.1, ⟨hk.2.2.2.2.1, ⟨hk.2.2.2.2.2, hk.2.2.1⟩⟩⟩)⟩, ⟨by (try simp only [hl434000_106]); (try simp only [hl438000_106]); (with_reducible repeat (first | apply Kd.R_alloc | apply Kd.R_drewN | apply Kd.R_drew)); exact Kd.R_mono HO_438000.out (fun _ hk => ⟨hk.2.2.2.1, ⟨hk.2.2.2.2.1, ⟨hk.2.2.2.2.2, hk.2.2.1⟩⟩⟩)⟩, ⟨by (try simp only [hl434000_106]); (try simp only [hl438000_106]); (with_reducible repeat (first | apply Kd.R_alloc | apply Kd.R_drewN | apply Kd.R_drew)); exact Kd.R_mono HO_443000.out (fun _ hk => ⟨hk.2.2.2.1, ⟨hk.2.2.2.2.1, ⟨hk.2.2.2.2.2, hk.2.2.1⟩⟩⟩)⟩, ⟨by (try simp only [hl434000_106]); (try simp only [hl438000_106]); (with_reducible repeat (first | apply Kd.R_alloc | apply Kd.R_drewN | apply Kd.R_drew)); exact Kd.R_mono HO468.out (fun _ hk => ⟨hk.2.2.1, ⟨hk.2.2.2.1, ⟨hk.2.2.2.2.1, hk.2.2.2.2.2⟩⟩⟩)⟩, ⟨by (try simp only [hl434000_106]); (try simp only [hl438000_106]); (with_reducible repeat (first | refine blk_drewN ?_ _ | refine blk_drew ?_ | refine blk_alloc ?_ _)); exact BK415.out⟩, ⟨by (try simp only [hl434000_106]); (try simp only [hl438000_106]); (with_reducible repeat (first | refine blk_drewN ?_ _ | refine blk_drew ?_ | refine blk_alloc ?_ _)); exact BK416.out⟩, ⟨by (try simp only [hl434000_106]); (try simp only [hl438000_106]); (with_reducible repeat (first | refine blk_drewN ?_ _ | refine blk_drew ?_ | refine blk_alloc ?_ _)); exact BK429.out⟩, ⟨by (try simp only [hl434000_106]); (try simp only [hl438000_106]); (with_reducible repeat (first | refine blk_drewN ?_ _ | refine blk_drew ?_ | refine blk_alloc ?_ _)); exact BK433.out⟩, ⟨by (try simp only [hl434000_106]); (try simp only [hl438000_106]); (with_reducible repeat (first | refine blk_drewN ?_ _ | refine blk_drew ?_ | refine blk_alloc ?_ _)); exact BK437.out⟩, ⟨by (try simp only [hl434000_106]); (try simp only [hl438000_106]); (with_reducible repeat (first | refine blk_drewN ?_ _ | refine blk_drew ?_ | refine blk_alloc ?_ _)); exact BK442.out⟩, ⟨by (try simp only [hl434000_106]); (try simp only [hl438000_106]); (with_reducible repeat (first | refine blk_drewN ?_ _ | refine blk_drew ?_ | refine blk_alloc ?_ _)); exact BK470.out⟩, ⟨q7_3⟩⟩
              ·replace c194 := Bool.eq_false_iff.mpr c194
               subst c194
               have H1 : (laws_FnExactFewJoin.j2 kj106 t457 true t458) = some r := by rw [if_neg (show ¬ (false = true) by decide)] at H; exact H
               clear H;have H := H1;clear H1
               have H' := Aside0.mk H
               clear H;have hnb209 := NB470_415.out;have hnc209 := NB415_470.out;have hnb210 := NB470_416.out;have hnc210 := NB416_470.out;have hnb211 := NB470_429.out;have hnc211 := NB429_470.out;have hnb212 := NB470_433.out;have hnc212 := NB433_470.out;have hnb213 := NB470_437.out;have hnc213 := NB437_470.out;have hnb214 := NB470_442.out;have hnc214 := NB442_470.out
               have hcz215_0 : w190.cell? ⟨gb470, 0, none⟩ = some (.slice none 0 0) := (blk_cell BK470.out 0).trans rfl
               have hfz215_0 := blk_frozen BK470.out 0;have hnb216 := NB429_415.out;have hnc216 := NB415_429.out;have hnb217 := NB429_416.out;have hnc217 := NB416_429.out;have hnb218 := NB429_433.out;have hnc218 := NB433_429.out;have hnb219 := NB429_437.out;have hnc219 := NB437_429.out;have hnb220 := NB429_442.out;have hnc220 := NB442_429.out
               have hcz221_0 : w190.cell? ⟨gb429, 0, none⟩ = some (.slice Ao41 t425.length co41) := (blk_cell BK429.out 0).trans rfl
               have hfz221_0 := blk_frozen BK429.out 0
               go_wp2_with (first | ((with_reducible refine gate_callee (f := 21) rfl ?_); refine goesL_ (some 104) rfl rfl Try.func21 (by kernel_rfl) rfl #[.agg #[.slice Ao191 t466.length co191], .agg #[.slice Ao41 t425.length co41]] rfl q7_5 ?_; (with_reducible refine (laws_eqFew.calls kj106 _ _ t466 _ _ t425 false _ ?side1 ?side2 ?side3 ?side4 A193.out).mono ?_); (case side1 => exact q7_55); (case side2 => exact (Kd.R_reads' HO468.out).2.1); (case side3 => exact q7_54); (case side4 => exact (Kd.R_reads' HO_430000.out).2.1); rintro e w222 ⟨rfl, hb⟩; refine ⟨_, rfl, ?_⟩; have n0_ := z7k (Kd.R_below q7_33 hb); have n1_ := z7k (Kd.R_below q7_74 hb); have n2_ := z7k (Kd.R_below q7_75 hb); have n3_ := z7k (Kd.R_below q7_76 hb); have n4_ := z7k (Kd.R_below q7_77 hb); have n5_ := z7k (Kd.R_below q7_78 hb); have n6_ := z7k (Kd.R_below q7_34 hb); have n7_ := z7k (blk_below (g := gb415) (o := .cells #[.slice A0_0 l0_0.length c0_0] 37 (0, 0)) q7_98 hb); have n8_ := z7k (blk_below (g := gb416) (o := .cells #[.slice A1_0 l1_0.length c1_0] 37 (0, 0)) q7_99 hb); have n9_ := z7k (blk_below (g := gb429) (o := .cells #[.slice Ao41 t425.length co41] 25 (0, 0)) q7_100 hb); have n10_ := z7k (blk_below (g := gb433) (o := .cells #[.slice Ao47 t453.length co47] 25 (0, 0)) q7_101 hb); have n11_ := z7k (blk_below (g := gb437) (o := .cells #[.slice Ao56 t455.length co56] 25 (0, 0)) q7_102 hb); have n12_ := z7k (blk_below (g := gb442) (o := .cells #[.slice Ao65 t438.length co65] 25 (0, 0)) q7_103 hb); have n13_ := z7k (blk_below (g := gb470) (o := .cells #[.slice Ao191 t466.length co191] 25 (0, 0)) q7_73 hb); have n14_ := z7k (below_step q7_3 hb); clear HO_430000; clear HO_434000; clear HO_438000; clear HO_443000; clear HO462; clear HO465; clear HO468; clear BK415; clear BK416; clear BK429; clear BK433; clear BK437; clear BK442; clear BK470; clear HB; have HO_430000 := n0_; have HO_434000 := n1_; have HO_438000 := n2_; have HO_443000 := n3_; have HO462 := n4_; have HO465 := n5_; have HO468 := n6_; have BK415 := n7_; have BK416 := n8_; have BK429 := n9_; have BK433 := n10_; have BK437 := n11_; have BK442 := n12_; have BK470 := n13_; have HB := n14_; clear n0_ n1_ n2_ n3_ n4_ n5_ n6_ n7_ n8_ n9_ n10_ n11_ n12_ n13_ n14_; (try clear hb); (try clear hb2); (try clear hk); (try clear hi)))
               go_meet
               case rel => exact ⟨_, (true), q7_104, H', ⟨by have := HJ24.out; have := HJ106.out; first | omega | exact Nat.le_refl _⟩, ⟨by (try simp only [hl434000_106]); (try simp only [hl438000_106]); (with_reducible repeat (first | apply Kd.R_alloc | apply Kd.R_drewN | apply Kd.R_drew)); exact Kd.R_mono HO_430000.out (fun _ hk => ⟨hk.2.2.2.1, ⟨hk.2.2.2.2.1, ⟨hk.2.2.2.2.2, hk.2.2.1⟩⟩⟩)⟩, ⟨by (try simp only [hl434000_106]); (try simp only [hl438000_106]); (with_reducible repeat (first | apply Kd.R_alloc | apply Kd.R_drewN | apply Kd.R_drew)); exact Kd.R_mono HO_434000.out (fun _ hk => ⟨hk.2.2.2.1, ⟨hk.2.2.2.2.1, ⟨hk.2.2.2.2.2, hk.2.2.1⟩⟩⟩)⟩, ⟨by (try simp only [hl434000_106]); (try simp only [hl438000_106]); (with_reducible repeat (first | apply Kd.R_alloc | apply Kd.R_drewN | apply Kd.R_drew)); exact Kd.R_mono HO_438000.out (fun _ hk => ⟨hk.2.2.2.1, ⟨hk.2.2.2.2.1, ⟨hk.2.2.2.2.2, hk.2.2.1⟩⟩⟩)⟩, ⟨by (try simp only [hl434000_106]); (try simp only [hl438000_106]); (with_reducible repeat (first | apply Kd.R_alloc | apply Kd.R_drewN | apply Kd.R_drew)); exact Kd.R_mono HO_443000.out (fun _ hk => ⟨hk.2.2.2.1, ⟨hk.2.2.2.2.1, ⟨hk.2.2.2.2.2, hk.2.2.1⟩⟩⟩)⟩, ⟨by (try simp only [hl434000_106]); (try simp only [hl438000_106]); (with_reducible repeat (first | apply Kd.R_alloc | apply Kd.R_drewN | apply Kd.R_drew)); exact Kd.R_mono HO468.out (fun _ hk => ⟨hk.2.2.1, ⟨hk.2.2.2.1, ⟨hk.2.2.2.2.1, hk.2.2.2.2.2⟩⟩⟩)⟩, ⟨by (try simp only [hl434000_106]); (try simp only [hl438000_106]); (with_reducible repeat (first | refine blk_drewN ?_ _ | refine blk_drew ?_ | refine blk_alloc ?_ _)); exact BK415.out⟩, ⟨by (try simp only [hl434000_106]); (try simp only [hl438000_106]); (with_reducible repeat (first | refine blk_drewN ?_ _ | refine blk_drew ?_ | refine blk_alloc ?_ _)); exact BK416.out⟩, ⟨by (try simp only [hl434000_106]); (try simp only [hl438000_106]); (with_reducible repeat (first | refine blk_drewN ?_ _ | refine blk_drew ?_ | refine blk_alloc ?_ _)); exact BK429.out⟩, ⟨by (try simp only [hl434000_106]); (try simp only [hl438000_106]); (with_reducible repeat (first | refine blk_drewN ?_ _ | refine blk_drew ?_ | refine blk_alloc ?_ _)); exact BK433.out⟩, ⟨by (try simp only [hl434000_106]); (try simp only [hl438000_106]); (with_reducible repeat (first | refine blk_drewN ?_ _ | refine blk_drew ?_ | refine blk_alloc ?_ _)); exact BK437.out⟩, ⟨by (try simp only [hl434000_106]); (try simp only [hl438000_106]); (with_reducible repeat (first | refine blk_drewN ?_ _ | refine blk_drew ?_ | refine blk_alloc ?_ _)); exact BK442.out⟩, ⟨by (try simp only [hl434000_106]); (try simp only [hl438000_106]); (with_reducible repeat (first | refine blk_drewN ?_ _ | refine blk_drew ?_ | refine blk_alloc ?_ _)); exact BK470.out⟩, ⟨q7_3⟩⟩
             case rest =>
              clear HC173
              try clear c1
              try clear c2
              try clear p2
              try clear c13
              try clear c19
              try clear c20
              try clear c21
              try clear c22
              try clear c194
              try clear c195
              try clear c196
              try clear c197
              try clear c198
              try clear c199
              try clear c200
              try clear c202
              try clear c203
              try clear c204
              try clear c205
              try clear c206
              try clear c209
              try clear c210
              try clear c211
              try clear c212
              try clear c213
              try clear c214
              try clear c216
              try clear c217
              try clear c218
              try clear c219
              try clear c220
              try clear hcz201_0
              try clear hcz207_0
              try clear hcz215_0
              try clear hcz221_0
              try clear hfz201_0
              try clear hfz207_0
              try clear hfz215_0
              try clear hfz221_0
              obtain ⟨kq, x110_172, rfl, HA, HJ172, HO_430000, HO_434000, HO_438000, HO_443000, HO_471000, BK415, BK416, BK429, BK433, BK437, BK442, BK470, HB⟩ := hcut;have hl443000_172 := (Kd.R_reads' HO_443000.out).1
              rw [hl443000_172] at HO_443000
              (try simp only [hl443000_172])
              (try simp only [hl443000_172] at BK415)
              (try simp only [hl443000_172] at BK416)
              (try simp only [hl443000_172] at BK429)
              (try simp only [hl443000_172] at BK433)
              (try simp only [hl443000_172] at BK437)
              (try simp only [hl443000_172] at BK442)
              (try simp only [hl443000_172] at BK470)
              (try simp only [hl443000_172] at HO_430000)
              (try simp only [hl443000_172] at HO_434000)
              (try simp only [hl443000_172] at HO_438000)
              (try simp only [hl443000_172] at HO_471000)
              cases kq with
              | zero => exact absurd HA.out (by simp [laws_FnExactFewJoin.j2])
              | succ kj172 =>
               have H := HA.out;clear HA
               simp only [laws_FnExactFewJoin.j2] at H
               by_cases c223 : x110_172 = true
               ·subst c223
                have H1 : (some false) = some r := by rw [if_pos rfl] at H; exact H
                clear H;have H := H1;clear H1
                obtain rfl := Option.some.inj H
                go_wp2
                go_ret
                exact ⟨q7_31, q7_3⟩
               ·replace c223 := Bool.eq_false_iff.mpr c223
                subst c223
                have H1 : ((laws_heldFew.f kj172 t458 1).bind fun t472 => (if t472 < 0 then (some false) else (if t472 = t457 then (some true) else (some false)))) = some r := by rw [if_neg (show ¬ (false = true) by decide)] at H; exact H
                clear H;have H := H1;clear H1
                replace H := Option.bind_eq_some_iff.mp H
                obtain ⟨t472, A2240, H⟩ := H
                replace H : (if t472 < 0 then (some false) else (if t472 = t457 then (some true) else (some false))) = some r := H
                have A224 := Aside0.mk A2240;clear A2240
                by_cases c225 : t472 < 0
                ·rw [if_pos c225] at H
                 have c225b0 : decide (t472 < 0) = true := decide_eq_true c225
                 clear c225
                 obtain rfl := Option.some.inj H
                 have hnb226 := NB442_415.out;have hnc226 := NB415_442.out;have hnb227 := NB442_416.out;have hnc227 := NB416_442.out;have hnb228 := NB442_429.out;have hnc228 := NB429_442.out;have hnb229 := NB442_433.out;have hnc229 := NB433_442.out;have hnb230 := NB442_437.out;have hnc230 := NB437_442.out;have hnb231 := NB442_470.out;have hnc231 := NB470_442.out
                 have hcz232_0 : wc.cell? ⟨gb442, 0, none⟩ = some (.slice Ao65 t458.length co65) := (blk_cell BK442.out 0).trans rfl
                 have hfz232_0 := blk_frozen BK442.out 0
                 go_wp2_with (first | ((with_reducible refine gate_callee (f := 23) rfl ?_); refine goesL_ (some 113) rfl rfl Try.func23 (by kernel_rfl) rfl #[.agg #[.slice Ao65 t458.length co65], .int .i64 1] rfl q7_5 ?_; (with_reducible refine (laws_heldFew.calls kj172 _ _ t458 1 t472 _ ?side1 ?side2 A224.out).mono ?_); (case side1 => exact q7_24); (case side2 => exact (Kd.R_reads' HO_443000.out).2.1); rintro e w233 ⟨rfl, hb⟩; refine ⟨_, rfl, ?_⟩; have n0_ := z7k (Kd.R_below q7_11 hb); have n1_ := z7k (Kd.R_below q7_12 hb); have n2_ := z7k (Kd.R_below q7_13 hb); have n3_ := z7k (Kd.R_below q7_14 hb); have n4_ := z7k (Kd.R_below q7_106 hb); have n5_ := z7k (blk_below (g := gb415) (o := .cells #[.slice A0_0 l0_0.length c0_0] 37 (0, 0)) q7_1 hb); have n6_ := z7k (blk_below (g := gb416) (o := .cells #[.slice A1_0 l1_0.length c1_0] 37 (0, 0)) q7_2 hb); have n7_ := z7k (blk_below (g := gb429) (o := .cells #[.slice Ao41 t425.length co41] 25 (0, 0)) q7_4 hb); have n8_ := z7k (blk_below (g := gb433) (o := .cells #[.slice Ao47 t453.length co47] 25 (0, 0)) q7_6 hb); have n9_ := z7k (blk_below (g := gb437) (o := .cells #[.slice Ao56 t455.length co56] 25 (0, 0)) q7_7 hb); have n10_ := z7k (blk_below (g := gb442) (o := .cells #[.slice Ao65 t458.length co65] 25 (0, 0)) q7_8 hb); have n11_ := z7k (blk_below (g := gb470) (o := .cells #[.slice Ao191 t466.length co191] 25 (0, 0)) q7_21 hb); have n12_ := z7k (below_step q7_3 hb); clear HO_430000; clear HO_434000; clear HO_438000; clear HO_443000; clear HO_471000; clear BK415; clear BK416; clear BK429; clear BK433; clear BK437; clear BK442; clear BK470; clear HB; have HO_430000 := n0_; have HO_434000 := n1_; have HO_438000 := n2_; have HO_443000 := n3_; have HO_471000 := n4_; have BK415 := n5_; have BK416 := n6_; have BK429 := n7_; have BK433 := n8_; have BK437 := n9_; have BK442 := n10_; have BK470 := n11_; have HB := n12_; clear n0_ n1_ n2_ n3_ n4_ n5_ n6_ n7_ n8_ n9_ n10_ n11_ n12_; (try clear hb); (try clear hb2); (try clear hk); (try clear hi)))
                 go_ret
                 exact ⟨q7_31, q7_3⟩
                ·rw [if_neg c225] at H
                 have c225b0 : decide (t472 < 0) = false := decide_eq_false c225
                 clear c225
                 by_cases c234 : t472 = t457
                 ·rw [if_pos c234] at H
                  have c234b0 : (t472 == t457) = true := beq_iff_eq.mpr c234
                  have c234b1 : (t472 != t457) = false := bne_eq_false_iff_eq.mpr c234
                  clear c234
                  obtain rfl := Option.some.inj H
                  have hnb235 := NB442_415.out;have hnc235 := NB415_442.out;have hnb236 := NB442_416.out;have hnc236 := NB416_442.out;have hnb237 := NB442_429.out;have hnc237 := NB429_442.out;have hnb238 := NB442_433.out;have hnc238 := NB433_442.out;have hnb239 := NB442_437.out;have hnc239 := NB437_442.out;have hnb240 := NB442_470.out;have hnc240 := NB470_442.out
                  have hcz241_0 : wc.cell? ⟨gb442, 0, none⟩ = some (.slice Ao65 t458.length co65) := (blk_cell BK442.out 0).trans rfl
                  have hfz241_0 := blk_frozen BK442.out 0
                  go_wp2_with (first | ((with_reducible refine gate_callee (f := 23) rfl ?_); refine goesL_ (some 113) rfl rfl Try.func23 (by kernel_rfl) rfl #[.agg #[.slice Ao65 t458.length co65], .int .i64 1] rfl q7_5 ?_; (with_reducible refine (laws_heldFew.calls kj172 _ _ t458 1 t472 _ ?side1 ?side2 A224.out).mono ?_); (case side1 => exact q7_24); (case side2 => exact (Kd.R_reads' HO_443000.out).2.1); rintro e w242 ⟨rfl, hb⟩; refine ⟨_, rfl, ?_⟩; have n0_ := z7k (Kd.R_below q7_11 hb); have n1_ := z7k (Kd.R_below q7_12 hb); have n2_ := z7k (Kd.R_below q7_13 hb); have n3_ := z7k (Kd.R_below q7_14 hb); have n4_ := z7k (Kd.R_below q7_106 hb); have n5_ := z7k (blk_below (g := gb415) (o := .cells #[.slice A0_0 l0_0.length c0_0] 37 (0, 0)) q7_1 hb); have n6_ := z7k (blk_below (g := gb416) (o := .cells #[.slice A1_0 l1_0.length c1_0] 37 (0, 0)) q7_2 hb); have n7_ := z7k (blk_below (g := gb429) (o := .cells #[.slice Ao41 t425.length co41] 25 (0, 0)) q7_4 hb); have n8_ := z7k (blk_below (g := gb433) (o := .cells #[.slice Ao47 t453.length co47] 25 (0, 0)) q7_6 hb); have n9_ := z7k (blk_below (g := gb437) (o := .cells #[.slice Ao56 t455.length co56] 25 (0, 0)) q7_7 hb); have n10_ := z7k (blk_below (g := gb442) (o := .cells #[.slice Ao65 t458.length co65] 25 (0, 0)) q7_8 hb); have n11_ := z7k (blk_below (g := gb470) (o := .cells #[.slice Ao191 t466.length co191] 25 (0, 0)) q7_21 hb); have n12_ := z7k (below_step q7_3 hb); clear HO_430000; clear HO_434000; clear HO_438000; clear HO_443000; clear HO_471000; clear BK415; clear BK416; clear BK429; clear BK433; clear BK437; clear BK442; clear BK470; clear HB; have HO_430000 := n0_; have HO_434000 := n1_; have HO_438000 := n2_; have HO_443000 := n3_; have HO_471000 := n4_; have BK415 := n5_; have BK416 := n6_; have BK429 := n7_; have BK433 := n8_; have BK437 := n9_; have BK442 := n10_; have BK470 := n11_; have HB := n12_; clear n0_ n1_ n2_ n3_ n4_ n5_ n6_ n7_ n8_ n9_ n10_ n11_ n12_; (try clear hb); (try clear hb2); (try clear hk); (try clear hi)))
                  go_ret
                  exact ⟨q7_31, q7_3⟩
                 ·rw [if_neg c234] at H
                  have c234b0 : (t472 == t457) = false := beq_eq_false_iff_ne.mpr c234
                  have c234b1 : (t472 != t457) = true := bne_iff_ne.mpr c234
                  obtain rfl := Option.some.inj H
                  have hnb243 := NB442_415.out;have hnc243 := NB415_442.out;have hnb244 := NB442_416.out;have hnc244 := NB416_442.out;have hnb245 := NB442_429.out;have hnc245 := NB429_442.out;have hnb246 := NB442_433.out;have hnc246 := NB433_442.out;have hnb247 := NB442_437.out;have hnc247 := NB437_442.out;have hnb248 := NB442_470.out;have hnc248 := NB470_442.out
                  have hcz249_0 : wc.cell? ⟨gb442, 0, none⟩ = some (.slice Ao65 t458.length co65) := (blk_cell BK442.out 0).trans rfl
                  have hfz249_0 := blk_frozen BK442.out 0
                  go_wp2_with (first | ((with_reducible refine gate_callee (f := 23) rfl ?_); refine goesL_ (some 113) rfl rfl Try.func23 (by kernel_rfl) rfl #[.agg #[.slice Ao65 t458.length co65], .int .i64 1] rfl q7_5 ?_; (with_reducible refine (laws_heldFew.calls kj172 _ _ t458 1 t472 _ ?side1 ?side2 A224.out).mono ?_); (case side1 => exact q7_24); (case side2 => exact (Kd.R_reads' HO_443000.out).2.1); rintro e w250 ⟨rfl, hb⟩; refine ⟨_, rfl, ?_⟩; have n0_ := z7k (Kd.R_below q7_11 hb); have n1_ := z7k (Kd.R_below q7_12 hb); have n2_ := z7k (Kd.R_below q7_13 hb); have n3_ := z7k (Kd.R_below q7_14 hb); have n4_ := z7k (Kd.R_below q7_106 hb); have n5_ := z7k (blk_below (g := gb415) (o := .cells #[.slice A0_0 l0_0.length c0_0] 37 (0, 0)) q7_1 hb); have n6_ := z7k (blk_below (g := gb416) (o := .cells #[.slice A1_0 l1_0.length c1_0] 37 (0, 0)) q7_2 hb); have n7_ := z7k (blk_below (g := gb429) (o := .cells #[.slice Ao41 t425.length co41] 25 (0, 0)) q7_4 hb); have n8_ := z7k (blk_below (g := gb433) (o := .cells #[.slice Ao47 t453.length co47] 25 (0, 0)) q7_6 hb); have n9_ := z7k (blk_below (g := gb437) (o := .cells #[.slice Ao56 t455.length co56] 25 (0, 0)) q7_7 hb); have n10_ := z7k (blk_below (g := gb442) (o := .cells #[.slice Ao65 t458.length co65] 25 (0, 0)) q7_8 hb); have n11_ := z7k (blk_below (g := gb470) (o := .cells #[.slice Ao191 t466.length co191] 25 (0, 0)) q7_21 hb); have n12_ := z7k (below_step q7_3 hb); clear HO_430000; clear HO_434000; clear HO_438000; clear HO_443000; clear HO_471000; clear BK415; clear BK416; clear BK429; clear BK433; clear BK437; clear BK442; clear BK470; clear HB; have HO_430000 := n0_; have HO_434000 := n1_; have HO_438000 := n2_; have HO_443000 := n3_; have HO_471000 := n4_; have BK415 := n5_; have BK416 := n6_; have BK429 := n7_; have BK433 := n8_; have BK437 := n9_; have BK442 := n10_; have BK470 := n11_; have HB := n12_; clear n0_ n1_ n2_ n3_ n4_ n5_ n6_ n7_ n8_ n9_ n10_ n11_ n12_; (try clear hb); (try clear hb2); (try clear hk); (try clear hi)))
                  go_ret
                  exact ⟨q7_31, q7_3⟩
            ·rw [if_neg c169] at H
             have c169b0 : (t459 == t457) = false := beq_eq_false_iff_ne.mpr c169
             have c169b1 : (t459 != t457) = true := bne_iff_ne.mpr c169
             obtain rfl := Option.some.inj H
             have hnb251 := NB442_415.out;have hnc251 := NB415_442.out;have hnb252 := NB442_416.out;have hnc252 := NB416_442.out;have hnb253 := NB442_429.out;have hnc253 := NB429_442.out;have hnb254 := NB442_433.out;have hnc254 := NB433_442.out;have hnb255 := NB442_437.out;have hnc255 := NB437_442.out
             have hcz256_0 : wc.cell? ⟨gb442, 0, none⟩ = some (.slice Ao65 t438.length co65) := (blk_cell BK442.out 0).trans rfl
             have hfz256_0 := blk_frozen BK442.out 0
             go_wp2_with (first | ((with_reducible refine gate_callee (f := 22) rfl ?_); refine goesL_ (some 85) rfl rfl Try.func22 (by kernel_rfl) rfl #[.agg #[.slice Ao65 t438.length co65], .int .i64 1] rfl q7_5 ?_; (with_reducible refine (laws_markFew.calls kj106 (fun k_ => some k_ = (.slice Ao65 t438.length co65 : Value).ownBlock) (.slice Ao65 t438.length co65) t438 1 t457 t458 w _ ?side1 ?side2 A157.out).mono ?_); (case side1 => exact q7_0); (case side2 => exact Kd.R_tight rfl HO_443000.out); rintro e w257 ⟨rfl, hy0, hb, hkp⟩; refine ⟨_, rfl, ?_⟩; have n0_ := z7k (Kd.R_mono (ok' := fun k_ => some k_ ≠ (.slice Ao47 t453.length co47 : Value).ownBlock ∧ some k_ ≠ (.slice Ao56 t455.length co56 : Value).ownBlock ∧ some k_ ≠ (.slice Ao65 t438.length co65 : Value).ownBlock) (Kd.R_keptB (HO_430000.out) hkp (fun k_ hk_ hs_ => (hk_.2.2) hs_)) (fun k_ hk_ => ⟨hk_.1.1, hk_.1.2.1, hk_.1.2.2⟩)); have n1_ := z7k (Kd.R_mono (ok' := fun k_ => some k_ ≠ (.slice Ao41 t425.length co41 : Value).ownBlock ∧ some k_ ≠ (.slice Ao56 t455.length co56 : Value).ownBlock ∧ some k_ ≠ (.slice Ao65 t438.length co65 : Value).ownBlock) (Kd.R_keptB (HO_434000.out) hkp (fun k_ hk_ hs_ => (hk_.2.2) hs_)) (fun k_ hk_ => ⟨hk_.1.1, hk_.1.2.1, hk_.1.2.2⟩)); have n2_ := z7k (Kd.R_mono (ok' := fun k_ => some k_ ≠ (.slice Ao41 t425.length co41 : Value).ownBlock ∧ some k_ ≠ (.slice Ao47 t453.length co47 : Value).ownBlock ∧ some k_ ≠ (.slice Ao65 t438.length co65 : Value).ownBlock) (Kd.R_keptB (HO_438000.out) hkp (fun k_ hk_ hs_ => (hk_.2.2) hs_)) (fun k_ hk_ => ⟨hk_.1.1, hk_.1.2.1, hk_.1.2.2⟩)); have n3_ := z7k (Kd.R_reok rfl hy0 (fun k_ e_ => HO_443000.out.1 k_ e_)); have n4_ := z7k (blk_kept q7_1 hkp (fun hs_ => (fun e_ => (Kd.R_ne HO_443000.out BK415.out (by decide)) e_) hs_)); have n5_ := z7k (blk_kept q7_2 hkp (fun hs_ => (fun e_ => (Kd.R_ne HO_443000.out BK416.out (by decide)) e_) hs_)); have n6_ := z7k (blk_kept q7_4 hkp (fun hs_ => (fun e_ => (Kd.R_ne HO_443000.out BK429.out (by decide)) e_) hs_)); have n7_ := z7k (blk_kept q7_6 hkp (fun hs_ => (fun e_ => (Kd.R_ne HO_443000.out BK433.out (by decide)) e_) hs_)); have n8_ := z7k (blk_kept q7_7 hkp (fun hs_ => (fun e_ => (Kd.R_ne HO_443000.out BK437.out (by decide)) e_) hs_)); have n9_ := z7k (blk_kept q7_8 hkp (fun hs_ => (fun e_ => (Kd.R_ne HO_443000.out BK442.out (by decide)) e_) hs_)); have n10_ := z7k (hb); clear HO_430000; clear HO_434000; clear HO_438000; clear HO_443000; clear BK415; clear BK416; clear BK429; clear BK433; clear BK437; clear BK442; clear HB; have HO_430000 := n0_; have HO_434000 := n1_; have HO_438000 := n2_; have HO_443000 := n3_; have BK415 := n4_; have BK416 := n5_; have BK429 := n6_; have BK433 := n7_; have BK437 := n8_; have BK442 := n9_; have HB := n10_; clear n0_ n1_ n2_ n3_ n4_ n5_ n6_ n7_ n8_ n9_ n10_; (try clear hb); (try clear hkp); (try clear hy0); have hcz258_0 : w257.cell? ⟨gb442, 0, none⟩ = some (.slice Ao65 t438.length co65) := (blk_cell BK442.out 0).trans rfl; have hfz258_0 := blk_frozen BK442.out 0) | ((with_reducible refine gate_callee (f := 23) rfl ?_); refine goesL_ (some 88) rfl rfl Try.func23 (by kernel_rfl) rfl #[.agg #[.slice Ao65 t458.length co65], .int .i64 1] rfl q7_56 ?_; (with_reducible refine (laws_heldFew.calls kj106 _ _ t458 1 t459 _ ?side1 ?side2 A158.out).mono ?_); (case side1 => exact q7_24); (case side2 => exact q7_105); rintro e w259 ⟨rfl, hb⟩; refine ⟨_, rfl, ?_⟩; have n0_ := z7k (Kd.R_below q7_11 hb); have n1_ := z7k (Kd.R_below q7_12 hb); have n2_ := z7k (Kd.R_below q7_13 hb); have n3_ := z7k (Kd.R_below q7_14 hb); have n4_ := z7k (blk_below (g := gb415) (o := .cells #[.slice A0_0 l0_0.length c0_0] 37 (0, 0)) q7_1 hb); have n5_ := z7k (blk_below (g := gb416) (o := .cells #[.slice A1_0 l1_0.length c1_0] 37 (0, 0)) q7_2 hb); have n6_ := z7k (blk_below (g := gb429) (o := .cells #[.slice Ao41 t425.length co41] 25 (0, 0)) q7_4 hb); have n7_ := z7k (blk_below (g := gb433) (o := .cells #[.slice Ao47 t453.length co47] 25 (0, 0)) q7_6 hb); have n8_ := z7k (blk_below (g := gb437) (o := .cells #[.slice Ao56 t455.length co56] 25 (0, 0)) q7_7 hb); have n9_ := z7k (blk_below (g := gb442) (o := .cells #[.slice Ao65 t438.length co65] 25 (0, 0)) q7_8 hb); have n10_ := z7k (below_step q7_0 hb); clear HO_430000; clear HO_434000; clear HO_438000; clear HO_443000; clear BK415; clear BK416; clear BK429; clear BK433; clear BK437; clear BK442; clear HB; have HO_430000 := n0_; have HO_434000 := n1_; have HO_438000 := n2_; have HO_443000 := n3_; have BK415 := n4_; have BK416 := n5_; have BK429 := n6_; have BK433 := n7_; have BK437 := n8_; have BK442 := n9_; have HB := n10_; clear n0_ n1_ n2_ n3_ n4_ n5_ n6_ n7_ n8_ n9_ n10_; (try clear hb); (try clear hb2); (try clear hk); (try clear hi)))
             go_ret
             exact ⟨q7_31, q7_0⟩
       ·replace c104 := Bool.eq_false_iff.mpr c104
        subst c104
        have H1 : (some false) = some r := by rw [if_neg (show ¬ (false = true) by decide)] at H; exact H
        clear H;have H := H1;clear H1
        obtain rfl := Option.some.inj H
        try go_wp2
        have n0_ := z7k (Kd.R_drew HO_430000.out);have n1_ := z7k (Kd.R_drew HO_434000.out);have n2_ := z7k (Kd.R_drew HO_438000.out);have n3_ := z7k (Kd.R_drew HO_443000.out);have n4_ := z7k (blk_drew BK415.out);have n5_ := z7k (blk_drew BK416.out);have n6_ := z7k (blk_drew BK429.out);have n7_ := z7k (blk_drew BK433.out);have n8_ := z7k (blk_drew BK437.out);have n9_ := z7k (blk_drew BK442.out);have n10_ := z7k (below_drew1 HB.out);clear HO_430000 HO_434000 HO_438000 HO_443000 BK415 BK416 BK429 BK433 BK437 BK442 HB;have HO_430000 := n0_;have HO_434000 := n1_;have HO_438000 := n2_;have HO_443000 := n3_;have BK415 := n4_;have BK416 := n5_;have BK429 := n6_;have BK433 := n7_;have BK437 := n8_;have BK442 := n9_;have HB := n10_;clear n0_ n1_ n2_ n3_ n4_ n5_ n6_ n7_ n8_ n9_ n10_;refine start_ (n := 5) (S := fun w' => w'.cell? ⟨gb433, 0, none⟩ = some (.slice Ao47 t430.length co47) ∧ w'.cell? ⟨gb415, 0, none⟩ = some (.slice A0_0 l0_0.length c0_0)) (ds := []) #[false, false, false, false, false] (by kernel_rfl) rfl rfl ⟨(blk_cell BK433.out 0).trans rfl, (blk_cell BK415.out 0).trans rfl⟩ (fun hHeld => ?_)
        generalize wc.drew = w260 at HO_430000 HO_434000 HO_438000 HO_443000 BK415 BK416 BK429 BK433 BK437 BK442 HB hHeld ⊢
        refine take_ (i := 0) (N := some 54) (v := ?_) (a' := ?_) #[true, false, false, false, false] rfl rfl (by kernel_rfl) (fun _ _ _ h => h) (Or.inl ⟨by rfl, ?_⟩) hHeld ?_ ?_;rotate_left
        ·rintro w' ⟨s0, s1⟩
         go_simp
         with_reducible rfl
        rotate_left
        ·simp only [Act.put, z7a, z7b, z7c, i64_w, i32_w]
         rfl
        refine take_ (i := 1) (N := some 55) (v := ?_) (a' := ?_) #[true, true, false, false, false] rfl rfl (by kernel_rfl) (fun _ _ _ h => h) (Or.inl ⟨by rfl, ?_⟩) hHeld ?_ ?_;rotate_left
        ·rintro w' ⟨s0, s1⟩
         go_simp
         with_reducible rfl
        rotate_left
        ·simp only [Act.put, z7a, z7b, z7c, i64_w, i32_w]
         rfl
        refine one_ (i := 2) (N := some 56) #[true, true, true, false, false] rfl rfl (by kernel_rfl) (by decide) (fun K hK => ?_);refine goes_ Try.func20 (by kernel_rfl) rfl #[.agg #[.slice A0_0 l0_0.length c0_0]] (by rfl) rfl rfl q7_5 ?_
        with_reducible refine (laws_toFew.calls kj24 _ _ l0_0 t444 _ ?side1 ?side2 A99.out).mono ?_
        (case side1 => exact q7_17);(case side2 => exact HC0_0.out);rintro e w261 ⟨v445, rfl, ho0, hb⟩;refine ⟨_, rfl, ?_⟩;have n0_ := z7k (Kd.R_elder' q7_11 (Kd.R_base ho0) hb);have n1_ := z7k (Kd.R_elder' q7_12 (Kd.R_base ho0) hb);have n2_ := z7k (Kd.R_elder' q7_13 (Kd.R_base ho0) hb);have n3_ := z7k (Kd.R_elder' q7_14 (Kd.R_base ho0) hb);have n4_ := z7k (Kd.R_lower (Kd.R_new' (Kd.R_new' (Kd.R_new' (Kd.R_new' ho0 (Kd.R_lt q7_11)) (Kd.R_lt q7_12)) (Kd.R_lt q7_13)) (Kd.R_lt q7_14)) (below_size q7_0));have n5_ := z7k (blk_below (g := gb415) (o := .cells #[.slice A0_0 l0_0.length c0_0] 37 (0, 0)) q7_1 hb);have n6_ := z7k (blk_below (g := gb416) (o := .cells #[.slice A1_0 l1_0.length c1_0] 37 (0, 0)) q7_2 hb);have n7_ := z7k (blk_below (g := gb429) (o := .cells #[.slice Ao41 t425.length co41] 25 (0, 0)) q7_4 hb);have n8_ := z7k (blk_below (g := gb433) (o := .cells #[.slice Ao47 t430.length co47] 25 (0, 0)) q7_6 hb);have n9_ := z7k (blk_below (g := gb437) (o := .cells #[.slice Ao56 t434.length co56] 25 (0, 0)) q7_7 hb);have n10_ := z7k (blk_below (g := gb442) (o := .cells #[.slice Ao65 t438.length co65] 25 (0, 0)) q7_8 hb);have n11_ := z7k (below_step q7_0 hb);clear HO_430000 HO_434000 HO_438000 HO_443000 BK415 BK416 BK429 BK433 BK437 BK442 HB;have HO_430000 := n0_;have HO_434000 := n1_;have HO_438000 := n2_;have HO_443000 := n3_;have HO446 := n4_;have BK415 := n5_;have BK416 := n6_;have BK429 := n7_;have BK433 := n8_;have BK437 := n9_;have BK442 := n10_;have HB := n11_;clear n0_ n1_ n2_ n3_ n4_ n5_ n6_ n7_ n8_ n9_ n10_ n11_;(try clear hb);(try clear hb2);(try clear hk);(try clear hi);(try clear ho0);obtain ⟨Ao262, co262, eo262⟩ := Kd.R_slice HO446.out;(first | subst eo262 | (injection eo262 with f1_ f2_ f3_; have f4_ := f1_.symm; have f5_ := f3_.symm; clear f1_ f2_ f3_; subst f4_; subst f5_));refine hK.out _ _ ⟨(blk_cell BK433.out 0).trans rfl, (blk_cell BK415.out 0).trans rfl⟩ (fun hHeld => ?_);clear hK K;refine norm_ (a' := ?_) ?_ ?_;rotate_left
        ·show Act.put _ (some 56) _ = _
         simp only [Act.put, z7a, z7b, z7c, i64_w, i32_w]
         rfl
        refine one_ (i := 3) (N := some 57) #[true, true, true, true, false] rfl rfl (by kernel_rfl) (by decide) (fun K hK => ?_);refine goes_ Try.func21 (by kernel_rfl) rfl #[.agg #[.slice Ao47 t430.length co47], .agg #[.slice Ao262 t444.length co262]] (by rfl) rfl rfl q7_5 ?_
        with_reducible refine (laws_eqFew.calls kj24 _ _ t430 _ _ t444 true _ ?side1 ?side2 ?side3 ?side4 A100.out).mono ?_
        (case side1 => exact q7_62);(case side2 => exact (Kd.R_reads' HO_434000.out).2.1);(case side3 => exact q7_63);(case side4 => exact (Kd.R_reads' HO446.out).2.1);rintro e w263 ⟨rfl, hb⟩;refine ⟨_, rfl, ?_⟩;have n0_ := z7k (Kd.R_below q7_11 hb);have n1_ := z7k (Kd.R_below q7_12 hb);have n2_ := z7k (Kd.R_below q7_13 hb);have n3_ := z7k (Kd.R_below q7_14 hb);have n4_ := z7k (Kd.R_below q7_30 hb);have n5_ := z7k (blk_below (g := gb415) (o := .cells #[.slice A0_0 l0_0.length c0_0] 37 (0, 0)) q7_1 hb);have n6_ := z7k (blk_below (g := gb416) (o := .cells #[.slice A1_0 l1_0.length c1_0] 37 (0, 0)) q7_2 hb);have n7_ := z7k (blk_below (g := gb429) (o := .cells #[.slice Ao41 t425.length co41] 25 (0, 0)) q7_4 hb);have n8_ := z7k (blk_below (g := gb433) (o := .cells #[.slice Ao47 t430.length co47] 25 (0, 0)) q7_6 hb);have n9_ := z7k (blk_below (g := gb437) (o := .cells #[.slice Ao56 t434.length co56] 25 (0, 0)) q7_7 hb);have n10_ := z7k (blk_below (g := gb442) (o := .cells #[.slice Ao65 t438.length co65] 25 (0, 0)) q7_8 hb);have n11_ := z7k (below_step q7_0 hb);clear HO_430000 HO_434000 HO_438000 HO_443000 HO446 BK415 BK416 BK429 BK433 BK437 BK442 HB;have HO_430000 := n0_;have HO_434000 := n1_;have HO_438000 := n2_;have HO_443000 := n3_;have HO446 := n4_;have BK415 := n5_;have BK416 := n6_;have BK429 := n7_;have BK433 := n8_;have BK437 := n9_;have BK442 := n10_;have HB := n11_;clear n0_ n1_ n2_ n3_ n4_ n5_ n6_ n7_ n8_ n9_ n10_ n11_;(try clear hb);(try clear hb2);(try clear hk);(try clear hi);refine hK.out _ _ ⟨(blk_cell BK433.out 0).trans rfl, (blk_cell BK415.out 0).trans rfl⟩ (fun hHeld => ?_);clear hK K;refine norm_ (a' := ?_) ?_ ?_;rotate_left
        ·show Act.put _ (some 57) _ = _
         simp only [Act.put, z7a, z7b, z7c, i64_w, i32_w]
         rfl
        refine pure_ (i := 4) (N := some 58) (v := ?_) (a' := ?_) #[true, true, true, true, true] rfl rfl (by kernel_rfl) (fun _ _ _ h => h) (Or.inl ⟨by rfl, ?_⟩) ?_ ?_;rotate_left
        ·intro w'
         go_simp
         with_reducible rfl
        rotate_left
        ·simp only [Act.put, z7a, z7b, z7c, i64_w, i32_w]
         rfl
        refine done_ (by kernel_rfl) ?_
        try go_wp2
        have n0_ := z7k (Kd.R_drew HO_430000.out);have n1_ := z7k (Kd.R_drew HO_434000.out);have n2_ := z7k (Kd.R_drew HO_438000.out);have n3_ := z7k (Kd.R_drew HO_443000.out);have n4_ := z7k (Kd.R_drew HO446.out);have n5_ := z7k (blk_drew BK415.out);have n6_ := z7k (blk_drew BK416.out);have n7_ := z7k (blk_drew BK429.out);have n8_ := z7k (blk_drew BK433.out);have n9_ := z7k (blk_drew BK437.out);have n10_ := z7k (blk_drew BK442.out);have n11_ := z7k (below_drew1 HB.out);clear HO_430000 HO_434000 HO_438000 HO_443000 HO446 BK415 BK416 BK429 BK433 BK437 BK442 HB;have HO_430000 := n0_;have HO_434000 := n1_;have HO_438000 := n2_;have HO_443000 := n3_;have HO446 := n4_;have BK415 := n5_;have BK416 := n6_;have BK429 := n7_;have BK433 := n8_;have BK437 := n9_;have BK442 := n10_;have HB := n11_;clear n0_ n1_ n2_ n3_ n4_ n5_ n6_ n7_ n8_ n9_ n10_ n11_;refine start_ (n := 5) (S := fun w' => w'.cell? ⟨gb437, 0, none⟩ = some (.slice Ao56 t434.length co56) ∧ w'.cell? ⟨gb416, 0, none⟩ = some (.slice A1_0 l1_0.length c1_0)) (ds := []) #[false, false, false, false, false] (by kernel_rfl) rfl rfl ⟨(blk_cell BK437.out 0).trans rfl, (blk_cell BK416.out 0).trans rfl⟩ (fun hHeld => ?_)
        generalize w263.drew = w264 at HO_430000 HO_434000 HO_438000 HO_443000 HO446 BK415 BK416 BK429 BK433 BK437 BK442 HB hHeld ⊢
        refine take_ (i := 0) (N := some 59) (v := ?_) (a' := ?_) #[true, false, false, false, false] rfl rfl (by kernel_rfl) (fun _ _ _ h => h) (Or.inl ⟨by rfl, ?_⟩) hHeld ?_ ?_;rotate_left
        ·rintro w' ⟨s0, s1⟩
         go_simp
         with_reducible rfl
        rotate_left
        ·simp only [Act.put, z7a, z7b, z7c, i64_w, i32_w]
         rfl
        refine take_ (i := 1) (N := some 60) (v := ?_) (a' := ?_) #[true, true, false, false, false] rfl rfl (by kernel_rfl) (fun _ _ _ h => h) (Or.inl ⟨by rfl, ?_⟩) hHeld ?_ ?_;rotate_left
        ·rintro w' ⟨s0, s1⟩
         go_simp
         with_reducible rfl
        rotate_left
        ·simp only [Act.put, z7a, z7b, z7c, i64_w, i32_w]
         rfl
        refine one_ (i := 2) (N := some 61) #[true, true, true, false, false] rfl rfl (by kernel_rfl) (by decide) (fun K hK => ?_);refine goes_ Try.func20 (by kernel_rfl) rfl #[.agg #[.slice A1_0 l1_0.length c1_0]] (by rfl) rfl rfl q7_5 ?_
        with_reducible refine (laws_toFew.calls kj24 _ _ l1_0 t448 _ ?side1 ?side2 A102.out).mono ?_
        (case side1 => exact q7_18);(case side2 => exact HC1_0.out);rintro e w265 ⟨v449, rfl, ho0, hb⟩;refine ⟨_, rfl, ?_⟩;have n0_ := z7k (Kd.R_elder' q7_11 (Kd.R_base ho0) hb);have n1_ := z7k (Kd.R_elder' q7_12 (Kd.R_base ho0) hb);have n2_ := z7k (Kd.R_elder' q7_13 (Kd.R_base ho0) hb);have n3_ := z7k (Kd.R_elder' q7_14 (Kd.R_base ho0) hb);have n4_ := z7k (Kd.R_elder' q7_30 (Kd.R_base ho0) hb);have n5_ := z7k (Kd.R_lower (Kd.R_new' (Kd.R_new' (Kd.R_new' (Kd.R_new' (Kd.R_new' ho0 (Kd.R_lt q7_11)) (Kd.R_lt q7_12)) (Kd.R_lt q7_13)) (Kd.R_lt q7_14)) (Kd.R_lt q7_30)) (below_size q7_0));have n6_ := z7k (blk_below (g := gb415) (o := .cells #[.slice A0_0 l0_0.length c0_0] 37 (0, 0)) q7_1 hb);have n7_ := z7k (blk_below (g := gb416) (o := .cells #[.slice A1_0 l1_0.length c1_0] 37 (0, 0)) q7_2 hb);have n8_ := z7k (blk_below (g := gb429) (o := .cells #[.slice Ao41 t425.length co41] 25 (0, 0)) q7_4 hb);have n9_ := z7k (blk_below (g := gb433) (o := .cells #[.slice Ao47 t430.length co47] 25 (0, 0)) q7_6 hb);have n10_ := z7k (blk_below (g := gb437) (o := .cells #[.slice Ao56 t434.length co56] 25 (0, 0)) q7_7 hb);have n11_ := z7k (blk_below (g := gb442) (o := .cells #[.slice Ao65 t438.length co65] 25 (0, 0)) q7_8 hb);have n12_ := z7k (below_step q7_0 hb);clear HO_430000 HO_434000 HO_438000 HO_443000 HO446 BK415 BK416 BK429 BK433 BK437 BK442 HB;have HO_430000 := n0_;have HO_434000 := n1_;have HO_438000 := n2_;have HO_443000 := n3_;have HO446 := n4_;have HO450 := n5_;have BK415 := n6_;have BK416 := n7_;have BK429 := n8_;have BK433 := n9_;have BK437 := n10_;have BK442 := n11_;have HB := n12_;clear n0_ n1_ n2_ n3_ n4_ n5_ n6_ n7_ n8_ n9_ n10_ n11_ n12_;(try clear hb);(try clear hb2);(try clear hk);(try clear hi);(try clear ho0);obtain ⟨Ao266, co266, eo266⟩ := Kd.R_slice HO450.out;(first | subst eo266 | (injection eo266 with f1_ f2_ f3_; have f4_ := f1_.symm; have f5_ := f3_.symm; clear f1_ f2_ f3_; subst f4_; subst f5_));refine hK.out _ _ ⟨(blk_cell BK437.out 0).trans rfl, (blk_cell BK416.out 0).trans rfl⟩ (fun hHeld => ?_);clear hK K;refine norm_ (a' := ?_) ?_ ?_;rotate_left
        ·show Act.put _ (some 61) _ = _
         simp only [Act.put, z7a, z7b, z7c, i64_w, i32_w]
         rfl
        refine one_ (i := 3) (N := some 62) #[true, true, true, true, false] rfl rfl (by kernel_rfl) (by decide) (fun K hK => ?_);refine goes_ Try.func21 (by kernel_rfl) rfl #[.agg #[.slice Ao56 t434.length co56], .agg #[.slice Ao266 t448.length co266]] (by rfl) rfl rfl q7_5 ?_
        with_reducible refine (laws_eqFew.calls kj24 _ _ t434 _ _ t448 false _ ?side1 ?side2 ?side3 ?side4 A103.out).mono ?_
        (case side1 => exact q7_110);(case side2 => exact (Kd.R_reads' HO_438000.out).2.1);(case side3 => exact q7_112);(case side4 => exact (Kd.R_reads' HO450.out).2.1);rintro e w267 ⟨rfl, hb⟩;refine ⟨_, rfl, ?_⟩;have n0_ := z7k (Kd.R_below q7_11 hb);have n1_ := z7k (Kd.R_below q7_12 hb);have n2_ := z7k (Kd.R_below q7_13 hb);have n3_ := z7k (Kd.R_below q7_14 hb);have n4_ := z7k (Kd.R_below q7_30 hb);have n5_ := z7k (Kd.R_below q7_71 hb);have n6_ := z7k (blk_below (g := gb415) (o := .cells #[.slice A0_0 l0_0.length c0_0] 37 (0, 0)) q7_1 hb);have n7_ := z7k (blk_below (g := gb416) (o := .cells #[.slice A1_0 l1_0.length c1_0] 37 (0, 0)) q7_2 hb);have n8_ := z7k (blk_below (g := gb429) (o := .cells #[.slice Ao41 t425.length co41] 25 (0, 0)) q7_4 hb);have n9_ := z7k (blk_below (g := gb433) (o := .cells #[.slice Ao47 t430.length co47] 25 (0, 0)) q7_6 hb);have n10_ := z7k (blk_below (g := gb437) (o := .cells #[.slice Ao56 t434.length co56] 25 (0, 0)) q7_7 hb);have n11_ := z7k (blk_below (g := gb442) (o := .cells #[.slice Ao65 t438.length co65] 25 (0, 0)) q7_8 hb);have n12_ := z7k (below_step q7_0 hb);clear HO_430000 HO_434000 HO_438000 HO_443000 HO446 HO450 BK415 BK416 BK429 BK433 BK437 BK442 HB;have HO_430000 := n0_;have HO_434000 := n1_;have HO_438000 := n2_;have HO_443000 := n3_;have HO446 := n4_;have HO450 := n5_;have BK415 := n6_;have BK416 := n7_;have BK429 := n8_;have BK433 := n9_;have BK437 := n10_;have BK442 := n11_;have HB := n12_;clear n0_ n1_ n2_ n3_ n4_ n5_ n6_ n7_ n8_ n9_ n10_ n11_ n12_;(try clear hb);(try clear hb2);(try clear hk);(try clear hi);refine hK.out _ _ ⟨(blk_cell BK437.out 0).trans rfl, (blk_cell BK416.out 0).trans rfl⟩ (fun hHeld => ?_);clear hK K;refine norm_ (a' := ?_) ?_ ?_;rotate_left
        ·show Act.put _ (some 62) _ = _
         simp only [Act.put, z7a, z7b, z7c, i64_w, i32_w]
         rfl
        refine pure_ (i := 4) (N := some 63) (v := ?_) (a' := ?_) #[true, true, true, true, true] rfl rfl (by kernel_rfl) (fun _ _ _ h => h) (Or.inl ⟨by rfl, ?_⟩) ?_ ?_;rotate_left
        ·intro w'
         go_simp
         with_reducible rfl
        rotate_left
        ·simp only [Act.put, z7a, z7b, z7c, i64_w, i32_w]
         rfl
        refine done_ (by kernel_rfl) ?_
        try go_wp2
        go_ret
        exact ⟨q7_31, q7_0⟩
      ·replace c101 := Bool.eq_false_iff.mpr c101
       subst c101
       have H1 : (some false) = some r := by rw [if_neg (show ¬ (false = true) by decide)] at H; exact H
       clear H;have H := H1;clear H1
       obtain rfl := Option.some.inj H
       try go_wp2
       have n0_ := z7k (Kd.R_drew HO_430000.out);have n1_ := z7k (Kd.R_drew HO_434000.out);have n2_ := z7k (Kd.R_drew HO_438000.out);have n3_ := z7k (Kd.R_drew HO_443000.out);have n4_ := z7k (blk_drew BK415.out);have n5_ := z7k (blk_drew BK416.out);have n6_ := z7k (blk_drew BK429.out);have n7_ := z7k (blk_drew BK433.out);have n8_ := z7k (blk_drew BK437.out);have n9_ := z7k (blk_drew BK442.out);have n10_ := z7k (below_drew1 HB.out);clear HO_430000 HO_434000 HO_438000 HO_443000 BK415 BK416 BK429 BK433 BK437 BK442 HB;have HO_430000 := n0_;have HO_434000 := n1_;have HO_438000 := n2_;have HO_443000 := n3_;have BK415 := n4_;have BK416 := n5_;have BK429 := n6_;have BK433 := n7_;have BK437 := n8_;have BK442 := n9_;have HB := n10_;clear n0_ n1_ n2_ n3_ n4_ n5_ n6_ n7_ n8_ n9_ n10_;refine start_ (n := 5) (S := fun w' => w'.cell? ⟨gb433, 0, none⟩ = some (.slice Ao47 t430.length co47) ∧ w'.cell? ⟨gb415, 0, none⟩ = some (.slice A0_0 l0_0.length c0_0)) (ds := []) #[false, false, false, false, false] (by kernel_rfl) rfl rfl ⟨(blk_cell BK433.out 0).trans rfl, (blk_cell BK415.out 0).trans rfl⟩ (fun hHeld => ?_)
       generalize wc.drew = w268 at HO_430000 HO_434000 HO_438000 HO_443000 BK415 BK416 BK429 BK433 BK437 BK442 HB hHeld ⊢
       refine take_ (i := 0) (N := some 54) (v := ?_) (a' := ?_) #[true, false, false, false, false] rfl rfl (by kernel_rfl) (fun _ _ _ h => h) (Or.inl ⟨by rfl, ?_⟩) hHeld ?_ ?_;rotate_left
       ·rintro w' ⟨s0, s1⟩
        go_simp
        with_reducible rfl
       rotate_left
       ·simp only [Act.put, z7a, z7b, z7c, i64_w, i32_w]
        rfl
       refine take_ (i := 1) (N := some 55) (v := ?_) (a' := ?_) #[true, true, false, false, false] rfl rfl (by kernel_rfl) (fun _ _ _ h => h) (Or.inl ⟨by rfl, ?_⟩) hHeld ?_ ?_;rotate_left
       ·rintro w' ⟨s0, s1⟩
        go_simp
        with_reducible rfl
       rotate_left
       ·simp only [Act.put, z7a, z7b, z7c, i64_w, i32_w]
        rfl
       refine one_ (i := 2) (N := some 56) #[true, true, true, false, false] rfl rfl (by kernel_rfl) (by decide) (fun K hK => ?_);refine goes_ Try.func20 (by kernel_rfl) rfl #[.agg #[.slice A0_0 l0_0.length c0_0]] (by rfl) rfl rfl q7_5 ?_
       with_reducible refine (laws_toFew.calls kj24 _ _ l0_0 t444 _ ?side1 ?side2 A99.out).mono ?_
       (case side1 => exact q7_17);(case side2 => exact HC0_0.out);rintro e w269 ⟨v445, rfl, ho0, hb⟩;refine ⟨_, rfl, ?_⟩;have n0_ := z7k (Kd.R_elder' q7_11 (Kd.R_base ho0) hb);have n1_ := z7k (Kd.R_elder' q7_12 (Kd.R_base ho0) hb);have n2_ := z7k (Kd.R_elder' q7_13 (Kd.R_base ho0) hb);have n3_ := z7k (Kd.R_elder' q7_14 (Kd.R_base ho0) hb);have n4_ := z7k (Kd.R_lower (Kd.R_new' (Kd.R_new' (Kd.R_new' (Kd.R_new' ho0 (Kd.R_lt q7_11)) (Kd.R_lt q7_12)) (Kd.R_lt q7_13)) (Kd.R_lt q7_14)) (below_size q7_0));have n5_ := z7k (blk_below (g := gb415) (o := .cells #[.slice A0_0 l0_0.length c0_0] 37 (0, 0)) q7_1 hb);have n6_ := z7k (blk_below (g := gb416) (o := .cells #[.slice A1_0 l1_0.length c1_0] 37 (0, 0)) q7_2 hb);have n7_ := z7k (blk_below (g := gb429) (o := .cells #[.slice Ao41 t425.length co41] 25 (0, 0)) q7_4 hb);have n8_ := z7k (blk_below (g := gb433) (o := .cells #[.slice Ao47 t430.length co47] 25 (0, 0)) q7_6 hb);have n9_ := z7k (blk_below (g := gb437) (o := .cells #[.slice Ao56 t434.length co56] 25 (0, 0)) q7_7 hb);have n10_ := z7k (blk_below (g := gb442) (o := .cells #[.slice Ao65 t438.length co65] 25 (0, 0)) q7_8 hb);have n11_ := z7k (below_step q7_0 hb);clear HO_430000 HO_434000 HO_438000 HO_443000 BK415 BK416 BK429 BK433 BK437 BK442 HB;have HO_430000 := n0_;have HO_434000 := n1_;have HO_438000 := n2_;have HO_443000 := n3_;have HO446 := n4_;have BK415 := n5_;have BK416 := n6_;have BK429 := n7_;have BK433 := n8_;have BK437 := n9_;have BK442 := n10_;have HB := n11_;clear n0_ n1_ n2_ n3_ n4_ n5_ n6_ n7_ n8_ n9_ n10_ n11_;(try clear hb);(try clear hb2);(try clear hk);(try clear hi);(try clear ho0);obtain ⟨Ao270, co270, eo270⟩ := Kd.R_slice HO446.out;(first | subst eo270 | (injection eo270 with f1_ f2_ f3_; have f4_ := f1_.symm; have f5_ := f3_.symm; clear f1_ f2_ f3_; subst f4_; subst f5_));refine hK.out _ _ ⟨(blk_cell BK433.out 0).trans rfl, (blk_cell BK415.out 0).trans rfl⟩ (fun hHeld => ?_);clear hK K;refine norm_ (a' := ?_) ?_ ?_;rotate_left
       ·show Act.put _ (some 56) _ = _
        simp only [Act.put, z7a, z7b, z7c, i64_w, i32_w]
        rfl
       refine one_ (i := 3) (N := some 57) #[true, true, true, true, false] rfl rfl (by kernel_rfl) (by decide) (fun K hK => ?_);refine goes_ Try.func21 (by kernel_rfl) rfl #[.agg #[.slice Ao47 t430.length co47], .agg #[.slice Ao270 t444.length co270]] (by rfl) rfl rfl q7_5 ?_
       with_reducible refine (laws_eqFew.calls kj24 _ _ t430 _ _ t444 false _ ?side1 ?side2 ?side3 ?side4 A100.out).mono ?_
       (case side1 => exact q7_62);(case side2 => exact (Kd.R_reads' HO_434000.out).2.1);(case side3 => exact q7_63);(case side4 => exact (Kd.R_reads' HO446.out).2.1);rintro e w271 ⟨rfl, hb⟩;refine ⟨_, rfl, ?_⟩;have n0_ := z7k (Kd.R_below q7_11 hb);have n1_ := z7k (Kd.R_below q7_12 hb);have n2_ := z7k (Kd.R_below q7_13 hb);have n3_ := z7k (Kd.R_below q7_14 hb);have n4_ := z7k (Kd.R_below q7_30 hb);have n5_ := z7k (blk_below (g := gb415) (o := .cells #[.slice A0_0 l0_0.length c0_0] 37 (0, 0)) q7_1 hb);have n6_ := z7k (blk_below (g := gb416) (o := .cells #[.slice A1_0 l1_0.length c1_0] 37 (0, 0)) q7_2 hb);have n7_ := z7k (blk_below (g := gb429) (o := .cells #[.slice Ao41 t425.length co41] 25 (0, 0)) q7_4 hb);have n8_ := z7k (blk_below (g := gb433) (o := .cells #[.slice Ao47 t430.length co47] 25 (0, 0)) q7_6 hb);have n9_ := z7k (blk_below (g := gb437) (o := .cells #[.slice Ao56 t434.length co56] 25 (0, 0)) q7_7 hb);have n10_ := z7k (blk_below (g := gb442) (o := .cells #[.slice Ao65 t438.length co65] 25 (0, 0)) q7_8 hb);have n11_ := z7k (below_step q7_0 hb);clear HO_430000 HO_434000 HO_438000 HO_443000 HO446 BK415 BK416 BK429 BK433 BK437 BK442 HB;have HO_430000 := n0_;have HO_434000 := n1_;have HO_438000 := n2_;have HO_443000 := n3_;have HO446 := n4_;have BK415 := n5_;have BK416 := n6_;have BK429 := n7_;have BK433 := n8_;have BK437 := n9_;have BK442 := n10_;have HB := n11_;clear n0_ n1_ n2_ n3_ n4_ n5_ n6_ n7_ n8_ n9_ n10_ n11_;(try clear hb);(try clear hb2);(try clear hk);(try clear hi);refine hK.out _ _ ⟨(blk_cell BK433.out 0).trans rfl, (blk_cell BK415.out 0).trans rfl⟩ (fun hHeld => ?_);clear hK K;refine norm_ (a' := ?_) ?_ ?_;rotate_left
       ·show Act.put _ (some 57) _ = _
        simp only [Act.put, z7a, z7b, z7c, i64_w, i32_w]
        rfl
       refine pure_ (i := 4) (N := some 58) (v := ?_) (a' := ?_) #[true, true, true, true, true] rfl rfl (by kernel_rfl) (fun _ _ _ h => h) (Or.inl ⟨by rfl, ?_⟩) ?_ ?_;rotate_left
       ·intro w'
        go_simp
        with_reducible rfl
       rotate_left
       ·simp only [Act.put, z7a, z7b, z7c, i64_w, i32_w]
        rfl
       refine done_ (by kernel_rfl) ?_
       try go_wp2
       go_ret
       exact ⟨q7_31, q7_0⟩

end Go.Proofs.Ytnolipncjjclcaa.PA
