-- Made by a program of this session (wip/tools/pr2.sh) out of the translation, by way of the printer: shared by the seat's laws.
import Derived.Test.YtojhkhpgahhacaaPAx0
import Derived.Test.YtojhkhpgahhacaaPAx11
import Derived.Test.YtojhkhpgahhacaaPAx12
import Derived.Test.YtojhkhpgahhacaaPAx14
import Derived.Test.YtojhkhpgahhacaaPAx15
import Derived.Test.YtojhkhpgahhacaaPAx21
import Derived.Test.YtojhkhpgahhacaaPAx23
import Derived.Test.YtojhkhpgahhacaaPAx25
namespace Go.Proofs.Ytojhkhpgahhacaa.PA
open Go.RowKit Go.Proofs.YtojhkhpgahhacaaW.PrintWords Go.Proofs.YtojhkhpgahhacaaW.PrintLast Go.Proofs.YtojhkhpgahhacaaW.PrintMore
attribute [local go_sem] max2_int min2_int max_two min_two max_three min_three max_four min_four   -- for this text's walks alone
set_option linter.unusedVariables false
set_option linter.unusedSimpArgs false

/-! ### laws_FnRoughJoin: function 4 -/
def laws_FnRoughJoin.j0 : Nat → Bool → Bool → Bool → List (List Int) → List (List Int) → List (List Int) → List (List Int) → Option (Bool)
  | 0, _, _, _, _, _, _, _ => none
  | k + 1, x6, x8, x45, x346000, x347000, x352000, x357000 => if x45 = true then (if (x8 == x6) = true then ((laws_lkRough.f k x357000 x352000).bind fun t358 => (some t358)) else (some false)) else ((impl_RoughJoin.f k x347000 x346000).bind fun bt359 => ((impl_RoughNew.f k).bind fun t364 => ((impl_RoughJoin.f k x346000 t364).bind fun bt367 => ((impl_RoughOk.f k x357000).bind fun t372 => (if t372 = true then (if bt359.2 = true then ((laws_lkRough.f k bt359.1 x357000).bind fun t373 => (if t373 = true then (if bt367.2 = true then ((laws_lkRough.f k bt367.1 x346000).bind fun t374 => (if t374 = true then ((impl_RoughAll.f k x357000).bind fun t375 => ((impl_RoughAll.f k x346000).bind fun t376 => ((impl_RoughAll.f k x347000).bind fun t377 => (some (t375 == (wrap64 (t376 + t377))))))) else (some false))) else (some false)) else (some false))) else (some false)) else (some false))))))
def laws_FnRoughJoin.f (k : Nat) (l0 : List Int) : Option (Bool) := if (l0.length : Int) > 1048576 then (some true) else ((spec_DrawRoughJoin.f k l0).bind fun bt339 => ((spec_RoughJoin.f k bt339.1 bt339.2).bind fun bt347 => ((impl_RoughJoin.f k bt339.1 bt339.2).bind fun bt352 => (if (bt352.2 != bt347.2) = true then (laws_FnRoughJoin.j0 k bt347.2 bt352.2 true bt339.1 bt339.2 bt347.1 bt352.1) else ((laws_lkRough.f k bt352.1 bt347.1).bind fun t357 => (if t357 = true then (laws_FnRoughJoin.j0 k bt347.2 bt352.2 (!bt352.2) bt339.1 bt339.2 bt347.1 bt352.1) else (laws_FnRoughJoin.j0 k bt347.2 bt352.2 true bt339.1 bt339.2 bt347.1 bt352.1)))))))
theorem laws_FnRoughJoin.mono_l : ∀ k, (∀ y0 y1 y2 y3 y4 y5 y6, LeO (laws_FnRoughJoin.j0 k y0 y1 y2 y3 y4 y5 y6) (laws_FnRoughJoin.j0 (k + 1) y0 y1 y2 y3 y4 y5 y6))
  | 0 => fun _ _ _ _ _ _ _ r h => by simp [laws_FnRoughJoin.j0] at h
  | k + 1 => by
    have ih0 := laws_FnRoughJoin.mono_l k
    · intro y0 y1 y2 y3 y4 y5 y6
      unfold laws_FnRoughJoin.j0
      repeat' first
      | (with_reducible exact ih0 _ _ _ _ _ _ _)
      | (with_reducible exact impl_RoughAll.mono _ _)
      | (with_reducible exact impl_RoughJoin.mono _ _ _)
      | (with_reducible exact impl_RoughNew.mono _)
      | (with_reducible exact impl_RoughOk.mono _ _)
      | (with_reducible exact laws_lkRough.mono _ _ _)
      | (with_reducible exact spec_DrawRoughJoin.mono _ _)
      | (with_reducible exact spec_RoughJoin.mono _ _ _)
      | (with_reducible exact LeO.refl _)
      | (with_reducible exact LeO.none _)
      | (with_reducible refine LeO.ite ?_ ?_)
      | (with_reducible refine LeO.bind ?_ (fun _ => ?_))
      | exact ih0 _ _ _ _ _ _ _
      | exact impl_RoughAll.mono _ _
      | exact impl_RoughJoin.mono _ _ _
      | exact impl_RoughNew.mono _
      | exact impl_RoughOk.mono _ _
      | exact laws_lkRough.mono _ _ _
      | exact spec_DrawRoughJoin.mono _ _
      | exact spec_RoughJoin.mono _ _ _
      | exact LeO.none _
      | refine LeO.ite ?_ ?_
      | refine LeO.bind ?_ (fun _ => ?_)
theorem laws_FnRoughJoin.mono : ∀ a0 k, LeO (laws_FnRoughJoin.f k a0) (laws_FnRoughJoin.f (k + 1) a0) := by
  intro a0 k
  have ih0 := laws_FnRoughJoin.mono_l k
  unfold laws_FnRoughJoin.f
  repeat' first
      | (with_reducible exact ih0 _ _ _ _ _ _ _)
      | (with_reducible exact impl_RoughAll.mono _ _)
      | (with_reducible exact impl_RoughJoin.mono _ _ _)
      | (with_reducible exact impl_RoughNew.mono _)
      | (with_reducible exact impl_RoughOk.mono _ _)
      | (with_reducible exact laws_lkRough.mono _ _ _)
      | (with_reducible exact spec_DrawRoughJoin.mono _ _)
      | (with_reducible exact spec_RoughJoin.mono _ _ _)
      | (with_reducible exact LeO.refl _)
      | (with_reducible exact LeO.none _)
      | (with_reducible refine LeO.ite ?_ ?_)
      | (with_reducible refine LeO.bind ?_ (fun _ => ?_))
      | exact ih0 _ _ _ _ _ _ _
      | exact impl_RoughAll.mono _ _
      | exact impl_RoughJoin.mono _ _ _
      | exact impl_RoughNew.mono _
      | exact impl_RoughOk.mono _ _
      | exact laws_lkRough.mono _ _ _
      | exact spec_DrawRoughJoin.mono _ _
      | exact spec_RoughJoin.mono _ _ _
      | exact LeO.none _
      | refine LeO.ite ?_ ?_
      | refine LeO.bind ?_ (fun _ => ?_)
def laws_FnRoughJoin.T9 : Bool × List (List Nat × List Nat) := (true, [([], []), ([], []), ([0, 1, 1], [0, 1]), ([2], [2]), ([3], [3]), ([3], [3]), ([], []), ([6, 4, 2, 0, 1, 2, 3, 4, 6], [4, 6]), ([5, 7, 0, 1, 2, 3, 4, 5, 6, 7], [5])])
def laws_FnRoughJoin.B9 : List Nat := [0, 0, 3, 7, 15, 15, 0, 95, 255]
theorem laws_FnRoughJoin.tab9 : rtab .any (opsOf Try.f4 9) = laws_FnRoughJoin.T9 := by kernel_rfl
theorem laws_FnRoughJoin.bits9 : waitsOk laws_FnRoughJoin.T9.2 laws_FnRoughJoin.B9 = true := by kernel_rfl
def laws_FnRoughJoin.T10 : Bool × List (List Nat × List Nat) := (true, [([], []), ([0], [0]), ([1, 1], [1]), ([2], [2]), ([2, 3], [2, 3]), ([4, 2], [4]), ([5], [5]), ([5], [5]), ([6, 7, 5, 5], [5, 6, 7]), ([5, 8], [5, 8]), ([9, 8], [9]), ([10], [10]), ([10, 11], [10, 11]), ([12, 10], [12]), ([13], [13]), ([13], [13]), ([14, 15, 13, 13], [13, 14, 15]), ([13, 16], [13, 16]), ([17, 16], [17]), ([18], [18]), ([19, 18, 18], [18, 19]), ([18], [18]), ([21, 20, 18], [18, 21]), ([18], [18]), ([23, 22, 18], [18, 23]), ([22, 24, 18], [18, 22, 24]), ([20, 25, 18], [18, 20, 25]), ([18, 26], [18, 26]), ([27, 24, 0, 1, 2, 3, 4, 5, 6, 7, 8, 9, 10, 11, 12, 13, 14, 15, 16, 17, 18, 19, 20, 21, 22, 23, 24, 25, 26, 27], [27])])
def laws_FnRoughJoin.B10 : List Nat := [0, 1, 3, 7, 15, 31, 63, 63, 255, 511, 1023, 2047, 4095, 8191, 16383, 16383, 65535, 131071, 262143, 524287, 1048575, 524287, 4194303, 524287, 16777215, 33554431, 67108863, 134217727, 268435455]
theorem laws_FnRoughJoin.tab10 : rtab .any (opsOf Try.f4 10) = laws_FnRoughJoin.T10 := by kernel_rfl
theorem laws_FnRoughJoin.bits10 : waitsOk laws_FnRoughJoin.T10.2 laws_FnRoughJoin.B10 = true := by kernel_rfl
abbrev laws_FnRoughJoin.D0 : Array Bool := #[false, false, false, false, false, false, false, false, false, false, false, false, false, false, false, false, false, false, false, false, false, false, false, false, false, false, false, false, false]
abbrev laws_FnRoughJoin.D1 : Array Bool := #[true, false, false, false, false, false, false, false, false, false, false, false, false, false, false, false, false, false, false, false, false, false, false, false, false, false, false, false, false]
abbrev laws_FnRoughJoin.D2 : Array Bool := #[true, true, false, false, false, false, false, false, false, false, false, false, false, false, false, false, false, false, false, false, false, false, false, false, false, false, false, false, false]
abbrev laws_FnRoughJoin.D3 : Array Bool := #[true, true, true, false, false, false, false, false, false, false, false, false, false, false, false, false, false, false, false, false, false, false, false, false, false, false, false, false, false]
abbrev laws_FnRoughJoin.D4 : Array Bool := #[true, true, true, true, false, false, false, false, false, false, false, false, false, false, false, false, false, false, false, false, false, false, false, false, false, false, false, false, false]
abbrev laws_FnRoughJoin.D5 : Array Bool := #[true, true, true, true, true, false, false, false, false, false, false, false, false, false, false, false, false, false, false, false, false, false, false, false, false, false, false, false, false]
abbrev laws_FnRoughJoin.D6 : Array Bool := #[true, true, true, true, true, true, false, false, false, false, false, false, false, false, false, false, false, false, false, false, false, false, false, false, false, false, false, false, false]
abbrev laws_FnRoughJoin.D7 : Array Bool := #[true, true, true, true, true, true, true, false, false, false, false, false, false, false, false, false, false, false, false, false, false, false, false, false, false, false, false, false, false]
abbrev laws_FnRoughJoin.D8 : Array Bool := #[true, true, true, true, true, true, true, true, false, false, false, false, false, false, false, false, false, false, false, false, false, false, false, false, false, false, false, false, false]
abbrev laws_FnRoughJoin.D9 : Array Bool := #[true, true, true, true, true, true, true, true, true, false, false, false, false, false, false, false, false, false, false, false, false, false, false, false, false, false, false, false, false]
abbrev laws_FnRoughJoin.D10 : Array Bool := #[true, true, true, true, true, true, true, true, true, true, false, false, false, false, false, false, false, false, false, false, false, false, false, false, false, false, false, false, false]
abbrev laws_FnRoughJoin.D11 : Array Bool := #[true, true, true, true, true, true, true, true, true, true, true, false, false, false, false, false, false, false, false, false, false, false, false, false, false, false, false, false, false]
abbrev laws_FnRoughJoin.D12 : Array Bool := #[true, true, true, true, true, true, true, true, true, true, true, true, false, false, false, false, false, false, false, false, false, false, false, false, false, false, false, false, false]
abbrev laws_FnRoughJoin.D13 : Array Bool := #[true, true, true, true, true, true, true, true, true, true, true, true, true, false, false, false, false, false, false, false, false, false, false, false, false, false, false, false, false]
abbrev laws_FnRoughJoin.D14 : Array Bool := #[true, true, true, true, true, true, true, true, true, true, true, true, true, true, false, false, false, false, false, false, false, false, false, false, false, false, false, false, false]
abbrev laws_FnRoughJoin.D15 : Array Bool := #[true, true, true, true, true, true, true, true, true, true, true, true, true, true, true, false, false, false, false, false, false, false, false, false, false, false, false, false, false]
abbrev laws_FnRoughJoin.D16 : Array Bool := #[true, true, true, true, true, true, true, true, true, true, true, true, true, true, true, true, false, false, false, false, false, false, false, false, false, false, false, false, false]
abbrev laws_FnRoughJoin.D17 : Array Bool := #[true, true, true, true, true, true, true, true, true, true, true, true, true, true, true, true, true, false, false, false, false, false, false, false, false, false, false, false, false]
abbrev laws_FnRoughJoin.D18 : Array Bool := #[true, true, true, true, true, true, true, true, true, true, true, true, true, true, true, true, true, true, false, false, false, false, false, false, false, false, false, false, false]
abbrev laws_FnRoughJoin.D19 : Array Bool := #[true, true, true, true, true, true, true, true, true, true, true, true, true, true, true, true, true, true, true, false, false, false, false, false, false, false, false, false, false]
abbrev laws_FnRoughJoin.D20 : Array Bool := #[true, true, true, true, true, true, true, true, true, true, true, true, true, true, true, true, true, true, true, true, false, false, false, false, false, false, false, false, false]
abbrev laws_FnRoughJoin.D21 : Array Bool := #[true, true, true, true, true, true, true, true, true, true, true, true, true, true, true, true, true, true, true, true, false, true, false, false, false, false, false, false, false]
abbrev laws_FnRoughJoin.D22 : Array Bool := #[true, true, true, true, true, true, true, true, true, true, true, true, true, true, true, true, true, true, true, true, false, true, false, true, false, false, false, false, false]
abbrev laws_FnRoughJoin.D23 : Array Bool := #[true, true, true, true, true, true, true, true, true, true, true, true, true, true, true, true, true, true, true, true, true, true, false, true, false, false, false, false, false]
abbrev laws_FnRoughJoin.D24 : Array Bool := #[true, true, true, true, true, true, true, true, true, true, true, true, true, true, true, true, true, true, true, true, true, true, true, true, false, false, false, false, false]
abbrev laws_FnRoughJoin.D25 : Array Bool := #[true, true, true, true, true, true, true, true, true, true, true, true, true, true, true, true, true, true, true, true, true, true, true, true, true, false, false, false, false]
abbrev laws_FnRoughJoin.D26 : Array Bool := #[true, true, true, true, true, true, true, true, true, true, true, true, true, true, true, true, true, true, true, true, true, true, true, true, true, true, false, false, false]
abbrev laws_FnRoughJoin.D27 : Array Bool := #[true, true, true, true, true, true, true, true, true, true, true, true, true, true, true, true, true, true, true, true, true, true, true, true, true, true, true, false, false]
abbrev laws_FnRoughJoin.D28 : Array Bool := #[true, true, true, true, true, true, true, true, true, true, true, true, true, true, true, true, true, true, true, true, true, true, true, true, true, true, true, true, false]
abbrev laws_FnRoughJoin.D29 : Array Bool := #[true, true, true, true, true, true, true, true, true, true, true, true, true, true, true, true, true, true, true, true, true, true, true, true, true, true, true, true, true]
abbrev laws_FnRoughJoin.D30 : Array Bool := #[true, true, true, true, true, true, true, true, true, true, true, true, true, true, true, true, true, true, true, true, true, false, false, false, false, false, false, false, false]
abbrev laws_FnRoughJoin.D31 : Array Bool := #[true, true, true, true, true, true, true, true, true, true, true, true, true, true, true, true, true, true, true, true, true, true, false, false, false, false, false, false, false]
abbrev laws_FnRoughJoin.D32 : Array Bool := #[true, true, true, true, true, true, true, true, true, true, true, true, true, true, true, true, true, true, true, true, true, true, true, false, false, false, false, false, false]
theorem q4_0 {p : Prop} (h : p := by repeat (first | (with_reducible first | exact HB.out | apply below_alloc | apply pw_below_drewN | apply below_drew1 | refine below_set ?_ GE345.out | refine below_set ?_ GE346.out | refine below_set ?_ GE351.out | refine below_set ?_ GE356.out | refine below_set ?_ GE363.out | refine below_set ?_ GE371.out) | exact HB.out)) : p := h
theorem q4_1 {p : Prop} (h : p := by (with_reducible repeat (first | refine blk_drewN ?_ _ | refine blk_drew ?_ | refine blk_alloc ?_ _)); exact BK345.out) : p := h
theorem q4_2 {p : Prop} (h : p := by (with_reducible repeat (first | refine blk_drewN ?_ _ | refine blk_drew ?_ | refine blk_alloc ?_ _)); exact BK346.out) : p := h
theorem q4_3 {p : Prop} (h : p := by (with_reducible repeat (first | refine blk_drewN ?_ _ | refine blk_drew ?_ | refine blk_alloc ?_ _)); exact BK351.out) : p := h
theorem q4_4 {p : Prop} (h : p := by (with_reducible repeat (first | refine blk_drewN ?_ _ | refine blk_drew ?_ | refine blk_alloc ?_ _)); exact BK356.out) : p := h
theorem q4_5 {p : Prop} (h : p := by repeat (first | (with_reducible first | exact HB.out | apply below_alloc | apply pw_below_drewN | apply below_drew1 | refine below_set ?_ GE345.out | refine below_set ?_ GE346.out | refine below_set ?_ GE351.out | refine below_set ?_ GE356.out | refine below_set ?_ GE363.out) | exact HB.out)) : p := h
theorem q4_6 {p : Prop} (h : p := by (with_reducible repeat (first | refine blk_drewN ?_ _ | refine blk_drew ?_ | refine blk_alloc ?_ _)); exact BK363.out) : p := h
theorem q4_7 {p : Prop} (h : p := by (with_reducible repeat (first | apply Kd.Q_alloc | apply Kd.Q_drewN | apply Kd.Q_drew)); exact HO_346000.out) : p := h
theorem q4_8 {p : Prop} (h : p := by (with_reducible repeat (first | apply Kd.Q_alloc | apply Kd.Q_drewN | apply Kd.Q_drew)); exact HO_347000.out) : p := h
theorem q4_9 {p : Prop} (h : p := by (with_reducible repeat (first | apply Kd.Q_alloc | apply Kd.Q_drewN | apply Kd.Q_drew)); exact HO_352000.out) : p := h
theorem q4_10 {p : Prop} (h : p := by (with_reducible repeat (first | apply Kd.Q_alloc | apply Kd.Q_drewN | apply Kd.Q_drew)); exact HO_357000.out) : p := h
theorem q4_11 {p : Prop} (h : p := by (try simp only [List.map_toArray, List.map_cons, List.map_nil]); first | done | rfl | (simp only [List.length_drop, List.length_take]; rfl)) : p := h
theorem q4_12 {p : Prop} (h : p := by repeat (first | (with_reducible first | exact HB.out | apply below_alloc | apply pw_below_drewN | apply below_drew1 | refine below_set ?_ GE345.out | refine below_set ?_ GE346.out | refine below_set ?_ GE351.out | refine below_set ?_ GE356.out) | exact HB.out)) : p := h
theorem q4_13 {p : Prop} (h : p := by (with_reducible repeat (first | apply Kd.S_alloc | apply Kd.S_drewN | apply Kd.S_drew)); exact HO361.out) : p := h
theorem q4_14 {p : Prop} (h : p := by (with_reducible repeat (first | refine blk_drewN ?_ _ | refine blk_drew ?_ | refine blk_alloc ?_ _)); exact BK371.out) : p := h
theorem q4_15 {p : Prop} (h : p := by (with_reducible repeat (first | apply Kd.S_alloc | apply Kd.S_drewN | apply Kd.S_drew)); exact HO366.out) : p := h
theorem q4_16 {p : Prop} (h : p := by repeat (first | exact (Kd.Q_reads' HO_357000.out).2.2 | (with_reducible refine Kd.C_alloc ?_ _) | (with_reducible refine Kd.C_drewN ?_ _) | (with_reducible refine Kd.C_drew ?_))) : p := h
theorem q4_17 {p : Prop} (h : p := by (with_reducible repeat (first | apply Kd.S_alloc | apply Kd.S_drewN | apply Kd.S_drew)); exact HO369.out) : p := h
theorem q4_18 {p : Prop} (h : p := by repeat (first | exact (Kd.Q_reads' HO_346000.out).2.2 | (with_reducible refine Kd.C_alloc ?_ _) | (with_reducible refine Kd.C_drewN ?_ _) | (with_reducible refine Kd.C_drew ?_))) : p := h
theorem q4_19 {p : Prop} (h : p := by repeat (first | (with_reducible first | exact HB.out | apply below_alloc | apply pw_below_drewN | apply below_drew1 | refine below_set ?_ GE345.out | refine below_set ?_ GE346.out | refine below_set ?_ GE351.out) | exact HB.out)) : p := h
theorem q4_20 {p : Prop} (h : p := by (with_reducible repeat (first | apply Kd.Q_alloc | apply Kd.Q_drewN | apply Kd.Q_drew)); exact (Kd.Q_mono (Kd.Q_mono (Kd.Q_far (p := ⟨gb346, 0, none⟩) (Kd.Q_far (p := ⟨gb345, 0, none⟩) (Kd.Q_types (Kd.Q_types HO341.out BK345.out (by decide)) BK346.out (by decide)) (fun _ hk => hk.1.2) (.slice Ao10 t339.length co10)) (fun _ hk => hk.2) (.slice Ao13 t342.length co13)) (fun _ h_ => h_.1)) (fun _ h_ => h_.1))) : p := h
theorem q4_21 {p : Prop} (h : p := by (with_reducible repeat (first | apply Kd.Q_alloc | apply Kd.Q_drewN | apply Kd.Q_drew)); exact (Kd.Q_mono (Kd.Q_mono (Kd.Q_far (p := ⟨gb346, 0, none⟩) (Kd.Q_far (p := ⟨gb345, 0, none⟩) (Kd.Q_types (Kd.Q_types HO344.out BK345.out (by decide)) BK346.out (by decide)) (fun _ hk => hk.1.2) (.slice Ao10 t339.length co10)) (fun _ hk => hk.2) (.slice Ao13 t342.length co13)) (fun _ h_ => h_.1)) (fun _ h_ => h_.1))) : p := h
theorem q4_22 {p : Prop} (h : p := by repeat (first | (with_reducible first | exact HB.out | apply below_alloc | apply pw_below_drewN | apply below_drew1 | refine below_set ?_ GE345.out | refine below_set ?_ GE346.out) | exact HB.out)) : p := h
theorem q4_23 {p : Prop} (h : p := by (with_reducible repeat (first | apply Kd.S_alloc | apply Kd.S_drewN | apply Kd.S_drew)); exact (Kd.S_mono (Kd.S_far (p := ⟨gb356, 0, none⟩) (Kd.S_types HO354.out BK356.out (by decide)) (fun _ hk => hk.2) (.slice Ao25 t352.length co25)) (fun _ h_ => h_.1))) : p := h
theorem q4_24 {p : Prop} (h : p := by (with_reducible repeat (first | apply Kd.S_alloc | apply Kd.S_drewN | apply Kd.S_drew)); exact (Kd.S_mono (Kd.S_far (p := ⟨gb356, 0, none⟩) (Kd.S_types HO349.out BK356.out (by decide)) (fun _ hk => hk.2) (.slice Ao25 t352.length co25)) (fun _ h_ => h_.1))) : p := h
theorem q4_25 {p : Prop} (h : p := by repeat (first | (with_reducible first | exact HB.out | apply below_alloc | apply pw_below_drewN | apply below_drew1) | exact HB.out)) : p := h
theorem q4_26 {p : Prop} (h : p := by first | rfl | (simp [errW_none, errW_some] <;> rfl) | (simp [*, errW_none, errW_some] <;> rfl)) : p := h
theorem q4_27 {p : Prop} (h : p := by rw [hg]; exact Nat.ne_of_lt (blk_lt (g := gb345) (o := .cells #[.slice Ao10 t339.length co10] 25 (0, 0)) q4_1)) : p := h
theorem q4_28 {p : Prop} (h : p := by rw [hg]; exact Nat.ne_of_gt (blk_lt (g := gb345) (o := .cells #[.slice Ao10 t339.length co10] 25 (0, 0)) q4_1)) : p := h
theorem q4_29 {p : Prop} (h : p := by rw [hg]; exact Nat.ne_of_lt (blk_lt (g := gb346) (o := .cells #[.slice Ao13 t342.length co13] 25 (0, 0)) q4_2)) : p := h
theorem q4_30 {p : Prop} (h : p := by rw [hg]; exact Nat.ne_of_gt (blk_lt (g := gb346) (o := .cells #[.slice Ao13 t342.length co13] 25 (0, 0)) q4_2)) : p := h
theorem q4_31 {p : Prop} (h : p := by (with_reducible repeat (first | apply Kd.Q_alloc | apply Kd.Q_drewN | apply Kd.Q_drew)); exact (Kd.Q_mono (Kd.Q_far (p := ⟨gb351, 0, none⟩) (Kd.Q_types HO341.out BK351.out (by decide)) (fun _ hk => hk.2) (.slice Ao17 t347.length co17)) (fun _ h_ => h_.1))) : p := h
theorem q4_32 {p : Prop} (h : p := by (with_reducible repeat (first | apply Kd.Q_alloc | apply Kd.Q_drewN | apply Kd.Q_drew)); exact (Kd.Q_mono (Kd.Q_far (p := ⟨gb351, 0, none⟩) (Kd.Q_types HO344.out BK351.out (by decide)) (fun _ hk => hk.2) (.slice Ao17 t347.length co17)) (fun _ h_ => h_.1))) : p := h
theorem q4_33 {p : Prop} (h : p := by repeat (first | exact (Kd.S_reads' HO361.out).2.2 | (with_reducible refine Kd.C_alloc ?_ _) | (with_reducible refine Kd.C_drewN ?_ _) | (with_reducible refine Kd.C_drew ?_))) : p := h
theorem q4_34 {p : Prop} (h : p := by (with_reducible repeat (first | apply Kd.Q_alloc | apply Kd.Q_drewN | apply Kd.Q_drew)); exact Kd.Q_mono HO_346000.out (fun _ hk => ⟨hk.1.1.2.2.2, ⟨hk.1.2, ⟨hk.2, ⟨hk.1.1.1, ⟨hk.1.1.2.1, hk.1.1.2.2.1⟩⟩⟩⟩⟩)) : p := h
theorem q4_35 {p : Prop} (h : p := by (with_reducible repeat (first | apply Kd.Q_alloc | apply Kd.Q_drewN | apply Kd.Q_drew)); exact Kd.Q_mono HO_347000.out (fun _ hk => ⟨hk.1.1.2.2.2, ⟨hk.1.2, ⟨hk.2, ⟨hk.1.1.1, ⟨hk.1.1.2.1, hk.1.1.2.2.1⟩⟩⟩⟩⟩)) : p := h
theorem q4_36 {p : Prop} (h : p := by (with_reducible repeat (first | apply Kd.Q_alloc | apply Kd.Q_drewN | apply Kd.Q_drew)); exact Kd.Q_mono HO_352000.out (fun _ hk => ⟨hk.1.1.2.2.2, ⟨hk.1.2, ⟨hk.2, ⟨hk.1.1.1, ⟨hk.1.1.2.1, hk.1.1.2.2.1⟩⟩⟩⟩⟩)) : p := h
theorem q4_37 {p : Prop} (h : p := by (with_reducible repeat (first | apply Kd.Q_alloc | apply Kd.Q_drewN | apply Kd.Q_drew)); exact Kd.Q_mono HO_357000.out (fun _ hk => ⟨hk.1.1.2.2.2, ⟨hk.1.2, ⟨hk.2, ⟨hk.1.1.1, ⟨hk.1.1.2.1, hk.1.1.2.2.1⟩⟩⟩⟩⟩)) : p := h
theorem q4_38 {p : Prop} (h : p := by (with_reducible repeat (first | apply Kd.S_alloc | apply Kd.S_drewN | apply Kd.S_drew)); exact Kd.S_mono HO366.out (fun _ hk => ⟨hk.1.2, ⟨hk.2, ⟨hk.1.1.1.1.1.2, ⟨hk.1.1.1.1.2, ⟨hk.1.1.1.2, hk.1.1.2⟩⟩⟩⟩⟩)) : p := h
theorem q4_39 {p : Prop} (h : p := by (with_reducible repeat (first | apply Kd.S_alloc | apply Kd.S_drewN | apply Kd.S_drew)); exact Kd.S_mono HO369.out (fun _ hk => ⟨hk.1.2, ⟨hk.2, ⟨hk.1.1.1.1.1.2, ⟨hk.1.1.1.1.2, ⟨hk.1.1.1.2, hk.1.1.2⟩⟩⟩⟩⟩)) : p := h
theorem q4_40 {p : Prop} (h : p := by (with_reducible repeat (first | apply Kd.S_alloc | apply Kd.S_drewN | apply Kd.S_drew)); exact Kd.S_mono HO361.out (fun _ hk => ⟨hk.1.2, ⟨hk.2, ⟨hk.1.1.1, ⟨hk.1.1.2.1, ⟨hk.1.1.2.2.1, hk.1.1.2.2.2⟩⟩⟩⟩⟩)) : p := h
theorem q4_41 {p : Prop} (h : p := by rw [hg]; exact Nat.ne_of_lt (blk_lt (g := gb351) (o := .cells #[.slice Ao17 t347.length co17] 25 (0, 0)) q4_3)) : p := h
theorem q4_42 {p : Prop} (h : p := by rw [hg]; exact Nat.ne_of_gt (blk_lt (g := gb351) (o := .cells #[.slice Ao17 t347.length co17] 25 (0, 0)) q4_3)) : p := h
theorem q4_43 {p : Prop} (h : p := by repeat (first | exact (Kd.S_reads' HO366.out).2.2 | (with_reducible refine Kd.C_alloc ?_ _) | (with_reducible refine Kd.C_drewN ?_ _) | (with_reducible refine Kd.C_drew ?_))) : p := h
theorem q4_44 {p : Prop} (h : p := by refine (Kd.S_reads' (e := 43) (base := w.heap.size) (ok := fun k_ => (((True ∧ some k_ ≠ (.slice Ao10 t339.length co10 : Value).ownBlock) ∧ some k_ ≠ (.slice Ao13 t342.length co13 : Value).ownBlock) ∧ some k_ ≠ (.slice Ao17 t347.length co17 : Value).ownBlock)) (n := t352.length) (c := co25) ?_).2.2; exact q4_23) : p := h
theorem q4_45 {p : Prop} (h : p := by refine (Kd.S_reads' (e := 43) (base := w.heap.size) (ok := fun k_ => (((True ∧ some k_ ≠ (.slice Ao10 t339.length co10 : Value).ownBlock) ∧ some k_ ≠ (.slice Ao13 t342.length co13 : Value).ownBlock) ∧ some k_ ≠ (.slice Ao25 t352.length co25 : Value).ownBlock)) (n := t347.length) (c := co17) ?_).2.2; exact q4_24) : p := h
theorem q4_46 {p : Prop} (h : p := by repeat (first | (with_reducible first | exact HB.out | apply below_alloc | apply pw_below_drewN | apply below_drew1 | refine below_set ?_ GE345.out) | exact HB.out)) : p := h
theorem q4_47 {p : Prop} (h : p := by rw [hg]; exact Nat.ne_of_lt (blk_lt (g := gb356) (o := .cells #[.slice Ao25 t352.length co25] 25 (0, 0)) q4_4)) : p := h
theorem q4_48 {p : Prop} (h : p := by rw [hg]; exact Nat.ne_of_gt (blk_lt (g := gb356) (o := .cells #[.slice Ao25 t352.length co25] 25 (0, 0)) q4_4)) : p := h
theorem q4_49 {p : Prop} (h : p := by (with_reducible repeat (first | apply Kd.Q_alloc | apply Kd.Q_drewN | apply Kd.Q_drew)); exact HO341.out) : p := h
theorem q4_50 {p : Prop} (h : p := by (with_reducible repeat (first | apply Kd.Q_alloc | apply Kd.Q_drewN | apply Kd.Q_drew)); exact HO344.out) : p := h
theorem q4_51 {p : Prop} (h : p := by (with_reducible repeat (first | refine blk_drewN ?_ _ | refine blk_drew ?_ | refine blk_alloc ?_ _)); refine blk_put (cs := #[.slice none 0 0]) ?_ 0 _ rfl; (with_reducible repeat (first | refine blk_drewN ?_ _ | refine blk_drew ?_ | refine blk_alloc ?_ _)); exact BK356.out) : p := h
theorem q4_52 {p : Prop} (h : p := by (with_reducible repeat (first | apply Kd.S_alloc | apply Kd.S_drewN | apply Kd.S_drew)); exact (Kd.S_mono (Kd.S_far (p := ⟨gb351, 0, none⟩) (Kd.S_types HO349.out BK351.out (by decide)) (fun _ hk => hk.2) (.slice Ao17 t347.length co17)) (fun _ h_ => h_.1))) : p := h
theorem q4_53 {p : Prop} (h : p := by (with_reducible repeat (first | apply Kd.Q_alloc | apply Kd.Q_drewN | apply Kd.Q_drew)); exact (Kd.Q_mono (Kd.Q_far (p := ⟨gb356, 0, none⟩) (Kd.Q_types HO341.out BK356.out (by decide)) (fun _ hk => hk.2) (.slice Ao25 t352.length co25)) (fun _ h_ => h_.1))) : p := h
theorem q4_54 {p : Prop} (h : p := by (with_reducible repeat (first | apply Kd.Q_alloc | apply Kd.Q_drewN | apply Kd.Q_drew)); exact (Kd.Q_mono (Kd.Q_far (p := ⟨gb356, 0, none⟩) (Kd.Q_types HO344.out BK356.out (by decide)) (fun _ hk => hk.2) (.slice Ao25 t352.length co25)) (fun _ h_ => h_.1))) : p := h
theorem q4_55 {p : Prop} (h : p := by (with_reducible repeat (first | refine blk_drewN ?_ _ | refine blk_drew ?_ | refine blk_alloc ?_ _)); refine blk_far ?_ NB345_356.out _; (with_reducible repeat (first | refine blk_drewN ?_ _ | refine blk_drew ?_ | refine blk_alloc ?_ _)); exact BK345.out) : p := h
theorem q4_56 {p : Prop} (h : p := by (with_reducible repeat (first | refine blk_drewN ?_ _ | refine blk_drew ?_ | refine blk_alloc ?_ _)); refine blk_far ?_ NB346_356.out _; (with_reducible repeat (first | refine blk_drewN ?_ _ | refine blk_drew ?_ | refine blk_alloc ?_ _)); exact BK346.out) : p := h
theorem q4_57 {p : Prop} (h : p := by (with_reducible repeat (first | refine blk_drewN ?_ _ | refine blk_drew ?_ | refine blk_alloc ?_ _)); refine blk_far ?_ NB351_356.out _; (with_reducible repeat (first | refine blk_drewN ?_ _ | refine blk_drew ?_ | refine blk_alloc ?_ _)); exact BK351.out) : p := h
theorem q4_58 {p : Prop} (h : p := by first | (go_simp; done) | (go_simp; rfl)) : p := h
theorem q4_59 {p : Prop} (h : p := by rw [hg]; exact Nat.ne_of_lt (blk_lt (g := gb363) (o := .cells #[.slice Ao227 t359.length co227] 25 (0, 0)) q4_6)) : p := h
theorem q4_60 {p : Prop} (h : p := by rw [hg]; exact Nat.ne_of_gt (blk_lt (g := gb363) (o := .cells #[.slice Ao227 t359.length co227] 25 (0, 0)) q4_6)) : p := h
theorem q4_61 {p : Prop} (h : p := by simp only [putAll, Act.put, List.setIfInBounds_toArray, List.set_cons_zero, List.set_cons_succ]) : p := h
theorem q4_62 {p : Prop} (h : p := by repeat (first | exact (Kd.Q_reads' HO_347000.out).2.2 | (with_reducible refine Kd.C_alloc ?_ _) | (with_reducible refine Kd.C_drewN ?_ _) | (with_reducible refine Kd.C_drew ?_))) : p := h
theorem q4_63 {p : Prop} (h : p := by repeat (first | exact (Kd.S_reads' HO369.out).2.2 | (with_reducible refine Kd.C_alloc ?_ _) | (with_reducible refine Kd.C_drewN ?_ _) | (with_reducible refine Kd.C_drew ?_))) : p := h
theorem q4_64 {p : Prop} (h : p := by (with_reducible repeat (first | apply Kd.S_alloc | apply Kd.S_drewN | apply Kd.S_drew)); exact Kd.S_mono HO349.out (fun _ hk => ⟨hk.1.1.2, ⟨hk.1.2, hk.2⟩⟩)) : p := h
theorem q4_65 {p : Prop} (h : p := by (with_reducible repeat (first | apply Kd.S_alloc | apply Kd.S_drewN | apply Kd.S_drew)); exact Kd.S_mono HO354.out (fun _ hk => ⟨hk.1.1.2, ⟨hk.1.2, hk.2⟩⟩)) : p := h
theorem q4_66 {p : Prop} (h : p := by rw [hg]; exact (below_size q4_5)) : p := h
theorem q4_67 {p : Prop} (h : p := by (with_reducible repeat (first | apply Kd.S_alloc | apply Kd.S_drewN | apply Kd.S_drew)); exact HO349.out) : p := h
set_option maxHeartbeats 8000000 in
set_option maxRecDepth 100000 in
theorem laws_FnRoughJoin.calls (k : Nat) (A0 : Option Addr) (c0 : Nat) (l0 : List Int) (r : Bool) (w : World) (hr0 : Kd.C (Kd.int .u8) w A0 l0.length l0) (hc0 : l0.length ≤ c0) (h : laws_FnRoughJoin.f k l0 = some r) :
    Calls Try.prog 4 #[.slice A0 l0.length c0] w fun e w' => e = .returned (.bool r) ∧ Below w.heap.size w w' := by
 have hu25 := Try.underlying25;have HR0 := Aside0.mk hr0;have HC0 := Aside0.mk hc0;clear hr0 hc0;have HB := Aside0.mk (Below.refl w.heap.size w)
 have H : (if (l0.length : Int) > 1048576 then (some true) else ((spec_DrawRoughJoin.f k l0).bind fun bt339 => ((spec_RoughJoin.f k bt339.1 bt339.2).bind fun bt347 => ((impl_RoughJoin.f k bt339.1 bt339.2).bind fun bt352 => (if (bt352.2 != bt347.2) = true then (laws_FnRoughJoin.j0 k bt347.2 bt352.2 true bt339.1 bt339.2 bt347.1 bt352.1) else ((laws_lkRough.f k bt352.1 bt347.1).bind fun t357 => (if t357 = true then (laws_FnRoughJoin.j0 k bt347.2 bt352.2 (!bt352.2) bt339.1 bt339.2 bt347.1 bt352.1) else (laws_FnRoughJoin.j0 k bt347.2 bt352.2 true bt339.1 bt339.2 bt347.1 bt352.1)))))))) = some r := h
 clear h
 by_cases c2 : (l0.length : Int) > 1048576
 ·
  rw [if_pos c2] at H
  have c2b0 : decide (1048576 < (l0.length : Int)) = true := decide_eq_true c2
  have c2b1 : decide (1048576 < l0.length) = true := decide_eq_true (by omega)
  clear c2
  obtain rfl := Option.some.inj H
  go_enter Try.func4, Try.ntmps4
  go_wp2
  go_ret
  exact ⟨q4_26, q4_25⟩
 ·
  rw [if_neg c2] at H
  have c2b0 : decide (1048576 < (l0.length : Int)) = false := decide_eq_false c2
  have c2b1 : decide (1048576 < l0.length) = false := decide_eq_false (by omega)
  clear c2
  replace H := Option.bind_eq_some_iff.mp H
  obtain ⟨⟨t339, t342⟩, A30, H⟩ := H
  replace H : ((spec_RoughJoin.f k t339 t342).bind fun bt347 => ((impl_RoughJoin.f k t339 t342).bind fun bt352 => (if (bt352.2 != bt347.2) = true then (laws_FnRoughJoin.j0 k bt347.2 bt352.2 true t339 t342 bt347.1 bt352.1) else ((laws_lkRough.f k bt352.1 bt347.1).bind fun t357 => (if t357 = true then (laws_FnRoughJoin.j0 k bt347.2 bt352.2 (!bt352.2) t339 t342 bt347.1 bt352.1) else (laws_FnRoughJoin.j0 k bt347.2 bt352.2 true t339 t342 bt347.1 bt352.1)))))) = some r := H
  have A3 := Aside0.mk A30;clear A30
  replace H := Option.bind_eq_some_iff.mp H
  obtain ⟨⟨t347, t350⟩, A40, H⟩ := H
  replace H : ((impl_RoughJoin.f k t339 t342).bind fun bt352 => (if (bt352.2 != t350) = true then (laws_FnRoughJoin.j0 k t350 bt352.2 true t339 t342 t347 bt352.1) else ((laws_lkRough.f k bt352.1 t347).bind fun t357 => (if t357 = true then (laws_FnRoughJoin.j0 k t350 bt352.2 (!bt352.2) t339 t342 t347 bt352.1) else (laws_FnRoughJoin.j0 k t350 bt352.2 true t339 t342 t347 bt352.1))))) = some r := H
  have A4 := Aside0.mk A40;clear A40
  replace H := Option.bind_eq_some_iff.mp H
  obtain ⟨⟨t352, t355⟩, A50, H⟩ := H
  replace H : (if (t355 != t350) = true then (laws_FnRoughJoin.j0 k t350 t355 true t339 t342 t347 t352) else ((laws_lkRough.f k t352 t347).bind fun t357 => (if t357 = true then (laws_FnRoughJoin.j0 k t350 t355 (!t355) t339 t342 t347 t352) else (laws_FnRoughJoin.j0 k t350 t355 true t339 t342 t347 t352)))) = some r := H
  have A5 := Aside0.mk A50;clear A50;have HC6 := Aside0.mk H;clear H
  go_enter Try.func4, Try.ntmps4
  go_upto_region 6 with (first | ((with_reducible refine gate_callee (f := 12) rfl ?_); refine goesL_ (some 18) rfl rfl Try.func12 (by kernel_rfl) rfl #[.slice A0 l0.length c0] rfl q4_11 ?_; (with_reducible refine (spec_DrawRoughJoin.calls k _ _ l0 t339 t342 _ ?side1 ?side2 A3.out).mono ?_); (case side1 => repeat (first | exact HR0.out | (with_reducible refine Kd.C_alloc ?_ _) | (with_reducible refine Kd.C_drewN ?_ _) | (with_reducible refine Kd.C_drew ?_))); (case side2 => exact HC0.out); rintro e w7 ⟨v340, v343, rfl, ho0, ho1, hb⟩; refine ⟨_, rfl, ?_⟩; have n0_ := Aside0.mk (Kd.Q_lower ho0 (below_size q4_25)); have n1_ := Aside0.mk (Kd.Q_lower ho1 (below_size q4_25)); have n2_ := Aside0.mk (below_step q4_25 hb); clear HB; have HO341 := n0_; have HO344 := n1_; have HB := n2_; clear n0_ n1_ n2_; (try clear hb); (try clear hb2); (try clear hk); (try clear hi); (try clear ho0); (try clear ho1)) | ((with_reducible refine gate_dst (N := 3) rfl ?_); refine box_event ?hg (N := 3) ?hd (cs := #[.slice none 0 0]) (t := 25) ?hr ?_; (case hd => rfl); (case hg => rfl); (case hr => exact q4_58); intro gb345 hg w8 hbox hb; have n0_ := Aside0.mk (Kd.Q_below q4_49 hb); have n1_ := Aside0.mk (Kd.Q_below q4_50 hb); have n2_ := Aside0.mk (below_step q4_25 hb); have n3_ := Aside0.mk (hbox); have n4_ := Aside0.mk ((by rw [hg]; exact (below_size q4_25) : w.heap.size ≤ gb345)); have n5_ := Aside0.mk ((by rw [hg]; exact (below_size q4_25) : w.heap.size ≤ gb345)); clear HO341; clear HO344; clear HB; have HO341 := n0_; have HO344 := n1_; have HB := n2_; have BK345 := n3_; have GW345 := n4_; have GE345 := n5_; clear n0_ n1_ n2_ n3_ n4_ n5_; clear hb hbox hg) | ((with_reducible refine gate_dst (N := 4) rfl ?_); refine box_event ?hg (N := 4) ?hd (cs := #[.slice none 0 0]) (t := 25) ?hr ?_; (case hd => rfl); (case hg => rfl); (case hr => exact q4_58); intro gb346 hg w9 hbox hb; have n0_ := Aside0.mk (Kd.Q_below q4_49 hb); have n1_ := Aside0.mk (Kd.Q_below q4_50 hb); have n2_ := Aside0.mk (blk_below (g := gb345) (o := .cells #[.slice none 0 0] 25 (0, 0)) q4_1 hb); have n3_ := Aside0.mk (below_step q4_46 hb); have n4_ := Aside0.mk (hbox); have n5_ := Aside0.mk ((by rw [hg]; exact (below_size q4_46) : w.heap.size ≤ gb346)); have n6_ := Aside0.mk ((by rw [hg]; exact (below_size q4_46) : w.heap.size ≤ gb346)); have n7_ := Aside0.mk ((by rw [hg]; exact Nat.ne_of_lt (blk_lt (g := gb345) (o := .cells #[.slice none 0 0] 25 (0, 0)) q4_1) : gb345 ≠ gb346)); have n8_ := Aside0.mk ((by rw [hg]; exact Nat.ne_of_gt (blk_lt (g := gb345) (o := .cells #[.slice none 0 0] 25 (0, 0)) q4_1) : gb346 ≠ gb345)); clear HO341; clear HO344; clear BK345; clear HB; have HO341 := n0_; have HO344 := n1_; have BK345 := n2_; have HB := n3_; have BK346 := n4_; have GW346 := n5_; have GE346 := n6_; have NB345_346 := n7_; have NB346_345 := n8_; clear n0_ n1_ n2_ n3_ n4_ n5_ n6_ n7_ n8_; clear hb hbox hg; obtain ⟨Ao10, co10, eo10, _⟩ := Kd.Q_slice HO341.out; subst eo10; have hnb11 := NB345_346.out; have hnc11 := NB346_345.out; have hcz12_0 : w9.cell? ⟨gb345, 0, none⟩ = some (.slice none 0 0) := (blk_cell BK345.out 0).trans rfl; have hfz12_0 := blk_frozen BK345.out 0; obtain ⟨Ao13, co13, eo13, _⟩ := Kd.Q_slice HO344.out; subst eo13; have hcz14_0 : w9.cell? ⟨gb346, 0, none⟩ = some (.slice none 0 0) := (blk_cell BK346.out 0).trans rfl; have hfz14_0 := blk_frozen BK346.out 0) | ((with_reducible refine gate_callee (f := 13) rfl ?_); refine goesL_ (some 24) rfl rfl Try.func13 (by kernel_rfl) rfl #[.agg #[.slice Ao10 t339.length co10], .agg #[.slice Ao13 t342.length co13]] rfl q4_11 ?_; (with_reducible refine (spec_RoughJoin.calls k _ _ t339 _ _ t342 t347 t350 _ ?side1 ?side2 ?side3 ?side4 A4.out).mono ?_); (case side1 => refine (Kd.Q_reads' (e := 43) (base := w.heap.size) (ok := fun k_ => some k_ ≠ (.slice Ao13 t342.length co13 : Value).ownBlock) (n := t339.length) (c := co10) ?_).2.2; exact q4_20); (case side2 => exact (Kd.Q_reads' HO341.out).2.1); (case side3 => refine (Kd.Q_reads' (e := 43) (base := w.heap.size) (ok := fun k_ => some k_ ≠ (.slice Ao10 t339.length co10 : Value).ownBlock) (n := t342.length) (c := co13) ?_).2.2; exact q4_21); (case side4 => exact (Kd.Q_reads' HO344.out).2.1); rintro e w15 ⟨v348, rfl, ho0, hb⟩; refine ⟨_, rfl, ?_⟩; have n0_ := Aside0.mk (Kd.Q_elder' q4_20 (Kd.S_base ho0) hb); have n1_ := Aside0.mk (Kd.Q_elder' q4_21 (Kd.S_base ho0) hb); have n2_ := Aside0.mk (Kd.S_lower (Kd.S_new' (Kd.S_new' ho0 (Kd.Q_lt q4_20)) (Kd.Q_lt q4_21)) (below_size q4_22)); have n3_ := Aside0.mk (blk_below (g := gb345) (o := .cells #[.slice Ao10 t339.length co10] 25 (0, 0)) (by (with_reducible repeat (first | refine blk_drewN ?_ _ | refine blk_drew ?_ | refine blk_alloc ?_ _)); refine blk_far ?_ NB345_346.out _; (with_reducible repeat (first | refine blk_drewN ?_ _ | refine blk_drew ?_ | refine blk_alloc ?_ _)); refine blk_put (cs := #[.slice none 0 0]) ?_ 0 _ rfl; (with_reducible repeat (first | refine blk_drewN ?_ _ | refine blk_drew ?_ | refine blk_alloc ?_ _)); exact BK345.out) hb); have n4_ := Aside0.mk (blk_below (g := gb346) (o := .cells #[.slice Ao13 t342.length co13] 25 (0, 0)) (by (with_reducible repeat (first | refine blk_drewN ?_ _ | refine blk_drew ?_ | refine blk_alloc ?_ _)); refine blk_put (cs := #[.slice none 0 0]) ?_ 0 _ rfl; (with_reducible repeat (first | refine blk_drewN ?_ _ | refine blk_drew ?_ | refine blk_alloc ?_ _)); refine blk_far ?_ NB346_345.out _; (with_reducible repeat (first | refine blk_drewN ?_ _ | refine blk_drew ?_ | refine blk_alloc ?_ _)); exact BK346.out) hb); have n5_ := Aside0.mk (below_step q4_22 hb); clear HO341; clear HO344; clear BK345; clear BK346; clear HB; have HO341 := n0_; have HO344 := n1_; have HO349 := n2_; have BK345 := n3_; have BK346 := n4_; have HB := n5_; clear n0_ n1_ n2_ n3_ n4_ n5_; (try clear hb); (try clear hb2); (try clear hk); (try clear hi); (try clear ho0)) | ((with_reducible refine gate_dst (N := 5) rfl ?_); refine box_event ?hg (N := 5) ?hd (cs := #[.slice none 0 0]) (t := 25) ?hr ?_; (case hd => rfl); (case hg => rfl); (case hr => exact q4_58); intro gb351 hg w16 hbox hb; have n0_ := Aside0.mk (Kd.Q_below q4_49 hb); have n1_ := Aside0.mk (Kd.Q_below q4_50 hb); have n2_ := Aside0.mk (Kd.S_below q4_67 hb); have n3_ := Aside0.mk (blk_below (g := gb345) (o := .cells #[.slice Ao10 t339.length co10] 25 (0, 0)) q4_1 hb); have n4_ := Aside0.mk (blk_below (g := gb346) (o := .cells #[.slice Ao13 t342.length co13] 25 (0, 0)) q4_2 hb); have n5_ := Aside0.mk (below_step q4_22 hb); have n6_ := Aside0.mk (hbox); have n7_ := Aside0.mk ((by rw [hg]; exact (below_size q4_22) : w.heap.size ≤ gb351)); have n8_ := Aside0.mk ((by rw [hg]; exact (below_size q4_22) : w.heap.size ≤ gb351)); have n9_ := Aside0.mk ((q4_27 : gb345 ≠ gb351)); have n10_ := Aside0.mk ((q4_28 : gb351 ≠ gb345)); have n11_ := Aside0.mk ((q4_29 : gb346 ≠ gb351)); have n12_ := Aside0.mk ((q4_30 : gb351 ≠ gb346)); clear HO341; clear HO344; clear HO349; clear BK345; clear BK346; clear HB; have HO341 := n0_; have HO344 := n1_; have HO349 := n2_; have BK345 := n3_; have BK346 := n4_; have HB := n5_; have BK351 := n6_; have GW351 := n7_; have GE351 := n8_; have NB345_351 := n9_; have NB351_345 := n10_; have NB346_351 := n11_; have NB351_346 := n12_; clear n0_ n1_ n2_ n3_ n4_ n5_ n6_ n7_ n8_ n9_ n10_ n11_ n12_; clear hb hbox hg; obtain ⟨Ao17, co17, eo17⟩ := Kd.S_slice HO349.out; subst eo17; have hnb18 := NB351_345.out; have hnc18 := NB345_351.out; have hnb19 := NB351_346.out; have hnc19 := NB346_351.out; have hcz20_0 : w16.cell? ⟨gb351, 0, none⟩ = some (.slice none 0 0) := (blk_cell BK351.out 0).trans rfl; have hfz20_0 := blk_frozen BK351.out 0; have hcz21_0 : w16.cell? ⟨gb345, 0, none⟩ = some (.slice Ao10 t339.length co10) := (blk_cell BK345.out 0).trans rfl; have hfz21_0 := blk_frozen BK345.out 0; have hcz22_0 : w16.cell? ⟨gb346, 0, none⟩ = some (.slice Ao13 t342.length co13) := (blk_cell BK346.out 0).trans rfl; have hfz22_0 := blk_frozen BK346.out 0) | ((with_reducible refine gate_callee (f := 14) rfl ?_); refine goesL_ (some 30) rfl rfl Try.func14 (by kernel_rfl) rfl #[.agg #[.slice Ao10 t339.length co10], .agg #[.slice Ao13 t342.length co13]] rfl q4_11 ?_; (with_reducible refine (impl_RoughJoin.calls k _ _ t339 _ _ t342 t352 t355 _ ?side1 ?side2 ?side3 ?side4 A5.out).mono ?_); (case side1 => refine (Kd.Q_reads' (e := 43) (base := w.heap.size) (ok := fun k_ => (some k_ ≠ (.slice Ao13 t342.length co13 : Value).ownBlock ∧ some k_ ≠ (.slice Ao17 t347.length co17 : Value).ownBlock)) (n := t339.length) (c := co10) ?_).2.2; exact q4_31); (case side2 => exact (Kd.Q_reads' HO341.out).2.1); (case side3 => refine (Kd.Q_reads' (e := 43) (base := w.heap.size) (ok := fun k_ => (some k_ ≠ (.slice Ao10 t339.length co10 : Value).ownBlock ∧ some k_ ≠ (.slice Ao17 t347.length co17 : Value).ownBlock)) (n := t342.length) (c := co13) ?_).2.2; exact q4_32); (case side4 => exact (Kd.Q_reads' HO344.out).2.1); rintro e w23 ⟨v353, rfl, ho0, hb⟩; refine ⟨_, rfl, ?_⟩; have n0_ := Aside0.mk (Kd.Q_elder' q4_31 (Kd.S_base ho0) hb); have n1_ := Aside0.mk (Kd.Q_elder' q4_32 (Kd.S_base ho0) hb); have n2_ := Aside0.mk (Kd.S_elder' q4_52 (Kd.S_base ho0) hb); have n3_ := Aside0.mk (Kd.S_lower (Kd.S_new' (Kd.S_new' (Kd.S_new' ho0 (Kd.Q_lt q4_31)) (Kd.Q_lt q4_32)) (Kd.S_lt q4_52)) (below_size q4_19)); have n4_ := Aside0.mk (blk_below (g := gb345) (o := .cells #[.slice Ao10 t339.length co10] 25 (0, 0)) (by (with_reducible repeat (first | refine blk_drewN ?_ _ | refine blk_drew ?_ | refine blk_alloc ?_ _)); refine blk_far ?_ NB345_351.out _; (with_reducible repeat (first | refine blk_drewN ?_ _ | refine blk_drew ?_ | refine blk_alloc ?_ _)); exact BK345.out) hb); have n5_ := Aside0.mk (blk_below (g := gb346) (o := .cells #[.slice Ao13 t342.length co13] 25 (0, 0)) (by (with_reducible repeat (first | refine blk_drewN ?_ _ | refine blk_drew ?_ | refine blk_alloc ?_ _)); refine blk_far ?_ NB346_351.out _; (with_reducible repeat (first | refine blk_drewN ?_ _ | refine blk_drew ?_ | refine blk_alloc ?_ _)); exact BK346.out) hb); have n6_ := Aside0.mk (blk_below (g := gb351) (o := .cells #[.slice Ao17 t347.length co17] 25 (0, 0)) (by (with_reducible repeat (first | refine blk_drewN ?_ _ | refine blk_drew ?_ | refine blk_alloc ?_ _)); refine blk_put (cs := #[.slice none 0 0]) ?_ 0 _ rfl; (with_reducible repeat (first | refine blk_drewN ?_ _ | refine blk_drew ?_ | refine blk_alloc ?_ _)); exact BK351.out) hb); have n7_ := Aside0.mk (below_step q4_19 hb); clear HO341; clear HO344; clear HO349; clear BK345; clear BK346; clear BK351; clear HB; have HO341 := n0_; have HO344 := n1_; have HO349 := n2_; have HO354 := n3_; have BK345 := n4_; have BK346 := n5_; have BK351 := n6_; have HB := n7_; clear n0_ n1_ n2_ n3_ n4_ n5_ n6_ n7_; (try clear hb); (try clear hb2); (try clear hk); (try clear hi); (try clear ho0)) | ((with_reducible refine gate_dst (N := 7) rfl ?_); refine box_event ?hg (N := 7) ?hd (cs := #[.slice none 0 0]) (t := 25) ?hr ?_; (case hd => rfl); (case hg => rfl); (case hr => exact q4_58); intro gb356 hg w24 hbox hb; have n0_ := Aside0.mk (Kd.Q_below q4_49 hb); have n1_ := Aside0.mk (Kd.Q_below q4_50 hb); have n2_ := Aside0.mk (Kd.S_below q4_67 hb); have n3_ := Aside0.mk (Kd.S_below (by (with_reducible repeat (first | apply Kd.S_alloc | apply Kd.S_drewN | apply Kd.S_drew)); exact HO354.out) hb); have n4_ := Aside0.mk (blk_below (g := gb345) (o := .cells #[.slice Ao10 t339.length co10] 25 (0, 0)) q4_1 hb); have n5_ := Aside0.mk (blk_below (g := gb346) (o := .cells #[.slice Ao13 t342.length co13] 25 (0, 0)) q4_2 hb); have n6_ := Aside0.mk (blk_below (g := gb351) (o := .cells #[.slice Ao17 t347.length co17] 25 (0, 0)) q4_3 hb); have n7_ := Aside0.mk (below_step q4_19 hb); have n8_ := Aside0.mk (hbox); have n9_ := Aside0.mk ((by rw [hg]; exact (below_size q4_19) : w.heap.size ≤ gb356)); have n10_ := Aside0.mk ((by rw [hg]; exact (below_size q4_19) : w.heap.size ≤ gb356)); have n11_ := Aside0.mk ((q4_27 : gb345 ≠ gb356)); have n12_ := Aside0.mk ((q4_28 : gb356 ≠ gb345)); have n13_ := Aside0.mk ((q4_29 : gb346 ≠ gb356)); have n14_ := Aside0.mk ((q4_30 : gb356 ≠ gb346)); have n15_ := Aside0.mk ((q4_41 : gb351 ≠ gb356)); have n16_ := Aside0.mk ((q4_42 : gb356 ≠ gb351)); clear HO341; clear HO344; clear HO349; clear HO354; clear BK345; clear BK346; clear BK351; clear HB; have HO341 := n0_; have HO344 := n1_; have HO349 := n2_; have HO354 := n3_; have BK345 := n4_; have BK346 := n5_; have BK351 := n6_; have HB := n7_; have BK356 := n8_; have GW356 := n9_; have GE356 := n10_; have NB345_356 := n11_; have NB356_345 := n12_; have NB346_356 := n13_; have NB356_346 := n14_; have NB351_356 := n15_; have NB356_351 := n16_; clear n0_ n1_ n2_ n3_ n4_ n5_ n6_ n7_ n8_ n9_ n10_ n11_ n12_ n13_ n14_ n15_ n16_; clear hb hbox hg; obtain ⟨Ao25, co25, eo25⟩ := Kd.S_slice HO354.out; subst eo25; have hnb26 := NB356_345.out; have hnc26 := NB345_356.out; have hnb27 := NB356_346.out; have hnc27 := NB346_356.out; have hnb28 := NB356_351.out; have hnc28 := NB351_356.out; have hcz29_0 : w24.cell? ⟨gb356, 0, none⟩ = some (.slice none 0 0) := (blk_cell BK356.out 0).trans rfl; have hfz29_0 := blk_frozen BK356.out 0))
  (try simp only [Act.put, List.setIfInBounds_toArray, List.set_cons_zero, List.set_cons_succ])
  go_cut [45] (fun v45 wc => ∃ (kq : Nat) (x45_5 : Bool), v45 = .bool x45_5 ∧ Aside0 (laws_FnRoughJoin.j0 kq t350 t355 x45_5 t339 t342 t347 t352 = some r) ∧ Aside0 (kq ≤ k) ∧ Aside0 (Kd.Q (Kd.slice 3 (Kd.int .i64)) 43 wc w.heap.size (fun k_ => some k_ ≠ ((.slice Ao13 t342.length co13) : Value).ownBlock ∧ some k_ ≠ ((.slice Ao17 t347.length co17) : Value).ownBlock ∧ some k_ ≠ ((.slice Ao25 t352.length co25) : Value).ownBlock) (.slice Ao10 t339.length co10) t339) ∧ Aside0 (Kd.Q (Kd.slice 3 (Kd.int .i64)) 43 wc w.heap.size (fun k_ => some k_ ≠ ((.slice Ao10 t339.length co10) : Value).ownBlock ∧ some k_ ≠ ((.slice Ao17 t347.length co17) : Value).ownBlock ∧ some k_ ≠ ((.slice Ao25 t352.length co25) : Value).ownBlock) (.slice Ao13 t342.length co13) t342) ∧ Aside0 (Kd.Q (Kd.slice 3 (Kd.int .i64)) 43 wc w.heap.size (fun k_ => some k_ ≠ ((.slice Ao10 t339.length co10) : Value).ownBlock ∧ some k_ ≠ ((.slice Ao13 t342.length co13) : Value).ownBlock ∧ some k_ ≠ ((.slice Ao25 t352.length co25) : Value).ownBlock) (.slice Ao17 t347.length co17) t347) ∧ Aside0 (Kd.Q (Kd.slice 3 (Kd.int .i64)) 43 wc w.heap.size (fun k_ => some k_ ≠ ((.slice Ao10 t339.length co10) : Value).ownBlock ∧ some k_ ≠ ((.slice Ao13 t342.length co13) : Value).ownBlock ∧ some k_ ≠ ((.slice Ao17 t347.length co17) : Value).ownBlock) (.slice Ao25 t352.length co25) t352) ∧ Aside0 (wc.heap[gb345]? = some (.cells #[(.slice Ao10 t339.length co10)] 25 (0, 0))) ∧ Aside0 (wc.heap[gb346]? = some (.cells #[(.slice Ao13 t342.length co13)] 25 (0, 0))) ∧ Aside0 (wc.heap[gb351]? = some (.cells #[(.slice Ao17 t347.length co17)] 25 (0, 0))) ∧ Aside0 (wc.heap[gb356]? = some (.cells #[(.slice Ao25 t352.length co25)] 25 (0, 0))) ∧ Aside0 (Below w.heap.size w wc))
  case first =>
   have H := HC6.out;clear HC6
   by_cases c30 : (t355 != t350) = true
   ·
    rw [if_pos c30] at H
    have c30b0 : (t355 != t350) = true := c30
    (try (have c30b1 : decide (t355 = t350) = false := by simpa using c30))
    (try (have c30b2 : (t355 == t350) = false := by simpa using c30))
    (try (have c30b3 : ¬ (t355 = t350) := by simpa using c30))
    clear c30;(first | rw [c30b0] | (simp only [i64_w, i32_w]; rw [c30b0]) | skip)
    have H' := Aside0.mk H
    clear H
    go_wp2
    go_meet
    case rel => exact ⟨_, (true), (by first | rfl | (simp; done) | (simp [*]; done)), H', ⟨by first | omega | exact Nat.le_refl _⟩, ⟨by (with_reducible repeat (first | apply Kd.Q_alloc | apply Kd.Q_drewN | apply Kd.Q_drew)); exact Kd.Q_mono (Kd.Q_far (p := ⟨gb356, 0, none⟩) (Kd.Q_types HO341.out BK356.out (by decide)) (fun _ hk => hk.2) (.slice Ao25 t352.length co25)) (fun _ hk => ⟨hk.1.1.1, ⟨hk.1.1.2, hk.1.2⟩⟩)⟩, ⟨by (with_reducible repeat (first | apply Kd.Q_alloc | apply Kd.Q_drewN | apply Kd.Q_drew)); exact Kd.Q_mono (Kd.Q_far (p := ⟨gb356, 0, none⟩) (Kd.Q_types HO344.out BK356.out (by decide)) (fun _ hk => hk.2) (.slice Ao25 t352.length co25)) (fun _ hk => ⟨hk.1.1.1, ⟨hk.1.1.2, hk.1.2⟩⟩)⟩, ⟨Kd.Q_of_R ((Kd.S_R (by (with_reducible repeat (first | apply Kd.S_alloc | apply Kd.S_drewN | apply Kd.S_drew)); exact Kd.S_mono (Kd.S_far (p := ⟨gb356, 0, none⟩) (Kd.S_types HO349.out BK356.out (by decide)) (fun _ hk => hk.2) (.slice Ao25 t352.length co25)) (fun _ hk => ⟨hk.1.1.1.2, ⟨hk.1.1.2, hk.1.2⟩⟩))))⟩, ⟨Kd.Q_of_R ((Kd.S_R (by (with_reducible repeat (first | apply Kd.S_alloc | apply Kd.S_drewN | apply Kd.S_drew)); exact Kd.S_mono (Kd.S_far (p := ⟨gb356, 0, none⟩) (Kd.S_types HO354.out BK356.out (by decide)) (fun _ hk => hk.2) (.slice Ao25 t352.length co25)) (fun _ hk => ⟨hk.1.1.1.2, ⟨hk.1.1.2, hk.1.2⟩⟩))))⟩, ⟨by (with_reducible repeat (first | refine blk_drewN ?_ _ | refine blk_drew ?_ | refine blk_alloc ?_ _)); refine blk_far ?_ NB345_356.out _; (with_reducible repeat (first | refine blk_drewN ?_ _ | refine blk_drew ?_ | refine blk_alloc ?_ _)); exact BK345.out⟩, ⟨by (with_reducible repeat (first | refine blk_drewN ?_ _ | refine blk_drew ?_ | refine blk_alloc ?_ _)); refine blk_far ?_ NB346_356.out _; (with_reducible repeat (first | refine blk_drewN ?_ _ | refine blk_drew ?_ | refine blk_alloc ?_ _)); exact BK346.out⟩, ⟨by (with_reducible repeat (first | refine blk_drewN ?_ _ | refine blk_drew ?_ | refine blk_alloc ?_ _)); refine blk_far ?_ NB351_356.out _; (with_reducible repeat (first | refine blk_drewN ?_ _ | refine blk_drew ?_ | refine blk_alloc ?_ _)); exact BK351.out⟩, ⟨by (with_reducible repeat (first | refine blk_drewN ?_ _ | refine blk_drew ?_ | refine blk_alloc ?_ _)); refine blk_put (cs := #[.slice none 0 0]) ?_ 0 _ rfl; (with_reducible repeat (first | refine blk_drewN ?_ _ | refine blk_drew ?_ | refine blk_alloc ?_ _)); exact BK356.out⟩, ⟨q4_12⟩⟩
   ·
    rw [if_neg c30] at H
    have c30b0 : (t355 != t350) = false := by simpa using c30
    (try (have c30b1 : decide (t355 = t350) = true := by simpa using c30))
    (try (have c30b2 : (t355 == t350) = true := by simpa using c30))
    clear c30;(first | rw [c30b0] | (simp only [i64_w, i32_w]; rw [c30b0]) | skip)
    replace H := Option.bind_eq_some_iff.mp H
    obtain ⟨t357, A310, H⟩ := H
    replace H : (if t357 = true then (laws_FnRoughJoin.j0 k t350 t355 (!t355) t339 t342 t347 t352) else (laws_FnRoughJoin.j0 k t350 t355 true t339 t342 t347 t352)) = some r := H
    have A31 := Aside0.mk A310;clear A310
    by_cases c32 : t357 = true
    ·
     subst c32
     have H1 : (laws_FnRoughJoin.j0 k t350 t355 (!t355) t339 t342 t347 t352) = some r := by rw [if_pos rfl] at H; exact H
     clear H;have H := H1;clear H1
     have H' := Aside0.mk H
     clear H;have hnb33 := NB356_345.out;have hnc33 := NB345_356.out;have hnb34 := NB356_346.out;have hnc34 := NB346_356.out;have hnb35 := NB356_351.out;have hnc35 := NB351_356.out
     have hcz36_0 : w24.cell? ⟨gb356, 0, none⟩ = some (.slice none 0 0) := (blk_cell BK356.out 0).trans rfl
     have hfz36_0 := blk_frozen BK356.out 0;have hnb37 := NB351_345.out;have hnc37 := NB345_351.out;have hnb38 := NB351_346.out;have hnc38 := NB346_351.out
     have hcz39_0 : w24.cell? ⟨gb351, 0, none⟩ = some (.slice Ao17 t347.length co17) := (blk_cell BK351.out 0).trans rfl
     have hfz39_0 := blk_frozen BK351.out 0
     go_wp2_with (first | (go_at_call 15; (with_reducible refine (laws_lkRough.calls k _ _ t352 _ _ t347 true _ ?side1 ?side2 ?side3 ?side4 A31.out).mono ?_); (case side1 => exact q4_44); (case side2 => exact (Kd.S_reads' HO354.out).2.1); (case side3 => exact q4_45); (case side4 => exact (Kd.S_reads' HO349.out).2.1); rintro e w40 ⟨rfl, hb⟩; have n0_ := Aside0.mk (Kd.Q_below q4_53 hb); have n1_ := Aside0.mk (Kd.Q_below q4_54 hb); have n2_ := Aside0.mk (Kd.S_below q4_24 hb); have n3_ := Aside0.mk (Kd.S_below q4_23 hb); have n4_ := Aside0.mk (blk_below (g := gb345) (o := .cells #[.slice Ao10 t339.length co10] 25 (0, 0)) q4_55 hb); have n5_ := Aside0.mk (blk_below (g := gb346) (o := .cells #[.slice Ao13 t342.length co13] 25 (0, 0)) q4_56 hb); have n6_ := Aside0.mk (blk_below (g := gb351) (o := .cells #[.slice Ao17 t347.length co17] 25 (0, 0)) q4_57 hb); have n7_ := Aside0.mk (blk_below (g := gb356) (o := .cells #[.slice Ao25 t352.length co25] 25 (0, 0)) q4_51 hb); have n8_ := Aside0.mk (below_step q4_12 hb); clear HO341; clear HO344; clear HO349; clear HO354; clear BK345; clear BK346; clear BK351; clear BK356; clear HB; have HO341 := n0_; have HO344 := n1_; have HO349 := n2_; have HO354 := n3_; have BK345 := n4_; have BK346 := n5_; have BK351 := n6_; have BK356 := n7_; have HB := n8_; clear n0_ n1_ n2_ n3_ n4_ n5_ n6_ n7_ n8_; (try clear hb); (try clear hb2); (try clear hk); (try clear hi)))
     go_meet
     case rel => exact ⟨_, (!t355), (by first | rfl | (simp; done) | (simp [*]; done)), H', ⟨by first | omega | exact Nat.le_refl _⟩, ⟨by (with_reducible repeat (first | apply Kd.Q_alloc | apply Kd.Q_drewN | apply Kd.Q_drew)); exact Kd.Q_mono HO341.out (fun _ hk => ⟨hk.1.1, ⟨hk.1.2, hk.2⟩⟩)⟩, ⟨by (with_reducible repeat (first | apply Kd.Q_alloc | apply Kd.Q_drewN | apply Kd.Q_drew)); exact Kd.Q_mono HO344.out (fun _ hk => ⟨hk.1.1, ⟨hk.1.2, hk.2⟩⟩)⟩, ⟨Kd.Q_of_R ((Kd.S_R q4_64))⟩, ⟨Kd.Q_of_R ((Kd.S_R q4_65))⟩, ⟨by (with_reducible repeat (first | refine blk_drewN ?_ _ | refine blk_drew ?_ | refine blk_alloc ?_ _)); exact BK345.out⟩, ⟨by (with_reducible repeat (first | refine blk_drewN ?_ _ | refine blk_drew ?_ | refine blk_alloc ?_ _)); exact BK346.out⟩, ⟨by (with_reducible repeat (first | refine blk_drewN ?_ _ | refine blk_drew ?_ | refine blk_alloc ?_ _)); exact BK351.out⟩, ⟨by (with_reducible repeat (first | refine blk_drewN ?_ _ | refine blk_drew ?_ | refine blk_alloc ?_ _)); exact BK356.out⟩, ⟨q4_12⟩⟩
    ·
     replace c32 := Bool.eq_false_iff.mpr c32
     subst c32
     have H1 : (laws_FnRoughJoin.j0 k t350 t355 true t339 t342 t347 t352) = some r := by rw [if_neg (show ¬ (false = true) by decide)] at H; exact H
     clear H;have H := H1;clear H1
     have H' := Aside0.mk H
     clear H;have hnb41 := NB356_345.out;have hnc41 := NB345_356.out;have hnb42 := NB356_346.out;have hnc42 := NB346_356.out;have hnb43 := NB356_351.out;have hnc43 := NB351_356.out
     have hcz44_0 : w24.cell? ⟨gb356, 0, none⟩ = some (.slice none 0 0) := (blk_cell BK356.out 0).trans rfl
     have hfz44_0 := blk_frozen BK356.out 0;have hnb45 := NB351_345.out;have hnc45 := NB345_351.out;have hnb46 := NB351_346.out;have hnc46 := NB346_351.out
     have hcz47_0 : w24.cell? ⟨gb351, 0, none⟩ = some (.slice Ao17 t347.length co17) := (blk_cell BK351.out 0).trans rfl
     have hfz47_0 := blk_frozen BK351.out 0
     go_wp2_with (first | (go_at_call 15; (with_reducible refine (laws_lkRough.calls k _ _ t352 _ _ t347 false _ ?side1 ?side2 ?side3 ?side4 A31.out).mono ?_); (case side1 => exact q4_44); (case side2 => exact (Kd.S_reads' HO354.out).2.1); (case side3 => exact q4_45); (case side4 => exact (Kd.S_reads' HO349.out).2.1); rintro e w48 ⟨rfl, hb⟩; have n0_ := Aside0.mk (Kd.Q_below q4_53 hb); have n1_ := Aside0.mk (Kd.Q_below q4_54 hb); have n2_ := Aside0.mk (Kd.S_below q4_24 hb); have n3_ := Aside0.mk (Kd.S_below q4_23 hb); have n4_ := Aside0.mk (blk_below (g := gb345) (o := .cells #[.slice Ao10 t339.length co10] 25 (0, 0)) q4_55 hb); have n5_ := Aside0.mk (blk_below (g := gb346) (o := .cells #[.slice Ao13 t342.length co13] 25 (0, 0)) q4_56 hb); have n6_ := Aside0.mk (blk_below (g := gb351) (o := .cells #[.slice Ao17 t347.length co17] 25 (0, 0)) q4_57 hb); have n7_ := Aside0.mk (blk_below (g := gb356) (o := .cells #[.slice Ao25 t352.length co25] 25 (0, 0)) q4_51 hb); have n8_ := Aside0.mk (below_step q4_12 hb); clear HO341; clear HO344; clear HO349; clear HO354; clear BK345; clear BK346; clear BK351; clear BK356; clear HB; have HO341 := n0_; have HO344 := n1_; have HO349 := n2_; have HO354 := n3_; have BK345 := n4_; have BK346 := n5_; have BK351 := n6_; have BK356 := n7_; have HB := n8_; clear n0_ n1_ n2_ n3_ n4_ n5_ n6_ n7_ n8_; (try clear hb); (try clear hb2); (try clear hk); (try clear hi)))
     go_meet
     case rel => exact ⟨_, (true), (by first | rfl | (simp; done) | (simp [*]; done)), H', ⟨by first | omega | exact Nat.le_refl _⟩, ⟨by (with_reducible repeat (first | apply Kd.Q_alloc | apply Kd.Q_drewN | apply Kd.Q_drew)); exact Kd.Q_mono HO341.out (fun _ hk => ⟨hk.1.1, ⟨hk.1.2, hk.2⟩⟩)⟩, ⟨by (with_reducible repeat (first | apply Kd.Q_alloc | apply Kd.Q_drewN | apply Kd.Q_drew)); exact Kd.Q_mono HO344.out (fun _ hk => ⟨hk.1.1, ⟨hk.1.2, hk.2⟩⟩)⟩, ⟨Kd.Q_of_R ((Kd.S_R q4_64))⟩, ⟨Kd.Q_of_R ((Kd.S_R q4_65))⟩, ⟨by (with_reducible repeat (first | refine blk_drewN ?_ _ | refine blk_drew ?_ | refine blk_alloc ?_ _)); exact BK345.out⟩, ⟨by (with_reducible repeat (first | refine blk_drewN ?_ _ | refine blk_drew ?_ | refine blk_alloc ?_ _)); exact BK346.out⟩, ⟨by (with_reducible repeat (first | refine blk_drewN ?_ _ | refine blk_drew ?_ | refine blk_alloc ?_ _)); exact BK351.out⟩, ⟨by (with_reducible repeat (first | refine blk_drewN ?_ _ | refine blk_drew ?_ | refine blk_alloc ?_ _)); exact BK356.out⟩, ⟨q4_12⟩⟩
  case rest =>
   clear HC6
   try clear c1
   try clear c2
   try clear c2b0
   try clear c2b1
   try clear p2
   try clear c3
   try clear c4
   try clear c11
   try clear c12
   try clear c13
   try clear c14
   try clear c18
   try clear c19
   try clear c26
   try clear c27
   try clear c28
   try clear c30
   try clear c30b0
   try clear c30b1
   try clear c30b2
   try clear c32
   try clear c33
   try clear c34
   try clear c35
   try clear c37
   try clear c38
   try clear c41
   try clear c42
   try clear c43
   try clear c45
   try clear c46
   try clear hcz12_0
   try clear hcz14_0
   try clear hcz20_0
   try clear hcz21_0
   try clear hcz22_0
   try clear hcz29_0
   try clear hcz36_0
   try clear hcz39_0
   try clear hcz44_0
   try clear hcz47_0
   try clear hfz12_0
   try clear hfz14_0
   try clear hfz20_0
   try clear hfz21_0
   try clear hfz22_0
   try clear hfz29_0
   try clear hfz36_0
   try clear hfz39_0
   try clear hfz44_0
   try clear hfz47_0
   obtain ⟨kq, x45_5, rfl, HA, HJ5, HO_346000, HO_347000, HO_352000, HO_357000, BK345, BK346, BK351, BK356, HB⟩ := hcut
   cases kq with
   | zero => exact absurd HA.out (by simp [laws_FnRoughJoin.j0])
   | succ kj5 =>
    have H := HA.out;clear HA
    simp only [laws_FnRoughJoin.j0] at H
    by_cases c49 : x45_5 = true
    ·
     subst c49
     have H1 : (if (t355 == t350) = true then ((laws_lkRough.f kj5 t352 t347).bind fun t358 => (some t358)) else (some false)) = some r := by rw [if_pos rfl] at H; exact H
     clear H;have H := H1;clear H1
     by_cases c50 : (t355 == t350) = true
     ·
      rw [if_pos c50] at H
      have c50b0 : (t355 == t350) = true := c50
      (try (have c50b1 : decide (t355 = t350) = true := by simpa using c50))
      (try (have c50b2 : (t355 == t350) = true := by simpa using c50))
      clear c50
      replace H := Option.bind_eq_some_iff.mp H
      obtain ⟨t358, A510, H⟩ := H
      replace H : (some t358) = some r := H
      have A51 := Aside0.mk A510;clear A510
      obtain rfl := Option.some.inj H
      have hnb52 := NB356_345.out;have hnc52 := NB345_356.out;have hnb53 := NB356_346.out;have hnc53 := NB346_356.out;have hnb54 := NB356_351.out;have hnc54 := NB351_356.out
      have hcz55_0 : wc.cell? ⟨gb356, 0, none⟩ = some (.slice Ao25 t352.length co25) := (blk_cell BK356.out 0).trans rfl
      have hfz55_0 := blk_frozen BK356.out 0;have hnb56 := NB351_345.out;have hnc56 := NB345_351.out;have hnb57 := NB351_346.out;have hnc57 := NB346_351.out
      have hcz58_0 : wc.cell? ⟨gb351, 0, none⟩ = some (.slice Ao17 t347.length co17) := (blk_cell BK351.out 0).trans rfl
      have hfz58_0 := blk_frozen BK351.out 0
      go_wp2_with (first | (go_at_call 15; (with_reducible refine (laws_lkRough.calls kj5 _ _ t352 _ _ t347 t358 _ ?side1 ?side2 ?side3 ?side4 A51.out).mono ?_); (case side1 => exact q4_16); (case side2 => exact (Kd.Q_reads' HO_357000.out).2.1); (case side3 => repeat (first | exact (Kd.Q_reads' HO_352000.out).2.2 | (with_reducible refine Kd.C_alloc ?_ _) | (with_reducible refine Kd.C_drewN ?_ _) | (with_reducible refine Kd.C_drew ?_))); (case side4 => exact (Kd.Q_reads' HO_352000.out).2.1); rintro e w59 ⟨rfl, hb⟩; have n0_ := Aside0.mk (Kd.Q_below q4_7 hb); have n1_ := Aside0.mk (Kd.Q_below q4_8 hb); have n2_ := Aside0.mk (Kd.Q_below q4_9 hb); have n3_ := Aside0.mk (Kd.Q_below q4_10 hb); have n4_ := Aside0.mk (blk_below (g := gb345) (o := .cells #[.slice Ao10 t339.length co10] 25 (0, 0)) q4_1 hb); have n5_ := Aside0.mk (blk_below (g := gb346) (o := .cells #[.slice Ao13 t342.length co13] 25 (0, 0)) q4_2 hb); have n6_ := Aside0.mk (blk_below (g := gb351) (o := .cells #[.slice Ao17 t347.length co17] 25 (0, 0)) q4_3 hb); have n7_ := Aside0.mk (blk_below (g := gb356) (o := .cells #[.slice Ao25 t352.length co25] 25 (0, 0)) q4_4 hb); have n8_ := Aside0.mk (below_step q4_12 hb); clear HO_346000; clear HO_347000; clear HO_352000; clear HO_357000; clear BK345; clear BK346; clear BK351; clear BK356; clear HB; have HO_346000 := n0_; have HO_347000 := n1_; have HO_352000 := n2_; have HO_357000 := n3_; have BK345 := n4_; have BK346 := n5_; have BK351 := n6_; have BK356 := n7_; have HB := n8_; clear n0_ n1_ n2_ n3_ n4_ n5_ n6_ n7_ n8_; (try clear hb); (try clear hb2); (try clear hk); (try clear hi)))
      go_ret
      exact ⟨q4_26, q4_12⟩
     ·
      rw [if_neg c50] at H
      have c50b0 : (t355 == t350) = false := by simpa using c50
      (try (have c50b1 : decide (t355 = t350) = false := by simpa using c50))
      (try (have c50b2 : (t355 == t350) = false := by simpa using c50))
      (try (have c50b3 : ¬ (t355 = t350) := by simpa using c50))
      clear c50
      obtain rfl := Option.some.inj H
      go_wp2
      go_ret
      exact ⟨q4_26, q4_12⟩
    ·
     replace c49 := Bool.eq_false_iff.mpr c49
     subst c49
     have H1 : ((impl_RoughJoin.f kj5 t342 t339).bind fun bt359 => ((impl_RoughNew.f kj5).bind fun t364 => ((impl_RoughJoin.f kj5 t339 t364).bind fun bt367 => ((impl_RoughOk.f kj5 t352).bind fun t372 => (if t372 = true then (if bt359.2 = true then ((laws_lkRough.f kj5 bt359.1 t352).bind fun t373 => (if t373 = true then (if bt367.2 = true then ((laws_lkRough.f kj5 bt367.1 t339).bind fun t374 => (if t374 = true then ((impl_RoughAll.f kj5 t352).bind fun t375 => ((impl_RoughAll.f kj5 t339).bind fun t376 => ((impl_RoughAll.f kj5 t342).bind fun t377 => (some (t375 == (wrap64 (t376 + t377))))))) else (some false))) else (some false)) else (some false))) else (some false)) else (some false)))))) = some r := by rw [if_neg (show ¬ (false = true) by decide)] at H; exact H
     clear H;have H := H1;clear H1
     replace H := Option.bind_eq_some_iff.mp H
     obtain ⟨⟨t359, t362⟩, A600, H⟩ := H
     replace H : ((impl_RoughNew.f kj5).bind fun t364 => ((impl_RoughJoin.f kj5 t339 t364).bind fun bt367 => ((impl_RoughOk.f kj5 t352).bind fun t372 => (if t372 = true then (if t362 = true then ((laws_lkRough.f kj5 t359 t352).bind fun t373 => (if t373 = true then (if bt367.2 = true then ((laws_lkRough.f kj5 bt367.1 t339).bind fun t374 => (if t374 = true then ((impl_RoughAll.f kj5 t352).bind fun t375 => ((impl_RoughAll.f kj5 t339).bind fun t376 => ((impl_RoughAll.f kj5 t342).bind fun t377 => (some (t375 == (wrap64 (t376 + t377))))))) else (some false))) else (some false)) else (some false))) else (some false)) else (some false))))) = some r := H
     have A60 := Aside0.mk A600;clear A600
     replace H := Option.bind_eq_some_iff.mp H
     obtain ⟨t364, A610, H⟩ := H
     replace H : ((impl_RoughJoin.f kj5 t339 t364).bind fun bt367 => ((impl_RoughOk.f kj5 t352).bind fun t372 => (if t372 = true then (if t362 = true then ((laws_lkRough.f kj5 t359 t352).bind fun t373 => (if t373 = true then (if bt367.2 = true then ((laws_lkRough.f kj5 bt367.1 t339).bind fun t374 => (if t374 = true then ((impl_RoughAll.f kj5 t352).bind fun t375 => ((impl_RoughAll.f kj5 t339).bind fun t376 => ((impl_RoughAll.f kj5 t342).bind fun t377 => (some (t375 == (wrap64 (t376 + t377))))))) else (some false))) else (some false)) else (some false))) else (some false)) else (some false)))) = some r := H
     have A61 := Aside0.mk A610;clear A610
     replace H := Option.bind_eq_some_iff.mp H
     obtain ⟨⟨t367, t370⟩, A620, H⟩ := H
     replace H : ((impl_RoughOk.f kj5 t352).bind fun t372 => (if t372 = true then (if t362 = true then ((laws_lkRough.f kj5 t359 t352).bind fun t373 => (if t373 = true then (if t370 = true then ((laws_lkRough.f kj5 t367 t339).bind fun t374 => (if t374 = true then ((impl_RoughAll.f kj5 t352).bind fun t375 => ((impl_RoughAll.f kj5 t339).bind fun t376 => ((impl_RoughAll.f kj5 t342).bind fun t377 => (some (t375 == (wrap64 (t376 + t377))))))) else (some false))) else (some false)) else (some false))) else (some false)) else (some false))) = some r := H
     have A62 := Aside0.mk A620;clear A620
     replace H := Option.bind_eq_some_iff.mp H
     obtain ⟨t372, A630, H⟩ := H
     replace H : (if t372 = true then (if t362 = true then ((laws_lkRough.f kj5 t359 t352).bind fun t373 => (if t373 = true then (if t370 = true then ((laws_lkRough.f kj5 t367 t339).bind fun t374 => (if t374 = true then ((impl_RoughAll.f kj5 t352).bind fun t375 => ((impl_RoughAll.f kj5 t339).bind fun t376 => ((impl_RoughAll.f kj5 t342).bind fun t377 => (some (t375 == (wrap64 (t376 + t377))))))) else (some false))) else (some false)) else (some false))) else (some false)) else (some false)) = some r := H
     have A63 := Aside0.mk A630;clear A630;have HCz := Aside0.mk H; clear H;have hnb218 := NB346_345.out;have hnc218 := NB345_346.out;have hnb219 := NB346_351.out;have hnc219 := NB351_346.out;have hnb220 := NB346_356.out;have hnc220 := NB356_346.out
     have hcz221_0 : wc.cell? ⟨gb346, 0, none⟩ = some (.slice Ao13 t342.length co13) := (blk_cell BK346.out 0).trans rfl
     have hfz221_0 := blk_frozen BK346.out 0;have hnb222 := NB345_351.out;have hnc222 := NB351_345.out;have hnb223 := NB345_356.out;have hnc223 := NB356_345.out
     have hcz224_0 : wc.cell? ⟨gb345, 0, none⟩ = some (.slice Ao10 t339.length co10) := (blk_cell BK345.out 0).trans rfl
     have hfz224_0 := blk_frozen BK345.out 0
     try go_wp2_with (first | ((with_reducible refine gate_callee (f := 14) rfl ?_); refine goesL_ (some 57) rfl rfl Try.func14 (by kernel_rfl) rfl #[.agg #[.slice Ao13 t342.length co13], .agg #[.slice Ao10 t339.length co10]] rfl q4_11 ?_; (with_reducible refine (impl_RoughJoin.calls kj5 _ _ t342 _ _ t339 t359 t362 _ ?side1 ?side2 ?side3 ?side4 A60.out).mono ?_); (case side1 => exact q4_62); (case side2 => exact (Kd.Q_reads' HO_347000.out).2.1); (case side3 => exact q4_18); (case side4 => exact (Kd.Q_reads' HO_346000.out).2.1); rintro e w225 ⟨v360, rfl, ho0, hb⟩; refine ⟨_, rfl, ?_⟩; have n0_ := Aside0.mk (Kd.Q_elder' q4_7 (Kd.S_base ho0) hb); have n1_ := Aside0.mk (Kd.Q_elder' q4_8 (Kd.S_base ho0) hb); have n2_ := Aside0.mk (Kd.Q_elder' q4_9 (Kd.S_base ho0) hb); have n3_ := Aside0.mk (Kd.Q_elder' q4_10 (Kd.S_base ho0) hb); have n4_ := Aside0.mk (Kd.S_lower (Kd.S_new' (Kd.S_new' (Kd.S_new' (Kd.S_new' ho0 (Kd.Q_lt q4_7)) (Kd.Q_lt q4_8)) (Kd.Q_lt q4_9)) (Kd.Q_lt q4_10)) (below_size q4_12)); have n5_ := Aside0.mk (blk_below (g := gb345) (o := .cells #[.slice Ao10 t339.length co10] 25 (0, 0)) q4_1 hb); have n6_ := Aside0.mk (blk_below (g := gb346) (o := .cells #[.slice Ao13 t342.length co13] 25 (0, 0)) q4_2 hb); have n7_ := Aside0.mk (blk_below (g := gb351) (o := .cells #[.slice Ao17 t347.length co17] 25 (0, 0)) q4_3 hb); have n8_ := Aside0.mk (blk_below (g := gb356) (o := .cells #[.slice Ao25 t352.length co25] 25 (0, 0)) q4_4 hb); have n9_ := Aside0.mk (below_step q4_12 hb); clear HO_346000; clear HO_347000; clear HO_352000; clear HO_357000; clear BK345; clear BK346; clear BK351; clear BK356; clear HB; have HO_346000 := n0_; have HO_347000 := n1_; have HO_352000 := n2_; have HO_357000 := n3_; have HO361 := n4_; have BK345 := n5_; have BK346 := n6_; have BK351 := n7_; have BK356 := n8_; have HB := n9_; clear n0_ n1_ n2_ n3_ n4_ n5_ n6_ n7_ n8_ n9_; (try clear hb); (try clear hb2); (try clear hk); (try clear hi); (try clear ho0)) | ((with_reducible refine gate_dst (N := 9) rfl ?_); refine box_event ?hg (N := 9) ?hd (cs := #[.slice none 0 0]) (t := 25) ?hr ?_; (case hd => rfl); (case hg => rfl); (case hr => exact q4_58); intro gb363 hg w226 hbox hb; have n0_ := Aside0.mk (Kd.Q_below q4_7 hb); have n1_ := Aside0.mk (Kd.Q_below q4_8 hb); have n2_ := Aside0.mk (Kd.Q_below q4_9 hb); have n3_ := Aside0.mk (Kd.Q_below q4_10 hb); have n4_ := Aside0.mk (Kd.S_below q4_13 hb); have n5_ := Aside0.mk (blk_below (g := gb345) (o := .cells #[.slice Ao10 t339.length co10] 25 (0, 0)) q4_1 hb); have n6_ := Aside0.mk (blk_below (g := gb346) (o := .cells #[.slice Ao13 t342.length co13] 25 (0, 0)) q4_2 hb); have n7_ := Aside0.mk (blk_below (g := gb351) (o := .cells #[.slice Ao17 t347.length co17] 25 (0, 0)) q4_3 hb); have n8_ := Aside0.mk (blk_below (g := gb356) (o := .cells #[.slice Ao25 t352.length co25] 25 (0, 0)) q4_4 hb); have n9_ := Aside0.mk (below_step q4_12 hb); have n10_ := Aside0.mk (hbox); have n11_ := Aside0.mk ((by rw [hg]; exact (below_size q4_12) : w.heap.size ≤ gb363)); have n12_ := Aside0.mk ((by rw [hg]; exact (below_size q4_12) : w.heap.size ≤ gb363)); have n13_ := Aside0.mk ((q4_27 : gb345 ≠ gb363)); have n14_ := Aside0.mk ((q4_28 : gb363 ≠ gb345)); have n15_ := Aside0.mk ((q4_29 : gb346 ≠ gb363)); have n16_ := Aside0.mk ((q4_30 : gb363 ≠ gb346)); have n17_ := Aside0.mk ((q4_41 : gb351 ≠ gb363)); have n18_ := Aside0.mk ((q4_42 : gb363 ≠ gb351)); have n19_ := Aside0.mk ((q4_47 : gb356 ≠ gb363)); have n20_ := Aside0.mk ((q4_48 : gb363 ≠ gb356)); clear HO_346000; clear HO_347000; clear HO_352000; clear HO_357000; clear HO361; clear BK345; clear BK346; clear BK351; clear BK356; clear HB; have HO_346000 := n0_; have HO_347000 := n1_; have HO_352000 := n2_; have HO_357000 := n3_; have HO361 := n4_; have BK345 := n5_; have BK346 := n6_; have BK351 := n7_; have BK356 := n8_; have HB := n9_; have BK363 := n10_; have GW363 := n11_; have GE363 := n12_; have NB345_363 := n13_; have NB363_345 := n14_; have NB346_363 := n15_; have NB363_346 := n16_; have NB351_363 := n17_; have NB363_351 := n18_; have NB356_363 := n19_; have NB363_356 := n20_; clear n0_ n1_ n2_ n3_ n4_ n5_ n6_ n7_ n8_ n9_ n10_ n11_ n12_ n13_ n14_ n15_ n16_ n17_ n18_ n19_ n20_; clear hb hbox hg; obtain ⟨Ao227, co227, eo227⟩ := Kd.S_slice HO361.out; subst eo227; have hnb228 := NB363_345.out; have hnc228 := NB345_363.out; have hnb229 := NB363_346.out; have hnc229 := NB346_363.out; have hnb230 := NB363_351.out; have hnc230 := NB351_363.out; have hnb231 := NB363_356.out; have hnc231 := NB356_363.out; have hcz232_0 : w226.cell? ⟨gb363, 0, none⟩ = some (.slice none 0 0) := (blk_cell BK363.out 0).trans rfl; have hfz232_0 := blk_frozen BK363.out 0))
     have n0_ : Aside0 (Kd.Q (Kd.slice 3 (Kd.int .i64)) 43 (w226.setCell ⟨gb363, 0, none⟩ (.slice Ao227 t359.length co227)) w.heap.size (fun k_ => some k_ ≠ (.slice Ao13 t342.length co13 : Value).ownBlock ∧ some k_ ≠ (.slice Ao17 t347.length co17 : Value).ownBlock ∧ some k_ ≠ (.slice Ao25 t352.length co25 : Value).ownBlock ∧ some k_ ≠ (.slice Ao227 t359.length co227 : Value).ownBlock) (.slice Ao10 t339.length co10) t339) := ⟨by (with_reducible repeat (first | apply Kd.Q_alloc | apply Kd.Q_drewN | apply Kd.Q_drew)); exact Kd.Q_mono (Kd.Q_far (p := ⟨gb363, 0, none⟩) (Kd.Q_types HO_346000.out BK363.out (by decide)) (fun _ hk => hk.2) (.slice Ao227 t359.length co227)) (fun _ hk => ⟨hk.1.1.1, ⟨hk.1.1.2.1, ⟨hk.1.1.2.2, hk.1.2⟩⟩⟩)⟩
     have n1_ : Aside0 (Kd.Q (Kd.slice 3 (Kd.int .i64)) 43 (w226.setCell ⟨gb363, 0, none⟩ (.slice Ao227 t359.length co227)) w.heap.size (fun k_ => some k_ ≠ (.slice Ao10 t339.length co10 : Value).ownBlock ∧ some k_ ≠ (.slice Ao17 t347.length co17 : Value).ownBlock ∧ some k_ ≠ (.slice Ao25 t352.length co25 : Value).ownBlock ∧ some k_ ≠ (.slice Ao227 t359.length co227 : Value).ownBlock) (.slice Ao13 t342.length co13) t342) := ⟨by (with_reducible repeat (first | apply Kd.Q_alloc | apply Kd.Q_drewN | apply Kd.Q_drew)); exact Kd.Q_mono (Kd.Q_far (p := ⟨gb363, 0, none⟩) (Kd.Q_types HO_347000.out BK363.out (by decide)) (fun _ hk => hk.2) (.slice Ao227 t359.length co227)) (fun _ hk => ⟨hk.1.1.1, ⟨hk.1.1.2.1, ⟨hk.1.1.2.2, hk.1.2⟩⟩⟩)⟩
     have n2_ : Aside0 (Kd.Q (Kd.slice 3 (Kd.int .i64)) 43 (w226.setCell ⟨gb363, 0, none⟩ (.slice Ao227 t359.length co227)) w.heap.size (fun k_ => some k_ ≠ (.slice Ao10 t339.length co10 : Value).ownBlock ∧ some k_ ≠ (.slice Ao13 t342.length co13 : Value).ownBlock ∧ some k_ ≠ (.slice Ao25 t352.length co25 : Value).ownBlock ∧ some k_ ≠ (.slice Ao227 t359.length co227 : Value).ownBlock) (.slice Ao17 t347.length co17) t347) := ⟨by (with_reducible repeat (first | apply Kd.Q_alloc | apply Kd.Q_drewN | apply Kd.Q_drew)); exact Kd.Q_mono (Kd.Q_far (p := ⟨gb363, 0, none⟩) (Kd.Q_types HO_352000.out BK363.out (by decide)) (fun _ hk => hk.2) (.slice Ao227 t359.length co227)) (fun _ hk => ⟨hk.1.1.1, ⟨hk.1.1.2.1, ⟨hk.1.1.2.2, hk.1.2⟩⟩⟩)⟩
     have n3_ : Aside0 (Kd.Q (Kd.slice 3 (Kd.int .i64)) 43 (w226.setCell ⟨gb363, 0, none⟩ (.slice Ao227 t359.length co227)) w.heap.size (fun k_ => some k_ ≠ (.slice Ao10 t339.length co10 : Value).ownBlock ∧ some k_ ≠ (.slice Ao13 t342.length co13 : Value).ownBlock ∧ some k_ ≠ (.slice Ao17 t347.length co17 : Value).ownBlock ∧ some k_ ≠ (.slice Ao227 t359.length co227 : Value).ownBlock) (.slice Ao25 t352.length co25) t352) := ⟨by (with_reducible repeat (first | apply Kd.Q_alloc | apply Kd.Q_drewN | apply Kd.Q_drew)); exact Kd.Q_mono (Kd.Q_far (p := ⟨gb363, 0, none⟩) (Kd.Q_types HO_357000.out BK363.out (by decide)) (fun _ hk => hk.2) (.slice Ao227 t359.length co227)) (fun _ hk => ⟨hk.1.1.1, ⟨hk.1.1.2.1, ⟨hk.1.1.2.2, hk.1.2⟩⟩⟩)⟩
     have n4_ : Aside0 (Kd.S (Kd.slice 3 (Kd.int .i64)) 43 (w226.setCell ⟨gb363, 0, none⟩ (.slice Ao227 t359.length co227)) w.heap.size (fun k_ => some k_ ≠ (.slice Ao10 t339.length co10 : Value).ownBlock ∧ some k_ ≠ (.slice Ao13 t342.length co13 : Value).ownBlock ∧ some k_ ≠ (.slice Ao17 t347.length co17 : Value).ownBlock ∧ some k_ ≠ (.slice Ao25 t352.length co25 : Value).ownBlock) (.slice Ao227 t359.length co227) t359) := ⟨by (with_reducible repeat (first | apply Kd.S_alloc | apply Kd.S_drewN | apply Kd.S_drew)); exact Kd.S_mono (Kd.S_far (p := ⟨gb363, 0, none⟩) (Kd.S_types HO361.out BK363.out (by decide)) (fun _ hk => hk.2) (.slice Ao227 t359.length co227)) (fun _ hk => ⟨hk.1.1.1.1.2, ⟨hk.1.1.1.2, ⟨hk.1.1.2, hk.1.2⟩⟩⟩)⟩
     have n5_ : Aside0 ((w226.setCell ⟨gb363, 0, none⟩ (.slice Ao227 t359.length co227)).heap[gb345]? = some (.cells #[.slice Ao10 t339.length co10] 25 (0, 0))) := ⟨by (with_reducible repeat (first | refine blk_drewN ?_ _ | refine blk_drew ?_ | refine blk_alloc ?_ _)); refine blk_far ?_ NB345_363.out _; (with_reducible repeat (first | refine blk_drewN ?_ _ | refine blk_drew ?_ | refine blk_alloc ?_ _)); exact BK345.out⟩
     have n6_ : Aside0 ((w226.setCell ⟨gb363, 0, none⟩ (.slice Ao227 t359.length co227)).heap[gb346]? = some (.cells #[.slice Ao13 t342.length co13] 25 (0, 0))) := ⟨by (with_reducible repeat (first | refine blk_drewN ?_ _ | refine blk_drew ?_ | refine blk_alloc ?_ _)); refine blk_far ?_ NB346_363.out _; (with_reducible repeat (first | refine blk_drewN ?_ _ | refine blk_drew ?_ | refine blk_alloc ?_ _)); exact BK346.out⟩
     have n7_ : Aside0 ((w226.setCell ⟨gb363, 0, none⟩ (.slice Ao227 t359.length co227)).heap[gb351]? = some (.cells #[.slice Ao17 t347.length co17] 25 (0, 0))) := ⟨by (with_reducible repeat (first | refine blk_drewN ?_ _ | refine blk_drew ?_ | refine blk_alloc ?_ _)); refine blk_far ?_ NB351_363.out _; (with_reducible repeat (first | refine blk_drewN ?_ _ | refine blk_drew ?_ | refine blk_alloc ?_ _)); exact BK351.out⟩
     have n8_ : Aside0 ((w226.setCell ⟨gb363, 0, none⟩ (.slice Ao227 t359.length co227)).heap[gb356]? = some (.cells #[.slice Ao25 t352.length co25] 25 (0, 0))) := ⟨by (with_reducible repeat (first | refine blk_drewN ?_ _ | refine blk_drew ?_ | refine blk_alloc ?_ _)); refine blk_far ?_ NB356_363.out _; (with_reducible repeat (first | refine blk_drewN ?_ _ | refine blk_drew ?_ | refine blk_alloc ?_ _)); exact BK356.out⟩
     have n9_ : Aside0 ((w226.setCell ⟨gb363, 0, none⟩ (.slice Ao227 t359.length co227)).heap[gb363]? = some (.cells #[.slice Ao227 t359.length co227] 25 (0, 0))) := ⟨by (with_reducible repeat (first | refine blk_drewN ?_ _ | refine blk_drew ?_ | refine blk_alloc ?_ _)); refine blk_put (cs := #[.slice none 0 0]) ?_ 0 _ rfl; (with_reducible repeat (first | refine blk_drewN ?_ _ | refine blk_drew ?_ | refine blk_alloc ?_ _)); exact BK363.out⟩
     have n10_ : Aside0 (Below w.heap.size w (w226.setCell ⟨gb363, 0, none⟩ (.slice Ao227 t359.length co227))) := ⟨q4_5⟩
     (try clear HO_346000);(try clear HO_347000);(try clear HO_352000);(try clear HO_357000);(try clear HO361);(try clear BK345);(try clear BK346);(try clear BK351);(try clear BK356);(try clear BK363);(try clear HB)
     generalize (w226.setCell ⟨gb363, 0, none⟩ (.slice Ao227 t359.length co227)) = w233 at n0_ n1_ n2_ n3_ n4_ n5_ n6_ n7_ n8_ n9_ n10_ ⊢
     have HO_346000 := n0_;have HO_347000 := n1_;have HO_352000 := n2_;have HO_357000 := n3_;have HO361 := n4_;have BK345 := n5_;have BK346 := n6_;have BK351 := n7_;have BK356 := n8_;have BK363 := n9_;have HB := n10_;clear n0_ n1_ n2_ n3_ n4_ n5_ n6_ n7_ n8_ n9_ n10_;have n0_ := Aside0.mk (Kd.Q_drew HO_346000.out);have n1_ := Aside0.mk (Kd.Q_drew HO_347000.out);have n2_ := Aside0.mk (Kd.Q_drew HO_352000.out);have n3_ := Aside0.mk (Kd.Q_drew HO_357000.out);have n4_ := Aside0.mk (Kd.S_drew HO361.out);have n5_ := Aside0.mk (blk_drew BK345.out);have n6_ := Aside0.mk (blk_drew BK346.out);have n7_ := Aside0.mk (blk_drew BK351.out);have n8_ := Aside0.mk (blk_drew BK356.out);have n9_ := Aside0.mk (blk_drew BK363.out);have n10_ := Aside0.mk (below_drew1 HB.out);clear HO_346000 HO_347000 HO_352000 HO_357000 HO361 BK345 BK346 BK351 BK356 BK363 HB;have HO_346000 := n0_;have HO_347000 := n1_;have HO_352000 := n2_;have HO_357000 := n3_;have HO361 := n4_;have BK345 := n5_;have BK346 := n6_;have BK351 := n7_;have BK356 := n8_;have BK363 := n9_;have HB := n10_;clear n0_ n1_ n2_ n3_ n4_ n5_ n6_ n7_ n8_ n9_ n10_;refine start_ (n := 9) (S := fun w' => w'.cell? ⟨gb345, 0, none⟩ = some (.slice Ao10 t339.length co10)) (ds := []) #[false, false, false, false, false, false, false, false, false] (by kernel_rfl) rfl rfl ((blk_cell BK345.out 0).trans rfl) (fun hHeld => ?_); refine with_tabW laws_FnRoughJoin.tab9 laws_FnRoughJoin.bits9 (fun HT_ HW_ => ?_)
     generalize w233.drew = w234 at HO_346000 HO_347000 HO_352000 HO_357000 HO361 BK345 BK346 BK351 BK356 BK363 HB hHeld ⊢
     refine take_ (i := 0) (N := some 61) (v := ?_) (a' := ?_) #[true, false, false, false, false, false, false, false, false] rfl rfl (take_ofW HT_.out HW_.out (by kernel_rfl)) (fun _ _ _ h => h) (Or.inl ⟨by rfl, ?_⟩) hHeld ?_ ?_;rotate_left
     ·
      intro w' s0
      go_simp
      with_reducible rfl
     rotate_left
     ·
      simp only [Act.put, List.setIfInBounds_toArray, List.set_cons_zero, List.set_cons_succ, i64_w, i32_w]
      rfl
     refine join_ (σ := Value × Value × Nat) 2 #[true, true, true, true, true, true, true, false, false] (fun s_ => [(62, .agg #[s_.1]), (63, .tuple #[.agg #[s_.2.1], .bool t370]), (11, .pointer (some ⟨s_.2.2, 0, none⟩)), (60, .tuple #[.agg #[s_.2.1], .bool t370]), (64, .agg #[s_.2.1]), (65, .bool t370)]) (fun s_ w' => (w'.cell? ⟨gb345, 0, none⟩ = some (.slice Ao10 t339.length co10)) ∧ (Kd.S (Kd.slice 3 (Kd.int .i64)) 43 w' w.heap.size (fun k_ => some k_ ≠ (s_.1 : Value).ownBlock ∧ some k_ ≠ (s_.2.1 : Value).ownBlock ∧ some k_ ≠ (.slice Ao10 t339.length co10 : Value).ownBlock ∧ some k_ ≠ (.slice Ao13 t342.length co13 : Value).ownBlock ∧ some k_ ≠ (.slice Ao17 t347.length co17 : Value).ownBlock ∧ some k_ ≠ (.slice Ao25 t352.length co25 : Value).ownBlock) (.slice Ao227 t359.length co227) t359) ∧ (Kd.S (Kd.slice 3 (Kd.int .i64)) 43 w' w.heap.size (fun k_ => some k_ ≠ (.slice Ao227 t359.length co227 : Value).ownBlock ∧ some k_ ≠ (s_.2.1 : Value).ownBlock ∧ some k_ ≠ (.slice Ao10 t339.length co10 : Value).ownBlock ∧ some k_ ≠ (.slice Ao13 t342.length co13 : Value).ownBlock ∧ some k_ ≠ (.slice Ao17 t347.length co17 : Value).ownBlock ∧ some k_ ≠ (.slice Ao25 t352.length co25 : Value).ownBlock) s_.1 t364) ∧ (Kd.S (Kd.slice 3 (Kd.int .i64)) 43 w' w.heap.size (fun k_ => some k_ ≠ (.slice Ao227 t359.length co227 : Value).ownBlock ∧ some k_ ≠ (s_.1 : Value).ownBlock ∧ some k_ ≠ (.slice Ao10 t339.length co10 : Value).ownBlock ∧ some k_ ≠ (.slice Ao13 t342.length co13 : Value).ownBlock ∧ some k_ ≠ (.slice Ao17 t347.length co17 : Value).ownBlock ∧ some k_ ≠ (.slice Ao25 t352.length co25 : Value).ownBlock) s_.2.1 t367) ∧ (Kd.Q (Kd.slice 3 (Kd.int .i64)) 43 w' w.heap.size (fun k_ => some k_ ≠ (.slice Ao227 t359.length co227 : Value).ownBlock ∧ some k_ ≠ (s_.1 : Value).ownBlock ∧ some k_ ≠ (s_.2.1 : Value).ownBlock ∧ some k_ ≠ (.slice Ao13 t342.length co13 : Value).ownBlock ∧ some k_ ≠ (.slice Ao17 t347.length co17 : Value).ownBlock ∧ some k_ ≠ (.slice Ao25 t352.length co25 : Value).ownBlock) (.slice Ao10 t339.length co10) t339) ∧ (Kd.Q (Kd.slice 3 (Kd.int .i64)) 43 w' w.heap.size (fun k_ => some k_ ≠ (.slice Ao227 t359.length co227 : Value).ownBlock ∧ some k_ ≠ (s_.1 : Value).ownBlock ∧ some k_ ≠ (s_.2.1 : Value).ownBlock ∧ some k_ ≠ (.slice Ao10 t339.length co10 : Value).ownBlock ∧ some k_ ≠ (.slice Ao17 t347.length co17 : Value).ownBlock ∧ some k_ ≠ (.slice Ao25 t352.length co25 : Value).ownBlock) (.slice Ao13 t342.length co13) t342) ∧ (Kd.Q (Kd.slice 3 (Kd.int .i64)) 43 w' w.heap.size (fun k_ => some k_ ≠ (.slice Ao227 t359.length co227 : Value).ownBlock ∧ some k_ ≠ (s_.1 : Value).ownBlock ∧ some k_ ≠ (s_.2.1 : Value).ownBlock ∧ some k_ ≠ (.slice Ao10 t339.length co10 : Value).ownBlock ∧ some k_ ≠ (.slice Ao13 t342.length co13 : Value).ownBlock ∧ some k_ ≠ (.slice Ao25 t352.length co25 : Value).ownBlock) (.slice Ao17 t347.length co17) t347) ∧ (Kd.Q (Kd.slice 3 (Kd.int .i64)) 43 w' w.heap.size (fun k_ => some k_ ≠ (.slice Ao227 t359.length co227 : Value).ownBlock ∧ some k_ ≠ (s_.1 : Value).ownBlock ∧ some k_ ≠ (s_.2.1 : Value).ownBlock ∧ some k_ ≠ (.slice Ao10 t339.length co10 : Value).ownBlock ∧ some k_ ≠ (.slice Ao13 t342.length co13 : Value).ownBlock ∧ some k_ ≠ (.slice Ao17 t347.length co17 : Value).ownBlock) (.slice Ao25 t352.length co25) t352) ∧ (w'.heap[gb345]? = some (.cells #[.slice Ao10 t339.length co10] 25 (0, 0))) ∧ (w'.heap[gb346]? = some (.cells #[.slice Ao13 t342.length co13] 25 (0, 0))) ∧ (w'.heap[gb351]? = some (.cells #[.slice Ao17 t347.length co17] 25 (0, 0))) ∧ (w'.heap[gb356]? = some (.cells #[.slice Ao25 t352.length co25] 25 (0, 0))) ∧ (w'.heap[gb363]? = some (.cells #[.slice Ao227 t359.length co227] 25 (0, 0))) ∧ (w'.heap[s_.2.2]? = some (.cells #[.slice none 0 0] 25 (0, 0))) ∧ (w.heap.size ≤ s_.2.2) ∧ (w.heap.size ≤ s_.2.2) ∧ (gb345 ≠ s_.2.2) ∧ (s_.2.2 ≠ gb345) ∧ (gb346 ≠ s_.2.2) ∧ (s_.2.2 ≠ gb346) ∧ (gb351 ≠ s_.2.2) ∧ (s_.2.2 ≠ gb351) ∧ (gb356 ≠ s_.2.2) ∧ (s_.2.2 ≠ gb356) ∧ (gb363 ≠ s_.2.2) ∧ (s_.2.2 ≠ gb363) ∧ (Below w.heap.size w w')) ?_ ?_;rotate_left
     ·
      intro hCont;refine two_ (i := 1) (j := 6) (Ni := some 62) (Nj := some 11) #[true, true, false, false, false, false, false, false, false] #[true, false, false, false, false, false, true, false, false] rfl rfl rfl rfl (two_of HT_.out (by kernel_rfl)) (by decide) (by decide) (fun K hK => ?_) (fun K hK => ?_)
      ·
       skip
       refine goes_ Try.func16 (by kernel_rfl) rfl #[] (by rfl) rfl rfl q4_11 ?_
       with_reducible refine (impl_RoughNew.calls kj5  t364 _ A61.out).mono ?_
       rintro e w235 ⟨v365, rfl, ho0, hb⟩;refine ⟨_, rfl, ?_⟩;have n0_ := Aside0.mk (Kd.Q_elder' q4_7 (Kd.S_base ho0) hb);have n1_ := Aside0.mk (Kd.Q_elder' q4_8 (Kd.S_base ho0) hb);have n2_ := Aside0.mk (Kd.Q_elder' q4_9 (Kd.S_base ho0) hb);have n3_ := Aside0.mk (Kd.Q_elder' q4_10 (Kd.S_base ho0) hb);have n4_ := Aside0.mk (Kd.S_elder' q4_13 (Kd.S_base ho0) hb);have n5_ := Aside0.mk (Kd.S_lower (Kd.S_new' (Kd.S_new' (Kd.S_new' (Kd.S_new' (Kd.S_new' ho0 (Kd.Q_lt q4_7)) (Kd.Q_lt q4_8)) (Kd.Q_lt q4_9)) (Kd.Q_lt q4_10)) (Kd.S_lt q4_13)) (below_size q4_5));have n6_ := Aside0.mk (blk_below (g := gb345) (o := .cells #[.slice Ao10 t339.length co10] 25 (0, 0)) q4_1 hb);have n7_ := Aside0.mk (blk_below (g := gb346) (o := .cells #[.slice Ao13 t342.length co13] 25 (0, 0)) q4_2 hb);have n8_ := Aside0.mk (blk_below (g := gb351) (o := .cells #[.slice Ao17 t347.length co17] 25 (0, 0)) q4_3 hb);have n9_ := Aside0.mk (blk_below (g := gb356) (o := .cells #[.slice Ao25 t352.length co25] 25 (0, 0)) q4_4 hb);have n10_ := Aside0.mk (blk_below (g := gb363) (o := .cells #[.slice Ao227 t359.length co227] 25 (0, 0)) q4_6 hb);have n11_ := Aside0.mk (below_step q4_5 hb);clear HO_346000 HO_347000 HO_352000 HO_357000 HO361 BK345 BK346 BK351 BK356 BK363 HB;have HO_346000 := n0_;have HO_347000 := n1_;have HO_352000 := n2_;have HO_357000 := n3_;have HO361 := n4_;have HO366 := n5_;have BK345 := n6_;have BK346 := n7_;have BK351 := n8_;have BK356 := n9_;have BK363 := n10_;have HB := n11_;clear n0_ n1_ n2_ n3_ n4_ n5_ n6_ n7_ n8_ n9_ n10_ n11_;(try clear hb);(try clear hb2);(try clear hk);(try clear hi);(try clear ho0);obtain ⟨Ao236, co236, eo236⟩ := Kd.S_slice HO366.out;(first | subst eo236 | (injection eo236 with f1_ f2_ f3_; have f4_ := f1_.symm; have f5_ := f3_.symm; clear f1_ f2_ f3_; subst f4_; subst f5_));refine hK.out _ _ ((blk_cell BK345.out 0).trans rfl) (fun hHeld => ?_);clear hK K;refine norm_ (a' := ?_) ?_ ?_;rotate_left
       ·
        show Act.put _ (some 62) _ = _
        simp only [Act.put, List.setIfInBounds_toArray, List.set_cons_zero, List.set_cons_succ, i64_w, i32_w]
        rfl
       refine two_ (i := 2) (j := 6) (Ni := some 63) (Nj := some 11) #[true, true, true, false, false, false, false, false, false] #[true, true, false, false, false, false, true, false, false] rfl rfl rfl rfl (two_of HT_.out (by kernel_rfl)) (by decide) (by decide) (fun K hK => ?_) (fun K hK => ?_)
       ·
        skip
        refine goes_ Try.func14 (by kernel_rfl) rfl #[.agg #[.slice Ao10 t339.length co10], .agg #[.slice Ao236 t364.length co236]] (by rfl) rfl rfl q4_11 ?_
        with_reducible refine (impl_RoughJoin.calls kj5 _ _ t339 _ _ t364 t367 t370 _ ?side1 ?side2 ?side3 ?side4 A62.out).mono ?_
        (case side1 => exact q4_18);(case side2 => exact (Kd.Q_reads' HO_346000.out).2.1);(case side3 => exact q4_43);(case side4 => exact (Kd.S_reads' HO366.out).2.1);rintro e w237 ⟨v368, rfl, ho0, hb⟩;refine ⟨_, rfl, ?_⟩;have n0_ := Aside0.mk (Kd.Q_elder' q4_7 (Kd.S_base ho0) hb);have n1_ := Aside0.mk (Kd.Q_elder' q4_8 (Kd.S_base ho0) hb);have n2_ := Aside0.mk (Kd.Q_elder' q4_9 (Kd.S_base ho0) hb);have n3_ := Aside0.mk (Kd.Q_elder' q4_10 (Kd.S_base ho0) hb);have n4_ := Aside0.mk (Kd.S_elder' q4_13 (Kd.S_base ho0) hb);have n5_ := Aside0.mk (Kd.S_elder' q4_15 (Kd.S_base ho0) hb);have n6_ := Aside0.mk (Kd.S_lower (Kd.S_new' (Kd.S_new' (Kd.S_new' (Kd.S_new' (Kd.S_new' (Kd.S_new' ho0 (Kd.Q_lt q4_7)) (Kd.Q_lt q4_8)) (Kd.Q_lt q4_9)) (Kd.Q_lt q4_10)) (Kd.S_lt q4_13)) (Kd.S_lt q4_15)) (below_size q4_5));have n7_ := Aside0.mk (blk_below (g := gb345) (o := .cells #[.slice Ao10 t339.length co10] 25 (0, 0)) q4_1 hb);have n8_ := Aside0.mk (blk_below (g := gb346) (o := .cells #[.slice Ao13 t342.length co13] 25 (0, 0)) q4_2 hb);have n9_ := Aside0.mk (blk_below (g := gb351) (o := .cells #[.slice Ao17 t347.length co17] 25 (0, 0)) q4_3 hb);have n10_ := Aside0.mk (blk_below (g := gb356) (o := .cells #[.slice Ao25 t352.length co25] 25 (0, 0)) q4_4 hb);have n11_ := Aside0.mk (blk_below (g := gb363) (o := .cells #[.slice Ao227 t359.length co227] 25 (0, 0)) q4_6 hb);have n12_ := Aside0.mk (below_step q4_5 hb);clear HO_346000 HO_347000 HO_352000 HO_357000 HO361 HO366 BK345 BK346 BK351 BK356 BK363 HB;have HO_346000 := n0_;have HO_347000 := n1_;have HO_352000 := n2_;have HO_357000 := n3_;have HO361 := n4_;have HO366 := n5_;have HO369 := n6_;have BK345 := n7_;have BK346 := n8_;have BK351 := n9_;have BK356 := n10_;have BK363 := n11_;have HB := n12_;clear n0_ n1_ n2_ n3_ n4_ n5_ n6_ n7_ n8_ n9_ n10_ n11_ n12_;(try clear hb);(try clear hb2);(try clear hk);(try clear hi);(try clear ho0);refine hK.out _ _ ((blk_cell BK345.out 0).trans rfl) (fun hHeld => ?_);clear hK K;refine norm_ (a' := ?_) ?_ ?_;rotate_left
        ·
         show Act.put _ (some 63) _ = _
         simp only [Act.put, List.setIfInBounds_toArray, List.set_cons_zero, List.set_cons_succ, i64_w, i32_w]
         rfl
        refine pure_ (i := 3) (N := some 60) (v := ?_) (a' := ?_) #[true, true, true, true, false, false, false, false, false] rfl rfl (any_of HT_.out (by kernel_rfl)) (fun _ _ _ h => h) (Or.inl ⟨by rfl, ?_⟩) ?_ ?_;rotate_left
        ·
         intro w'
         go_simp
         with_reducible rfl
        rotate_left
        ·
         simp only [Act.put, List.setIfInBounds_toArray, List.set_cons_zero, List.set_cons_succ, i64_w, i32_w]
         rfl
        refine pure_ (i := 4) (N := some 64) (v := ?_) (a' := ?_) #[true, true, true, true, true, false, false, false, false] rfl rfl (any_of HT_.out (by kernel_rfl)) (fun _ _ _ h => h) (Or.inl ⟨by rfl, ?_⟩) ?_ ?_;rotate_left
        ·
         intro w'
         go_simp
         with_reducible rfl
        rotate_left
        ·
         simp only [Act.put, List.setIfInBounds_toArray, List.set_cons_zero, List.set_cons_succ, i64_w, i32_w]
         rfl
        refine pure_ (i := 5) (N := some 65) (v := ?_) (a' := ?_) #[true, true, true, true, true, true, false, false, false] rfl rfl (any_of HT_.out (by kernel_rfl)) (fun _ _ _ h => h) (Or.inl ⟨by rfl, ?_⟩) ?_ ?_;rotate_left
        ·
         intro w'
         go_simp
         with_reducible rfl
        rotate_left
        ·
         simp only [Act.put, List.setIfInBounds_toArray, List.set_cons_zero, List.set_cons_succ, i64_w, i32_w]
         rfl
        refine one_ (i := 6) (N := some 11) #[true, true, true, true, true, true, true, false, false] rfl rfl (one_of HT_.out (by kernel_rfl)) (by decide) (fun K hK => ?_);refine box_step ?hg (N := 11) ?hd (cs := #[.slice none 0 0]) (t := 25) ?hr ?_; (case hd => rfl); (case hg => rfl); (case hr => exact q4_58);intro gb371 hg w238 hbox hb;have n0_ := Aside0.mk (Kd.Q_below q4_7 hb);have n1_ := Aside0.mk (Kd.Q_below q4_8 hb);have n2_ := Aside0.mk (Kd.Q_below q4_9 hb);have n3_ := Aside0.mk (Kd.Q_below q4_10 hb);have n4_ := Aside0.mk (Kd.S_below q4_13 hb);have n5_ := Aside0.mk (Kd.S_below q4_15 hb);have n6_ := Aside0.mk (Kd.S_below q4_17 hb);have n7_ := Aside0.mk (blk_below (g := gb345) (o := .cells #[.slice Ao10 t339.length co10] 25 (0, 0)) q4_1 hb);have n8_ := Aside0.mk (blk_below (g := gb346) (o := .cells #[.slice Ao13 t342.length co13] 25 (0, 0)) q4_2 hb);have n9_ := Aside0.mk (blk_below (g := gb351) (o := .cells #[.slice Ao17 t347.length co17] 25 (0, 0)) q4_3 hb);have n10_ := Aside0.mk (blk_below (g := gb356) (o := .cells #[.slice Ao25 t352.length co25] 25 (0, 0)) q4_4 hb);have n11_ := Aside0.mk (blk_below (g := gb363) (o := .cells #[.slice Ao227 t359.length co227] 25 (0, 0)) q4_6 hb);have n12_ := Aside0.mk (below_step q4_5 hb);have n13_ := Aside0.mk (hbox);have n14_ := Aside0.mk ((q4_66 : w.heap.size ≤ gb371));have n15_ := Aside0.mk ((q4_66 : w.heap.size ≤ gb371));have n16_ := Aside0.mk ((q4_27 : gb345 ≠ gb371));have n17_ := Aside0.mk ((q4_28 : gb371 ≠ gb345));have n18_ := Aside0.mk ((q4_29 : gb346 ≠ gb371));have n19_ := Aside0.mk ((q4_30 : gb371 ≠ gb346));have n20_ := Aside0.mk ((q4_41 : gb351 ≠ gb371));have n21_ := Aside0.mk ((q4_42 : gb371 ≠ gb351));have n22_ := Aside0.mk ((q4_47 : gb356 ≠ gb371));have n23_ := Aside0.mk ((q4_48 : gb371 ≠ gb356));have n24_ := Aside0.mk ((q4_59 : gb363 ≠ gb371));have n25_ := Aside0.mk ((q4_60 : gb371 ≠ gb363));clear HO_346000 HO_347000 HO_352000 HO_357000 HO361 HO366 HO369 BK345 BK346 BK351 BK356 BK363 HB;have HO_346000 := n0_;have HO_347000 := n1_;have HO_352000 := n2_;have HO_357000 := n3_;have HO361 := n4_;have HO366 := n5_;have HO369 := n6_;have BK345 := n7_;have BK346 := n8_;have BK351 := n9_;have BK356 := n10_;have BK363 := n11_;have HB := n12_;have BK371 := n13_;have GW371 := n14_;have GE371 := n15_;have NB345_371 := n16_;have NB371_345 := n17_;have NB346_371 := n18_;have NB371_346 := n19_;have NB351_371 := n20_;have NB371_351 := n21_;have NB356_371 := n22_;have NB371_356 := n23_;have NB363_371 := n24_;have NB371_363 := n25_;clear n0_ n1_ n2_ n3_ n4_ n5_ n6_ n7_ n8_ n9_ n10_ n11_ n12_ n13_ n14_ n15_ n16_ n17_ n18_ n19_ n20_ n21_ n22_ n23_ n24_ n25_ hb hbox hg;refine hK.out _ _ ((blk_cell BK345.out 0).trans rfl) (fun hHeld => ?_);clear hK K;refine norm_ (a' := ?_) ?_ ?_;rotate_left
        ·
         show Act.put _ (some 11) _ = _
         simp only [Act.put, List.setIfInBounds_toArray, List.set_cons_zero, List.set_cons_succ, i64_w, i32_w]
         rfl
        exact norm_ q4_61 (hCont (.slice Ao236 t364.length co236, v368, gb371) _ ⟨hHeld, q4_40, q4_38, q4_39, q4_34, q4_35, q4_36, q4_37, q4_1, q4_2, q4_3, q4_4, q4_6, q4_14, GW371.out, GE371.out, NB345_371.out, NB371_345.out, NB346_371.out, NB371_346.out, NB351_371.out, NB371_351.out, NB356_371.out, NB371_356.out, NB363_371.out, NB371_363.out, q4_0⟩)
       ·
        skip
        refine box_step ?hg (N := 11) ?hd (cs := #[.slice none 0 0]) (t := 25) ?hr ?_; (case hd => rfl); (case hg => rfl); (case hr => exact q4_58);intro gb371 hg w236 hbox hb;have n0_ := Aside0.mk (Kd.Q_below q4_7 hb);have n1_ := Aside0.mk (Kd.Q_below q4_8 hb);have n2_ := Aside0.mk (Kd.Q_below q4_9 hb);have n3_ := Aside0.mk (Kd.Q_below q4_10 hb);have n4_ := Aside0.mk (Kd.S_below q4_13 hb);have n5_ := Aside0.mk (Kd.S_below q4_15 hb);have n6_ := Aside0.mk (blk_below (g := gb345) (o := .cells #[.slice Ao10 t339.length co10] 25 (0, 0)) q4_1 hb);have n7_ := Aside0.mk (blk_below (g := gb346) (o := .cells #[.slice Ao13 t342.length co13] 25 (0, 0)) q4_2 hb);have n8_ := Aside0.mk (blk_below (g := gb351) (o := .cells #[.slice Ao17 t347.length co17] 25 (0, 0)) q4_3 hb);have n9_ := Aside0.mk (blk_below (g := gb356) (o := .cells #[.slice Ao25 t352.length co25] 25 (0, 0)) q4_4 hb);have n10_ := Aside0.mk (blk_below (g := gb363) (o := .cells #[.slice Ao227 t359.length co227] 25 (0, 0)) q4_6 hb);have n11_ := Aside0.mk (below_step q4_5 hb);have n12_ := Aside0.mk (hbox);have n13_ := Aside0.mk ((q4_66 : w.heap.size ≤ gb371));have n14_ := Aside0.mk ((q4_66 : w.heap.size ≤ gb371));have n15_ := Aside0.mk ((q4_27 : gb345 ≠ gb371));have n16_ := Aside0.mk ((q4_28 : gb371 ≠ gb345));have n17_ := Aside0.mk ((q4_29 : gb346 ≠ gb371));have n18_ := Aside0.mk ((q4_30 : gb371 ≠ gb346));have n19_ := Aside0.mk ((q4_41 : gb351 ≠ gb371));have n20_ := Aside0.mk ((q4_42 : gb371 ≠ gb351));have n21_ := Aside0.mk ((q4_47 : gb356 ≠ gb371));have n22_ := Aside0.mk ((q4_48 : gb371 ≠ gb356));have n23_ := Aside0.mk ((q4_59 : gb363 ≠ gb371));have n24_ := Aside0.mk ((q4_60 : gb371 ≠ gb363));clear HO_346000 HO_347000 HO_352000 HO_357000 HO361 HO366 BK345 BK346 BK351 BK356 BK363 HB;have HO_346000 := n0_;have HO_347000 := n1_;have HO_352000 := n2_;have HO_357000 := n3_;have HO361 := n4_;have HO366 := n5_;have BK345 := n6_;have BK346 := n7_;have BK351 := n8_;have BK356 := n9_;have BK363 := n10_;have HB := n11_;have BK371 := n12_;have GW371 := n13_;have GE371 := n14_;have NB345_371 := n15_;have NB371_345 := n16_;have NB346_371 := n17_;have NB371_346 := n18_;have NB351_371 := n19_;have NB371_351 := n20_;have NB356_371 := n21_;have NB371_356 := n22_;have NB363_371 := n23_;have NB371_363 := n24_;clear n0_ n1_ n2_ n3_ n4_ n5_ n6_ n7_ n8_ n9_ n10_ n11_ n12_ n13_ n14_ n15_ n16_ n17_ n18_ n19_ n20_ n21_ n22_ n23_ n24_ hb hbox hg;obtain ⟨Ao237, co237, eo237⟩ := Kd.S_slice HO366.out;(first | subst eo237 | (injection eo237 with f1_ f2_ f3_; have f4_ := f1_.symm; have f5_ := f3_.symm; clear f1_ f2_ f3_; subst f4_; subst f5_));refine hK.out _ _ ((blk_cell BK345.out 0).trans rfl) (fun hHeld => ?_);clear hK K;refine norm_ (a' := ?_) ?_ ?_;rotate_left
        ·
         show Act.put _ (some 11) _ = _
         simp only [Act.put, List.setIfInBounds_toArray, List.set_cons_zero, List.set_cons_succ, i64_w, i32_w]
         rfl
        refine one_ (i := 2) (N := some 63) #[true, true, true, false, false, false, true, false, false] rfl rfl (one_of HT_.out (by kernel_rfl)) (by decide) (fun K hK => ?_);refine goes_ Try.func14 (by kernel_rfl) rfl #[.agg #[.slice Ao10 t339.length co10], .agg #[.slice Ao237 t364.length co237]] (by rfl) rfl rfl q4_11 ?_
        with_reducible refine (impl_RoughJoin.calls kj5 _ _ t339 _ _ t364 t367 t370 _ ?side1 ?side2 ?side3 ?side4 A62.out).mono ?_
        (case side1 => exact q4_18);(case side2 => exact (Kd.Q_reads' HO_346000.out).2.1);(case side3 => exact q4_43);(case side4 => exact (Kd.S_reads' HO366.out).2.1);rintro e w238 ⟨v368, rfl, ho0, hb⟩;refine ⟨_, rfl, ?_⟩;have n0_ := Aside0.mk (Kd.Q_elder' q4_7 (Kd.S_base ho0) hb);have n1_ := Aside0.mk (Kd.Q_elder' q4_8 (Kd.S_base ho0) hb);have n2_ := Aside0.mk (Kd.Q_elder' q4_9 (Kd.S_base ho0) hb);have n3_ := Aside0.mk (Kd.Q_elder' q4_10 (Kd.S_base ho0) hb);have n4_ := Aside0.mk (Kd.S_elder' q4_13 (Kd.S_base ho0) hb);have n5_ := Aside0.mk (Kd.S_elder' q4_15 (Kd.S_base ho0) hb);have n6_ := Aside0.mk (Kd.S_lower (Kd.S_new' (Kd.S_new' (Kd.S_new' (Kd.S_new' (Kd.S_new' (Kd.S_new' ho0 (Kd.Q_lt q4_7)) (Kd.Q_lt q4_8)) (Kd.Q_lt q4_9)) (Kd.Q_lt q4_10)) (Kd.S_lt q4_13)) (Kd.S_lt q4_15)) (below_size q4_0));have n7_ := Aside0.mk (blk_below (g := gb345) (o := .cells #[.slice Ao10 t339.length co10] 25 (0, 0)) q4_1 hb);have n8_ := Aside0.mk (blk_below (g := gb346) (o := .cells #[.slice Ao13 t342.length co13] 25 (0, 0)) q4_2 hb);have n9_ := Aside0.mk (blk_below (g := gb351) (o := .cells #[.slice Ao17 t347.length co17] 25 (0, 0)) q4_3 hb);have n10_ := Aside0.mk (blk_below (g := gb356) (o := .cells #[.slice Ao25 t352.length co25] 25 (0, 0)) q4_4 hb);have n11_ := Aside0.mk (blk_below (g := gb363) (o := .cells #[.slice Ao227 t359.length co227] 25 (0, 0)) q4_6 hb);have n12_ := Aside0.mk (blk_below (g := gb371) (o := .cells #[.slice none 0 0] 25 (0, 0)) q4_14 hb);have n13_ := Aside0.mk (below_step q4_0 hb);clear HO_346000 HO_347000 HO_352000 HO_357000 HO361 HO366 BK345 BK346 BK351 BK356 BK363 BK371 HB;have HO_346000 := n0_;have HO_347000 := n1_;have HO_352000 := n2_;have HO_357000 := n3_;have HO361 := n4_;have HO366 := n5_;have HO369 := n6_;have BK345 := n7_;have BK346 := n8_;have BK351 := n9_;have BK356 := n10_;have BK363 := n11_;have BK371 := n12_;have HB := n13_;clear n0_ n1_ n2_ n3_ n4_ n5_ n6_ n7_ n8_ n9_ n10_ n11_ n12_ n13_;(try clear hb);(try clear hb2);(try clear hk);(try clear hi);(try clear ho0);refine hK.out _ _ ((blk_cell BK345.out 0).trans rfl) (fun hHeld => ?_);clear hK K;refine norm_ (a' := ?_) ?_ ?_;rotate_left
        ·
         show Act.put _ (some 63) _ = _
         simp only [Act.put, List.setIfInBounds_toArray, List.set_cons_zero, List.set_cons_succ, i64_w, i32_w]
         rfl
        refine pure_ (i := 3) (N := some 60) (v := ?_) (a' := ?_) #[true, true, true, true, false, false, true, false, false] rfl rfl (any_of HT_.out (by kernel_rfl)) (fun _ _ _ h => h) (Or.inl ⟨by rfl, ?_⟩) ?_ ?_;rotate_left
        ·
         intro w'
         go_simp
         with_reducible rfl
        rotate_left
        ·
         simp only [Act.put, List.setIfInBounds_toArray, List.set_cons_zero, List.set_cons_succ, i64_w, i32_w]
         rfl
        refine pure_ (i := 4) (N := some 64) (v := ?_) (a' := ?_) #[true, true, true, true, true, false, true, false, false] rfl rfl (any_of HT_.out (by kernel_rfl)) (fun _ _ _ h => h) (Or.inl ⟨by rfl, ?_⟩) ?_ ?_;rotate_left
        ·
         intro w'
         go_simp
         with_reducible rfl
        rotate_left
        ·
         simp only [Act.put, List.setIfInBounds_toArray, List.set_cons_zero, List.set_cons_succ, i64_w, i32_w]
         rfl
        refine pure_ (i := 5) (N := some 65) (v := ?_) (a' := ?_) #[true, true, true, true, true, true, true, false, false] rfl rfl (any_of HT_.out (by kernel_rfl)) (fun _ _ _ h => h) (Or.inl ⟨by rfl, ?_⟩) ?_ ?_;rotate_left
        ·
         intro w'
         go_simp
         with_reducible rfl
        rotate_left
        ·
         simp only [Act.put, List.setIfInBounds_toArray, List.set_cons_zero, List.set_cons_succ, i64_w, i32_w]
         rfl
        exact norm_ q4_61 (hCont (.slice Ao237 t364.length co237, v368, gb371) _ ⟨hHeld, q4_40, q4_38, q4_39, q4_34, q4_35, q4_36, q4_37, q4_1, q4_2, q4_3, q4_4, q4_6, q4_14, GW371.out, GE371.out, NB345_371.out, NB371_345.out, NB346_371.out, NB371_346.out, NB351_371.out, NB371_351.out, NB356_371.out, NB371_356.out, NB363_371.out, NB371_363.out, q4_0⟩)
      ·
       skip
       refine box_step ?hg (N := 11) ?hd (cs := #[.slice none 0 0]) (t := 25) ?hr ?_; (case hd => rfl); (case hg => rfl); (case hr => exact q4_58);intro gb371 hg w235 hbox hb;have n0_ := Aside0.mk (Kd.Q_below q4_7 hb);have n1_ := Aside0.mk (Kd.Q_below q4_8 hb);have n2_ := Aside0.mk (Kd.Q_below q4_9 hb);have n3_ := Aside0.mk (Kd.Q_below q4_10 hb);have n4_ := Aside0.mk (Kd.S_below q4_13 hb);have n5_ := Aside0.mk (blk_below (g := gb345) (o := .cells #[.slice Ao10 t339.length co10] 25 (0, 0)) q4_1 hb);have n6_ := Aside0.mk (blk_below (g := gb346) (o := .cells #[.slice Ao13 t342.length co13] 25 (0, 0)) q4_2 hb);have n7_ := Aside0.mk (blk_below (g := gb351) (o := .cells #[.slice Ao17 t347.length co17] 25 (0, 0)) q4_3 hb);have n8_ := Aside0.mk (blk_below (g := gb356) (o := .cells #[.slice Ao25 t352.length co25] 25 (0, 0)) q4_4 hb);have n9_ := Aside0.mk (blk_below (g := gb363) (o := .cells #[.slice Ao227 t359.length co227] 25 (0, 0)) q4_6 hb);have n10_ := Aside0.mk (below_step q4_5 hb);have n11_ := Aside0.mk (hbox);have n12_ := Aside0.mk ((q4_66 : w.heap.size ≤ gb371));have n13_ := Aside0.mk ((q4_66 : w.heap.size ≤ gb371));have n14_ := Aside0.mk ((q4_27 : gb345 ≠ gb371));have n15_ := Aside0.mk ((q4_28 : gb371 ≠ gb345));have n16_ := Aside0.mk ((q4_29 : gb346 ≠ gb371));have n17_ := Aside0.mk ((q4_30 : gb371 ≠ gb346));have n18_ := Aside0.mk ((q4_41 : gb351 ≠ gb371));have n19_ := Aside0.mk ((q4_42 : gb371 ≠ gb351));have n20_ := Aside0.mk ((q4_47 : gb356 ≠ gb371));have n21_ := Aside0.mk ((q4_48 : gb371 ≠ gb356));have n22_ := Aside0.mk ((q4_59 : gb363 ≠ gb371));have n23_ := Aside0.mk ((q4_60 : gb371 ≠ gb363));clear HO_346000 HO_347000 HO_352000 HO_357000 HO361 BK345 BK346 BK351 BK356 BK363 HB;have HO_346000 := n0_;have HO_347000 := n1_;have HO_352000 := n2_;have HO_357000 := n3_;have HO361 := n4_;have BK345 := n5_;have BK346 := n6_;have BK351 := n7_;have BK356 := n8_;have BK363 := n9_;have HB := n10_;have BK371 := n11_;have GW371 := n12_;have GE371 := n13_;have NB345_371 := n14_;have NB371_345 := n15_;have NB346_371 := n16_;have NB371_346 := n17_;have NB351_371 := n18_;have NB371_351 := n19_;have NB356_371 := n20_;have NB371_356 := n21_;have NB363_371 := n22_;have NB371_363 := n23_;clear n0_ n1_ n2_ n3_ n4_ n5_ n6_ n7_ n8_ n9_ n10_ n11_ n12_ n13_ n14_ n15_ n16_ n17_ n18_ n19_ n20_ n21_ n22_ n23_ hb hbox hg;refine hK.out _ _ ((blk_cell BK345.out 0).trans rfl) (fun hHeld => ?_);clear hK K;refine norm_ (a' := ?_) ?_ ?_;rotate_left
       ·
        show Act.put _ (some 11) _ = _
        simp only [Act.put, List.setIfInBounds_toArray, List.set_cons_zero, List.set_cons_succ, i64_w, i32_w]
        rfl
       refine one_ (i := 1) (N := some 62) #[true, true, false, false, false, false, true, false, false] rfl rfl (one_of HT_.out (by kernel_rfl)) (by decide) (fun K hK => ?_);refine goes_ Try.func16 (by kernel_rfl) rfl #[] (by rfl) rfl rfl q4_11 ?_
       with_reducible refine (impl_RoughNew.calls kj5  t364 _ A61.out).mono ?_
       rintro e w236 ⟨v365, rfl, ho0, hb⟩;refine ⟨_, rfl, ?_⟩;have n0_ := Aside0.mk (Kd.Q_elder' q4_7 (Kd.S_base ho0) hb);have n1_ := Aside0.mk (Kd.Q_elder' q4_8 (Kd.S_base ho0) hb);have n2_ := Aside0.mk (Kd.Q_elder' q4_9 (Kd.S_base ho0) hb);have n3_ := Aside0.mk (Kd.Q_elder' q4_10 (Kd.S_base ho0) hb);have n4_ := Aside0.mk (Kd.S_elder' q4_13 (Kd.S_base ho0) hb);have n5_ := Aside0.mk (Kd.S_lower (Kd.S_new' (Kd.S_new' (Kd.S_new' (Kd.S_new' (Kd.S_new' ho0 (Kd.Q_lt q4_7)) (Kd.Q_lt q4_8)) (Kd.Q_lt q4_9)) (Kd.Q_lt q4_10)) (Kd.S_lt q4_13)) (below_size q4_0));have n6_ := Aside0.mk (blk_below (g := gb345) (o := .cells #[.slice Ao10 t339.length co10] 25 (0, 0)) q4_1 hb);have n7_ := Aside0.mk (blk_below (g := gb346) (o := .cells #[.slice Ao13 t342.length co13] 25 (0, 0)) q4_2 hb);have n8_ := Aside0.mk (blk_below (g := gb351) (o := .cells #[.slice Ao17 t347.length co17] 25 (0, 0)) q4_3 hb);have n9_ := Aside0.mk (blk_below (g := gb356) (o := .cells #[.slice Ao25 t352.length co25] 25 (0, 0)) q4_4 hb);have n10_ := Aside0.mk (blk_below (g := gb363) (o := .cells #[.slice Ao227 t359.length co227] 25 (0, 0)) q4_6 hb);have n11_ := Aside0.mk (blk_below (g := gb371) (o := .cells #[.slice none 0 0] 25 (0, 0)) q4_14 hb);have n12_ := Aside0.mk (below_step q4_0 hb);clear HO_346000 HO_347000 HO_352000 HO_357000 HO361 BK345 BK346 BK351 BK356 BK363 BK371 HB;have HO_346000 := n0_;have HO_347000 := n1_;have HO_352000 := n2_;have HO_357000 := n3_;have HO361 := n4_;have HO366 := n5_;have BK345 := n6_;have BK346 := n7_;have BK351 := n8_;have BK356 := n9_;have BK363 := n10_;have BK371 := n11_;have HB := n12_;clear n0_ n1_ n2_ n3_ n4_ n5_ n6_ n7_ n8_ n9_ n10_ n11_ n12_;(try clear hb);(try clear hb2);(try clear hk);(try clear hi);(try clear ho0);obtain ⟨Ao237, co237, eo237⟩ := Kd.S_slice HO366.out;(first | subst eo237 | (injection eo237 with f1_ f2_ f3_; have f4_ := f1_.symm; have f5_ := f3_.symm; clear f1_ f2_ f3_; subst f4_; subst f5_));refine hK.out _ _ ((blk_cell BK345.out 0).trans rfl) (fun hHeld => ?_);clear hK K;refine norm_ (a' := ?_) ?_ ?_;rotate_left
       ·
        show Act.put _ (some 62) _ = _
        simp only [Act.put, List.setIfInBounds_toArray, List.set_cons_zero, List.set_cons_succ, i64_w, i32_w]
        rfl
       refine one_ (i := 2) (N := some 63) #[true, true, true, false, false, false, true, false, false] rfl rfl (one_of HT_.out (by kernel_rfl)) (by decide) (fun K hK => ?_);refine goes_ Try.func14 (by kernel_rfl) rfl #[.agg #[.slice Ao10 t339.length co10], .agg #[.slice Ao237 t364.length co237]] (by rfl) rfl rfl q4_11 ?_
       with_reducible refine (impl_RoughJoin.calls kj5 _ _ t339 _ _ t364 t367 t370 _ ?side1 ?side2 ?side3 ?side4 A62.out).mono ?_
       (case side1 => exact q4_18);(case side2 => exact (Kd.Q_reads' HO_346000.out).2.1);(case side3 => exact q4_43);(case side4 => exact (Kd.S_reads' HO366.out).2.1);rintro e w238 ⟨v368, rfl, ho0, hb⟩;refine ⟨_, rfl, ?_⟩;have n0_ := Aside0.mk (Kd.Q_elder' q4_7 (Kd.S_base ho0) hb);have n1_ := Aside0.mk (Kd.Q_elder' q4_8 (Kd.S_base ho0) hb);have n2_ := Aside0.mk (Kd.Q_elder' q4_9 (Kd.S_base ho0) hb);have n3_ := Aside0.mk (Kd.Q_elder' q4_10 (Kd.S_base ho0) hb);have n4_ := Aside0.mk (Kd.S_elder' q4_13 (Kd.S_base ho0) hb);have n5_ := Aside0.mk (Kd.S_elder' q4_15 (Kd.S_base ho0) hb);have n6_ := Aside0.mk (Kd.S_lower (Kd.S_new' (Kd.S_new' (Kd.S_new' (Kd.S_new' (Kd.S_new' (Kd.S_new' ho0 (Kd.Q_lt q4_7)) (Kd.Q_lt q4_8)) (Kd.Q_lt q4_9)) (Kd.Q_lt q4_10)) (Kd.S_lt q4_13)) (Kd.S_lt q4_15)) (below_size q4_0));have n7_ := Aside0.mk (blk_below (g := gb345) (o := .cells #[.slice Ao10 t339.length co10] 25 (0, 0)) q4_1 hb);have n8_ := Aside0.mk (blk_below (g := gb346) (o := .cells #[.slice Ao13 t342.length co13] 25 (0, 0)) q4_2 hb);have n9_ := Aside0.mk (blk_below (g := gb351) (o := .cells #[.slice Ao17 t347.length co17] 25 (0, 0)) q4_3 hb);have n10_ := Aside0.mk (blk_below (g := gb356) (o := .cells #[.slice Ao25 t352.length co25] 25 (0, 0)) q4_4 hb);have n11_ := Aside0.mk (blk_below (g := gb363) (o := .cells #[.slice Ao227 t359.length co227] 25 (0, 0)) q4_6 hb);have n12_ := Aside0.mk (blk_below (g := gb371) (o := .cells #[.slice none 0 0] 25 (0, 0)) q4_14 hb);have n13_ := Aside0.mk (below_step q4_0 hb);clear HO_346000 HO_347000 HO_352000 HO_357000 HO361 HO366 BK345 BK346 BK351 BK356 BK363 BK371 HB;have HO_346000 := n0_;have HO_347000 := n1_;have HO_352000 := n2_;have HO_357000 := n3_;have HO361 := n4_;have HO366 := n5_;have HO369 := n6_;have BK345 := n7_;have BK346 := n8_;have BK351 := n9_;have BK356 := n10_;have BK363 := n11_;have BK371 := n12_;have HB := n13_;clear n0_ n1_ n2_ n3_ n4_ n5_ n6_ n7_ n8_ n9_ n10_ n11_ n12_ n13_;(try clear hb);(try clear hb2);(try clear hk);(try clear hi);(try clear ho0);refine hK.out _ _ ((blk_cell BK345.out 0).trans rfl) (fun hHeld => ?_);clear hK K;refine norm_ (a' := ?_) ?_ ?_;rotate_left
       ·
        show Act.put _ (some 63) _ = _
        simp only [Act.put, List.setIfInBounds_toArray, List.set_cons_zero, List.set_cons_succ, i64_w, i32_w]
        rfl
       refine pure_ (i := 3) (N := some 60) (v := ?_) (a' := ?_) #[true, true, true, true, false, false, true, false, false] rfl rfl (any_of HT_.out (by kernel_rfl)) (fun _ _ _ h => h) (Or.inl ⟨by rfl, ?_⟩) ?_ ?_;rotate_left
       ·
        intro w'
        go_simp
        with_reducible rfl
       rotate_left
       ·
        simp only [Act.put, List.setIfInBounds_toArray, List.set_cons_zero, List.set_cons_succ, i64_w, i32_w]
        rfl
       refine pure_ (i := 4) (N := some 64) (v := ?_) (a' := ?_) #[true, true, true, true, true, false, true, false, false] rfl rfl (any_of HT_.out (by kernel_rfl)) (fun _ _ _ h => h) (Or.inl ⟨by rfl, ?_⟩) ?_ ?_;rotate_left
       ·
        intro w'
        go_simp
        with_reducible rfl
       rotate_left
       ·
        simp only [Act.put, List.setIfInBounds_toArray, List.set_cons_zero, List.set_cons_succ, i64_w, i32_w]
        rfl
       refine pure_ (i := 5) (N := some 65) (v := ?_) (a' := ?_) #[true, true, true, true, true, true, true, false, false] rfl rfl (any_of HT_.out (by kernel_rfl)) (fun _ _ _ h => h) (Or.inl ⟨by rfl, ?_⟩) ?_ ?_;rotate_left
       ·
        intro w'
        go_simp
        with_reducible rfl
       rotate_left
       ·
        simp only [Act.put, List.setIfInBounds_toArray, List.set_cons_zero, List.set_cons_succ, i64_w, i32_w]
        rfl
       exact norm_ q4_61 (hCont (.slice Ao237 t364.length co237, v368, gb371) _ ⟨hHeld, q4_40, q4_38, q4_39, q4_34, q4_35, q4_36, q4_37, q4_1, q4_2, q4_3, q4_4, q4_6, q4_14, GW371.out, GE371.out, NB345_371.out, NB371_345.out, NB346_371.out, NB371_346.out, NB351_371.out, NB371_351.out, NB356_371.out, NB371_356.out, NB363_371.out, NB371_363.out, q4_0⟩)
     rintro ⟨v365, v368, gb371⟩ w239 ⟨hS_, h0_, h1_, h2_, h3_, h4_, h5_, h6_, h7_, h8_, h9_, h10_, h11_, h12_, h13_, h14_, h15_, h16_, h17_, h18_, h19_, h20_, h21_, h22_, h23_, h24_, h25_⟩
     have n0_ : Aside0 (Kd.S (Kd.slice 3 (Kd.int .i64)) 43 w239 w.heap.size (fun k_ => some k_ ≠ (v365 : Value).ownBlock ∧ some k_ ≠ (v368 : Value).ownBlock ∧ some k_ ≠ (.slice Ao10 t339.length co10 : Value).ownBlock ∧ some k_ ≠ (.slice Ao13 t342.length co13 : Value).ownBlock ∧ some k_ ≠ (.slice Ao17 t347.length co17 : Value).ownBlock ∧ some k_ ≠ (.slice Ao25 t352.length co25 : Value).ownBlock) (.slice Ao227 t359.length co227) t359) := ⟨h0_⟩
     have n1_ : Aside0 (Kd.S (Kd.slice 3 (Kd.int .i64)) 43 w239 w.heap.size (fun k_ => some k_ ≠ (.slice Ao227 t359.length co227 : Value).ownBlock ∧ some k_ ≠ (v368 : Value).ownBlock ∧ some k_ ≠ (.slice Ao10 t339.length co10 : Value).ownBlock ∧ some k_ ≠ (.slice Ao13 t342.length co13 : Value).ownBlock ∧ some k_ ≠ (.slice Ao17 t347.length co17 : Value).ownBlock ∧ some k_ ≠ (.slice Ao25 t352.length co25 : Value).ownBlock) v365 t364) := ⟨h1_⟩
     have n2_ : Aside0 (Kd.S (Kd.slice 3 (Kd.int .i64)) 43 w239 w.heap.size (fun k_ => some k_ ≠ (.slice Ao227 t359.length co227 : Value).ownBlock ∧ some k_ ≠ (v365 : Value).ownBlock ∧ some k_ ≠ (.slice Ao10 t339.length co10 : Value).ownBlock ∧ some k_ ≠ (.slice Ao13 t342.length co13 : Value).ownBlock ∧ some k_ ≠ (.slice Ao17 t347.length co17 : Value).ownBlock ∧ some k_ ≠ (.slice Ao25 t352.length co25 : Value).ownBlock) v368 t367) := ⟨h2_⟩
     have n3_ : Aside0 (Kd.Q (Kd.slice 3 (Kd.int .i64)) 43 w239 w.heap.size (fun k_ => some k_ ≠ (.slice Ao227 t359.length co227 : Value).ownBlock ∧ some k_ ≠ (v365 : Value).ownBlock ∧ some k_ ≠ (v368 : Value).ownBlock ∧ some k_ ≠ (.slice Ao13 t342.length co13 : Value).ownBlock ∧ some k_ ≠ (.slice Ao17 t347.length co17 : Value).ownBlock ∧ some k_ ≠ (.slice Ao25 t352.length co25 : Value).ownBlock) (.slice Ao10 t339.length co10) t339) := ⟨h3_⟩
     have n4_ : Aside0 (Kd.Q (Kd.slice 3 (Kd.int .i64)) 43 w239 w.heap.size (fun k_ => some k_ ≠ (.slice Ao227 t359.length co227 : Value).ownBlock ∧ some k_ ≠ (v365 : Value).ownBlock ∧ some k_ ≠ (v368 : Value).ownBlock ∧ some k_ ≠ (.slice Ao10 t339.length co10 : Value).ownBlock ∧ some k_ ≠ (.slice Ao17 t347.length co17 : Value).ownBlock ∧ some k_ ≠ (.slice Ao25 t352.length co25 : Value).ownBlock) (.slice Ao13 t342.length co13) t342) := ⟨h4_⟩
     have n5_ : Aside0 (Kd.Q (Kd.slice 3 (Kd.int .i64)) 43 w239 w.heap.size (fun k_ => some k_ ≠ (.slice Ao227 t359.length co227 : Value).ownBlock ∧ some k_ ≠ (v365 : Value).ownBlock ∧ some k_ ≠ (v368 : Value).ownBlock ∧ some k_ ≠ (.slice Ao10 t339.length co10 : Value).ownBlock ∧ some k_ ≠ (.slice Ao13 t342.length co13 : Value).ownBlock ∧ some k_ ≠ (.slice Ao25 t352.length co25 : Value).ownBlock) (.slice Ao17 t347.length co17) t347) := ⟨h5_⟩
     have n6_ : Aside0 (Kd.Q (Kd.slice 3 (Kd.int .i64)) 43 w239 w.heap.size (fun k_ => some k_ ≠ (.slice Ao227 t359.length co227 : Value).ownBlock ∧ some k_ ≠ (v365 : Value).ownBlock ∧ some k_ ≠ (v368 : Value).ownBlock ∧ some k_ ≠ (.slice Ao10 t339.length co10 : Value).ownBlock ∧ some k_ ≠ (.slice Ao13 t342.length co13 : Value).ownBlock ∧ some k_ ≠ (.slice Ao17 t347.length co17 : Value).ownBlock) (.slice Ao25 t352.length co25) t352) := ⟨h6_⟩
     have n7_ : Aside0 (w239.heap[gb345]? = some (.cells #[.slice Ao10 t339.length co10] 25 (0, 0))) := ⟨h7_⟩
     have n8_ : Aside0 (w239.heap[gb346]? = some (.cells #[.slice Ao13 t342.length co13] 25 (0, 0))) := ⟨h8_⟩
     have n9_ : Aside0 (w239.heap[gb351]? = some (.cells #[.slice Ao17 t347.length co17] 25 (0, 0))) := ⟨h9_⟩
     have n10_ : Aside0 (w239.heap[gb356]? = some (.cells #[.slice Ao25 t352.length co25] 25 (0, 0))) := ⟨h10_⟩
     have n11_ : Aside0 (w239.heap[gb363]? = some (.cells #[.slice Ao227 t359.length co227] 25 (0, 0))) := ⟨h11_⟩
     have n12_ : Aside0 (w239.heap[gb371]? = some (.cells #[.slice none 0 0] 25 (0, 0))) := ⟨h12_⟩
     have n13_ : Aside0 (w.heap.size ≤ gb371) := ⟨h13_⟩
     have n14_ : Aside0 (w.heap.size ≤ gb371) := ⟨h14_⟩
     have n15_ : Aside0 (gb345 ≠ gb371) := ⟨h15_⟩
     have n16_ : Aside0 (gb371 ≠ gb345) := ⟨h16_⟩
     have n17_ : Aside0 (gb346 ≠ gb371) := ⟨h17_⟩
     have n18_ : Aside0 (gb371 ≠ gb346) := ⟨h18_⟩
     have n19_ : Aside0 (gb351 ≠ gb371) := ⟨h19_⟩
     have n20_ : Aside0 (gb371 ≠ gb351) := ⟨h20_⟩
     have n21_ : Aside0 (gb356 ≠ gb371) := ⟨h21_⟩
     have n22_ : Aside0 (gb371 ≠ gb356) := ⟨h22_⟩
     have n23_ : Aside0 (gb363 ≠ gb371) := ⟨h23_⟩
     have n24_ : Aside0 (gb371 ≠ gb363) := ⟨h24_⟩
     have n25_ : Aside0 (Below w.heap.size w w239) := ⟨h25_⟩
     clear HO_346000 HO_347000 HO_352000 HO_357000 HO361 BK345 BK346 BK351 BK356 BK363 HB h0_ h1_ h2_ h3_ h4_ h5_ h6_ h7_ h8_ h9_ h10_ h11_ h12_ h13_ h14_ h15_ h16_ h17_ h18_ h19_ h20_ h21_ h22_ h23_ h24_ h25_;have HO361 := n0_;have HO366 := n1_;have HO369 := n2_;have HO_346000 := n3_;have HO_347000 := n4_;have HO_352000 := n5_;have HO_357000 := n6_;have BK345 := n7_;have BK346 := n8_;have BK351 := n9_;have BK356 := n10_;have BK363 := n11_;have BK371 := n12_;have GW371 := n13_;have GE371 := n14_;have NB345_371 := n15_;have NB371_345 := n16_;have NB346_371 := n17_;have NB371_346 := n18_;have NB351_371 := n19_;have NB371_351 := n20_;have NB356_371 := n21_;have NB371_356 := n22_;have NB363_371 := n23_;have NB371_363 := n24_;have HB := n25_;clear n0_ n1_ n2_ n3_ n4_ n5_ n6_ n7_ n8_ n9_ n10_ n11_ n12_ n13_ n14_ n15_ n16_ n17_ n18_ n19_ n20_ n21_ n22_ n23_ n24_ n25_
     have hHeld : w239.cell? ⟨gb345, 0, none⟩ = some (.slice Ao10 t339.length co10) := hS_
     obtain ⟨Ao240, co240, eo240⟩ := Kd.S_slice HO369.out;(first | subst eo240 | (injection eo240 with f1_ f2_ f3_; have f4_ := f1_.symm; have f5_ := f3_.symm; clear f1_ f2_ f3_; subst f4_; subst f5_));refine norm_ (a' := ?_) ?_ ?_;rotate_left
     ·
      simp only [putAll, Act.put, List.setIfInBounds_toArray, List.set_cons_zero, List.set_cons_succ]
      rfl
     refine one_ (i := 7) (N := none) #[true, true, true, true, true, true, true, true, false] rfl rfl (one_of HT_.out (by kernel_rfl)) (by decide) (fun K hK => ?_)
     have hs241 : w239.cell? ⟨gb371, 0, none⟩ = some (.slice none 0 0) := (blk_cell BK371.out 0).trans rfl
     have hfs241 := blk_frozen BK371.out 0;have hns241_0 := NB345_371.out;have hns241_1 := NB346_371.out;have hns241_2 := NB351_371.out;have hns241_3 := NB356_371.out;have hns241_4 := NB363_371.out;have hms241_0 := NB371_345.out;have hms241_1 := NB371_346.out;have hms241_2 := NB371_351.out;have hms241_3 := NB371_356.out;have hms241_4 := NB371_363.out;refine skip_ (w1 := ?_) (by rfl) rfl ?_ ?_;rotate_left
     ·
      go_simp
      rfl
     refine hK.out _ _ (((cell_far (p := ⟨gb371, _, none⟩) NB345_371.out _).trans (hHeld))) (fun hHeld => ?_);clear hK K;refine pure_ (i := 8) (N := some 12) (v := ?_) (a' := ?_) #[true, true, true, true, true, true, true, true, true] rfl rfl (any_of HT_.out (by kernel_rfl)) (fun _ _ _ h => h) (Or.inl ⟨by rfl, ?_⟩) ?_ ?_;rotate_left
     ·
      intro w'
      go_simp
      with_reducible rfl
     rotate_left
     ·
      simp only [Act.put, List.setIfInBounds_toArray, List.set_cons_zero, List.set_cons_succ, i64_w, i32_w]
      rfl
     refine done_ (done_of HT_.out (by kernel_rfl)) ?_;have H := HCz.out; clear HCz
     by_cases c64 : t372 = true
     ·
      subst c64
      have H1 : (if t362 = true then ((laws_lkRough.f kj5 t359 t352).bind fun t373 => (if t373 = true then (if t370 = true then ((laws_lkRough.f kj5 t367 t339).bind fun t374 => (if t374 = true then ((impl_RoughAll.f kj5 t352).bind fun t375 => ((impl_RoughAll.f kj5 t339).bind fun t376 => ((impl_RoughAll.f kj5 t342).bind fun t377 => (some (t375 == (wrap64 (t376 + t377))))))) else (some false))) else (some false)) else (some false))) else (some false)) = some r := by rw [if_pos rfl] at H; exact H
      clear H;have H := H1;clear H1
      by_cases c65 : t362 = true
      ·
       subst c65
       have H1 : ((laws_lkRough.f kj5 t359 t352).bind fun t373 => (if t373 = true then (if t370 = true then ((laws_lkRough.f kj5 t367 t339).bind fun t374 => (if t374 = true then ((impl_RoughAll.f kj5 t352).bind fun t375 => ((impl_RoughAll.f kj5 t339).bind fun t376 => ((impl_RoughAll.f kj5 t342).bind fun t377 => (some (t375 == (wrap64 (t376 + t377))))))) else (some false))) else (some false)) else (some false))) = some r := by rw [if_pos rfl] at H; exact H
       clear H;have H := H1;clear H1
       replace H := Option.bind_eq_some_iff.mp H
       obtain ⟨t373, A660, H⟩ := H
       replace H : (if t373 = true then (if t370 = true then ((laws_lkRough.f kj5 t367 t339).bind fun t374 => (if t374 = true then ((impl_RoughAll.f kj5 t352).bind fun t375 => ((impl_RoughAll.f kj5 t339).bind fun t376 => ((impl_RoughAll.f kj5 t342).bind fun t377 => (some (t375 == (wrap64 (t376 + t377))))))) else (some false))) else (some false)) else (some false)) = some r := H
       have A66 := Aside0.mk A660;clear A660
       by_cases c67 : t373 = true
       ·
        subst c67
        have H1 : (if t370 = true then ((laws_lkRough.f kj5 t367 t339).bind fun t374 => (if t374 = true then ((impl_RoughAll.f kj5 t352).bind fun t375 => ((impl_RoughAll.f kj5 t339).bind fun t376 => ((impl_RoughAll.f kj5 t342).bind fun t377 => (some (t375 == (wrap64 (t376 + t377))))))) else (some false))) else (some false)) = some r := by rw [if_pos rfl] at H; exact H
        clear H;have H := H1;clear H1
        by_cases c68 : t370 = true
        ·
         subst c68
         have H1 : ((laws_lkRough.f kj5 t367 t339).bind fun t374 => (if t374 = true then ((impl_RoughAll.f kj5 t352).bind fun t375 => ((impl_RoughAll.f kj5 t339).bind fun t376 => ((impl_RoughAll.f kj5 t342).bind fun t377 => (some (t375 == (wrap64 (t376 + t377))))))) else (some false))) = some r := by rw [if_pos rfl] at H; exact H
         clear H;have H := H1;clear H1
         replace H := Option.bind_eq_some_iff.mp H
         obtain ⟨t374, A690, H⟩ := H
         replace H : (if t374 = true then ((impl_RoughAll.f kj5 t352).bind fun t375 => ((impl_RoughAll.f kj5 t339).bind fun t376 => ((impl_RoughAll.f kj5 t342).bind fun t377 => (some (t375 == (wrap64 (t376 + t377))))))) else (some false)) = some r := H
         have A69 := Aside0.mk A690;clear A690
         by_cases c70 : t374 = true
         ·
          subst c70
          have H1 : ((impl_RoughAll.f kj5 t352).bind fun t375 => ((impl_RoughAll.f kj5 t339).bind fun t376 => ((impl_RoughAll.f kj5 t342).bind fun t377 => (some (t375 == (wrap64 (t376 + t377))))))) = some r := by rw [if_pos rfl] at H; exact H
          clear H;have H := H1;clear H1
          replace H := Option.bind_eq_some_iff.mp H
          obtain ⟨t375, A710, H⟩ := H
          replace H : ((impl_RoughAll.f kj5 t339).bind fun t376 => ((impl_RoughAll.f kj5 t342).bind fun t377 => (some (t375 == (wrap64 (t376 + t377)))))) = some r := H
          have A71 := Aside0.mk A710;clear A710
          replace H := Option.bind_eq_some_iff.mp H
          obtain ⟨t376, A720, H⟩ := H
          replace H : ((impl_RoughAll.f kj5 t342).bind fun t377 => (some (t375 == (wrap64 (t376 + t377))))) = some r := H
          have A72 := Aside0.mk A720;clear A720
          replace H := Option.bind_eq_some_iff.mp H
          obtain ⟨t377, A730, H⟩ := H
          replace H : (some (t375 == (wrap64 (t376 + t377)))) = some r := H
          have A73 := Aside0.mk A730;clear A730
          obtain rfl := Option.some.inj H
          try go_wp2
          have n0_ : Aside0 (Kd.Q (Kd.slice 3 (Kd.int .i64)) 43 (w239.setCell ⟨gb371, 0, none⟩ (.slice Ao240 t367.length co240)) w.heap.size (fun k_ => some k_ ≠ (.slice Ao13 t342.length co13 : Value).ownBlock ∧ some k_ ≠ (.slice Ao17 t347.length co17 : Value).ownBlock ∧ some k_ ≠ (.slice Ao25 t352.length co25 : Value).ownBlock ∧ some k_ ≠ (.slice Ao227 t359.length co227 : Value).ownBlock ∧ some k_ ≠ (v365 : Value).ownBlock ∧ some k_ ≠ (.slice Ao240 t367.length co240 : Value).ownBlock) (.slice Ao10 t339.length co10) t339) := ⟨by (with_reducible repeat (first | apply Kd.Q_alloc | apply Kd.Q_drewN | apply Kd.Q_drew)); exact Kd.Q_mono (Kd.Q_far (p := ⟨gb371, 0, none⟩) (Kd.Q_types HO_346000.out BK371.out (by decide)) (fun _ hk => hk.2) (.slice Ao240 t367.length co240)) (fun _ hk => ⟨hk.1.2.2.2.1, ⟨hk.1.2.2.2.2.1, ⟨hk.1.2.2.2.2.2, ⟨hk.1.1, ⟨hk.1.2.1, hk.1.2.2.1⟩⟩⟩⟩⟩)⟩
          have n1_ : Aside0 (Kd.Q (Kd.slice 3 (Kd.int .i64)) 43 (w239.setCell ⟨gb371, 0, none⟩ (.slice Ao240 t367.length co240)) w.heap.size (fun k_ => some k_ ≠ (.slice Ao10 t339.length co10 : Value).ownBlock ∧ some k_ ≠ (.slice Ao17 t347.length co17 : Value).ownBlock ∧ some k_ ≠ (.slice Ao25 t352.length co25 : Value).ownBlock ∧ some k_ ≠ (.slice Ao227 t359.length co227 : Value).ownBlock ∧ some k_ ≠ (v365 : Value).ownBlock ∧ some k_ ≠ (.slice Ao240 t367.length co240 : Value).ownBlock) (.slice Ao13 t342.length co13) t342) := ⟨by (with_reducible repeat (first | apply Kd.Q_alloc | apply Kd.Q_drewN | apply Kd.Q_drew)); exact Kd.Q_mono (Kd.Q_far (p := ⟨gb371, 0, none⟩) (Kd.Q_types HO_347000.out BK371.out (by decide)) (fun _ hk => hk.2) (.slice Ao240 t367.length co240)) (fun _ hk => ⟨hk.1.2.2.2.1, ⟨hk.1.2.2.2.2.1, ⟨hk.1.2.2.2.2.2, ⟨hk.1.1, ⟨hk.1.2.1, hk.1.2.2.1⟩⟩⟩⟩⟩)⟩
          have n2_ : Aside0 (Kd.Q (Kd.slice 3 (Kd.int .i64)) 43 (w239.setCell ⟨gb371, 0, none⟩ (.slice Ao240 t367.length co240)) w.heap.size (fun k_ => some k_ ≠ (.slice Ao10 t339.length co10 : Value).ownBlock ∧ some k_ ≠ (.slice Ao13 t342.length co13 : Value).ownBlock ∧ some k_ ≠ (.slice Ao25 t352.length co25 : Value).ownBlock ∧ some k_ ≠ (.slice Ao227 t359.length co227 : Value).ownBlock ∧ some k_ ≠ (v365 : Value).ownBlock ∧ some k_ ≠ (.slice Ao240 t367.length co240 : Value).ownBlock) (.slice Ao17 t347.length co17) t347) := ⟨by (with_reducible repeat (first | apply Kd.Q_alloc | apply Kd.Q_drewN | apply Kd.Q_drew)); exact Kd.Q_mono (Kd.Q_far (p := ⟨gb371, 0, none⟩) (Kd.Q_types HO_352000.out BK371.out (by decide)) (fun _ hk => hk.2) (.slice Ao240 t367.length co240)) (fun _ hk => ⟨hk.1.2.2.2.1, ⟨hk.1.2.2.2.2.1, ⟨hk.1.2.2.2.2.2, ⟨hk.1.1, ⟨hk.1.2.1, hk.1.2.2.1⟩⟩⟩⟩⟩)⟩
          have n3_ : Aside0 (Kd.Q (Kd.slice 3 (Kd.int .i64)) 43 (w239.setCell ⟨gb371, 0, none⟩ (.slice Ao240 t367.length co240)) w.heap.size (fun k_ => some k_ ≠ (.slice Ao10 t339.length co10 : Value).ownBlock ∧ some k_ ≠ (.slice Ao13 t342.length co13 : Value).ownBlock ∧ some k_ ≠ (.slice Ao17 t347.length co17 : Value).ownBlock ∧ some k_ ≠ (.slice Ao227 t359.length co227 : Value).ownBlock ∧ some k_ ≠ (v365 : Value).ownBlock ∧ some k_ ≠ (.slice Ao240 t367.length co240 : Value).ownBlock) (.slice Ao25 t352.length co25) t352) := ⟨by (with_reducible repeat (first | apply Kd.Q_alloc | apply Kd.Q_drewN | apply Kd.Q_drew)); exact Kd.Q_mono (Kd.Q_far (p := ⟨gb371, 0, none⟩) (Kd.Q_types HO_357000.out BK371.out (by decide)) (fun _ hk => hk.2) (.slice Ao240 t367.length co240)) (fun _ hk => ⟨hk.1.2.2.2.1, ⟨hk.1.2.2.2.2.1, ⟨hk.1.2.2.2.2.2, ⟨hk.1.1, ⟨hk.1.2.1, hk.1.2.2.1⟩⟩⟩⟩⟩)⟩
          have n4_ : Aside0 (Kd.S (Kd.slice 3 (Kd.int .i64)) 43 (w239.setCell ⟨gb371, 0, none⟩ (.slice Ao240 t367.length co240)) w.heap.size (fun k_ => some k_ ≠ (.slice Ao10 t339.length co10 : Value).ownBlock ∧ some k_ ≠ (.slice Ao13 t342.length co13 : Value).ownBlock ∧ some k_ ≠ (.slice Ao17 t347.length co17 : Value).ownBlock ∧ some k_ ≠ (.slice Ao25 t352.length co25 : Value).ownBlock ∧ some k_ ≠ (v365 : Value).ownBlock ∧ some k_ ≠ (.slice Ao240 t367.length co240 : Value).ownBlock) (.slice Ao227 t359.length co227) t359) := ⟨by (with_reducible repeat (first | apply Kd.S_alloc | apply Kd.S_drewN | apply Kd.S_drew)); exact Kd.S_mono (Kd.S_far (p := ⟨gb371, 0, none⟩) (Kd.S_types HO361.out BK371.out (by decide)) (fun _ hk => hk.2) (.slice Ao240 t367.length co240)) (fun _ hk => ⟨hk.1.2.2.1, ⟨hk.1.2.2.2.1, ⟨hk.1.2.2.2.2.1, ⟨hk.1.2.2.2.2.2, ⟨hk.1.1, hk.1.2.1⟩⟩⟩⟩⟩)⟩
          have n5_ : Aside0 (Kd.S (Kd.slice 3 (Kd.int .i64)) 43 (w239.setCell ⟨gb371, 0, none⟩ (.slice Ao240 t367.length co240)) w.heap.size (fun k_ => some k_ ≠ (.slice Ao10 t339.length co10 : Value).ownBlock ∧ some k_ ≠ (.slice Ao13 t342.length co13 : Value).ownBlock ∧ some k_ ≠ (.slice Ao17 t347.length co17 : Value).ownBlock ∧ some k_ ≠ (.slice Ao25 t352.length co25 : Value).ownBlock ∧ some k_ ≠ (.slice Ao227 t359.length co227 : Value).ownBlock ∧ some k_ ≠ (.slice Ao240 t367.length co240 : Value).ownBlock) v365 t364) := ⟨by (with_reducible repeat (first | apply Kd.S_alloc | apply Kd.S_drewN | apply Kd.S_drew)); exact Kd.S_mono (Kd.S_far (p := ⟨gb371, 0, none⟩) (Kd.S_types HO366.out BK371.out (by decide)) (fun _ hk => hk.2) (.slice Ao240 t367.length co240)) (fun _ hk => ⟨hk.1.2.2.1, ⟨hk.1.2.2.2.1, ⟨hk.1.2.2.2.2.1, ⟨hk.1.2.2.2.2.2, ⟨hk.1.1, hk.1.2.1⟩⟩⟩⟩⟩)⟩
          have n6_ : Aside0 (Kd.S (Kd.slice 3 (Kd.int .i64)) 43 (w239.setCell ⟨gb371, 0, none⟩ (.slice Ao240 t367.length co240)) w.heap.size (fun k_ => some k_ ≠ (.slice Ao10 t339.length co10 : Value).ownBlock ∧ some k_ ≠ (.slice Ao13 t342.length co13 : Value).ownBlock ∧ some k_ ≠ (.slice Ao17 t347.length co17 : Value).ownBlock ∧ some k_ ≠ (.slice Ao25 t352.length co25 : Value).ownBlock ∧ some k_ ≠ (.slice Ao227 t359.length co227 : Value).ownBlock ∧ some k_ ≠ (v365 : Value).ownBlock) (.slice Ao240 t367.length co240) t367) := ⟨by (with_reducible repeat (first | apply Kd.S_alloc | apply Kd.S_drewN | apply Kd.S_drew)); exact Kd.S_mono (Kd.S_far (p := ⟨gb371, 0, none⟩) (Kd.S_types HO369.out BK371.out (by decide)) (fun _ hk => hk.2) (.slice Ao240 t367.length co240)) (fun _ hk => ⟨hk.1.2.2.1, ⟨hk.1.2.2.2.1, ⟨hk.1.2.2.2.2.1, ⟨hk.1.2.2.2.2.2, ⟨hk.1.1, hk.1.2.1⟩⟩⟩⟩⟩)⟩
          have n7_ : Aside0 ((w239.setCell ⟨gb371, 0, none⟩ (.slice Ao240 t367.length co240)).heap[gb345]? = some (.cells #[.slice Ao10 t339.length co10] 25 (0, 0))) := ⟨by (with_reducible repeat (first | refine blk_drewN ?_ _ | refine blk_drew ?_ | refine blk_alloc ?_ _)); refine blk_far ?_ NB345_371.out _; (with_reducible repeat (first | refine blk_drewN ?_ _ | refine blk_drew ?_ | refine blk_alloc ?_ _)); exact BK345.out⟩
          have n8_ : Aside0 ((w239.setCell ⟨gb371, 0, none⟩ (.slice Ao240 t367.length co240)).heap[gb346]? = some (.cells #[.slice Ao13 t342.length co13] 25 (0, 0))) := ⟨by (with_reducible repeat (first | refine blk_drewN ?_ _ | refine blk_drew ?_ | refine blk_alloc ?_ _)); refine blk_far ?_ NB346_371.out _; (with_reducible repeat (first | refine blk_drewN ?_ _ | refine blk_drew ?_ | refine blk_alloc ?_ _)); exact BK346.out⟩
          have n9_ : Aside0 ((w239.setCell ⟨gb371, 0, none⟩ (.slice Ao240 t367.length co240)).heap[gb351]? = some (.cells #[.slice Ao17 t347.length co17] 25 (0, 0))) := ⟨by (with_reducible repeat (first | refine blk_drewN ?_ _ | refine blk_drew ?_ | refine blk_alloc ?_ _)); refine blk_far ?_ NB351_371.out _; (with_reducible repeat (first | refine blk_drewN ?_ _ | refine blk_drew ?_ | refine blk_alloc ?_ _)); exact BK351.out⟩
          have n10_ : Aside0 ((w239.setCell ⟨gb371, 0, none⟩ (.slice Ao240 t367.length co240)).heap[gb356]? = some (.cells #[.slice Ao25 t352.length co25] 25 (0, 0))) := ⟨by (with_reducible repeat (first | refine blk_drewN ?_ _ | refine blk_drew ?_ | refine blk_alloc ?_ _)); refine blk_far ?_ NB356_371.out _; (with_reducible repeat (first | refine blk_drewN ?_ _ | refine blk_drew ?_ | refine blk_alloc ?_ _)); exact BK356.out⟩
          have n11_ : Aside0 ((w239.setCell ⟨gb371, 0, none⟩ (.slice Ao240 t367.length co240)).heap[gb363]? = some (.cells #[.slice Ao227 t359.length co227] 25 (0, 0))) := ⟨by (with_reducible repeat (first | refine blk_drewN ?_ _ | refine blk_drew ?_ | refine blk_alloc ?_ _)); refine blk_far ?_ NB363_371.out _; (with_reducible repeat (first | refine blk_drewN ?_ _ | refine blk_drew ?_ | refine blk_alloc ?_ _)); exact BK363.out⟩
          have n12_ : Aside0 ((w239.setCell ⟨gb371, 0, none⟩ (.slice Ao240 t367.length co240)).heap[gb371]? = some (.cells #[.slice Ao240 t367.length co240] 25 (0, 0))) := ⟨by (with_reducible repeat (first | refine blk_drewN ?_ _ | refine blk_drew ?_ | refine blk_alloc ?_ _)); refine blk_put (cs := #[.slice none 0 0]) ?_ 0 _ rfl; (with_reducible repeat (first | refine blk_drewN ?_ _ | refine blk_drew ?_ | refine blk_alloc ?_ _)); exact BK371.out⟩
          have n13_ : Aside0 (Below w.heap.size w (w239.setCell ⟨gb371, 0, none⟩ (.slice Ao240 t367.length co240))) := ⟨q4_0⟩
          (try clear HO_346000);(try clear HO_347000);(try clear HO_352000);(try clear HO_357000);(try clear HO361);(try clear HO366);(try clear HO369);(try clear BK345);(try clear BK346);(try clear BK351);(try clear BK356);(try clear BK363);(try clear BK371);(try clear HB)
          generalize (w239.setCell ⟨gb371, 0, none⟩ (.slice Ao240 t367.length co240)) = w98 at n0_ n1_ n2_ n3_ n4_ n5_ n6_ n7_ n8_ n9_ n10_ n11_ n12_ n13_ ⊢
          have HO_346000 := n0_;have HO_347000 := n1_;have HO_352000 := n2_;have HO_357000 := n3_;have HO361 := n4_;have HO366 := n5_;have HO369 := n6_;have BK345 := n7_;have BK346 := n8_;have BK351 := n9_;have BK356 := n10_;have BK363 := n11_;have BK371 := n12_;have HB := n13_;clear n0_ n1_ n2_ n3_ n4_ n5_ n6_ n7_ n8_ n9_ n10_ n11_ n12_ n13_;have n0_ := Aside0.mk (Kd.Q_drew HO_346000.out);have n1_ := Aside0.mk (Kd.Q_drew HO_347000.out);have n2_ := Aside0.mk (Kd.Q_drew HO_352000.out);have n3_ := Aside0.mk (Kd.Q_drew HO_357000.out);have n4_ := Aside0.mk (Kd.S_drew HO361.out);have n5_ := Aside0.mk (Kd.S_drew HO366.out);have n6_ := Aside0.mk (Kd.S_drew HO369.out);have n7_ := Aside0.mk (blk_drew BK345.out);have n8_ := Aside0.mk (blk_drew BK346.out);have n9_ := Aside0.mk (blk_drew BK351.out);have n10_ := Aside0.mk (blk_drew BK356.out);have n11_ := Aside0.mk (blk_drew BK363.out);have n12_ := Aside0.mk (blk_drew BK371.out);have n13_ := Aside0.mk (below_drew1 HB.out);clear HO_346000 HO_347000 HO_352000 HO_357000 HO361 HO366 HO369 BK345 BK346 BK351 BK356 BK363 BK371 HB;have HO_346000 := n0_;have HO_347000 := n1_;have HO_352000 := n2_;have HO_357000 := n3_;have HO361 := n4_;have HO366 := n5_;have HO369 := n6_;have BK345 := n7_;have BK346 := n8_;have BK351 := n9_;have BK356 := n10_;have BK363 := n11_;have BK371 := n12_;have HB := n13_;clear n0_ n1_ n2_ n3_ n4_ n5_ n6_ n7_ n8_ n9_ n10_ n11_ n12_ n13_;refine start_ (n := 29) (S := fun w' => w'.cell? ⟨gb356, 0, none⟩ = some (.slice Ao25 t352.length co25) ∧ w'.cell? ⟨gb363, 0, none⟩ = some (.slice Ao227 t359.length co227) ∧ w'.cell? ⟨gb371, 0, none⟩ = some (.slice Ao240 t367.length co240) ∧ w'.cell? ⟨gb345, 0, none⟩ = some (.slice Ao10 t339.length co10) ∧ w'.cell? ⟨gb346, 0, none⟩ = some (.slice Ao13 t342.length co13)) (ds := []) laws_FnRoughJoin.D0 (by kernel_rfl) rfl rfl ⟨(blk_cell BK356.out 0).trans rfl, (blk_cell BK363.out 0).trans rfl, (blk_cell BK371.out 0).trans rfl, (blk_cell BK345.out 0).trans rfl, (blk_cell BK346.out 0).trans rfl⟩ (fun hHeld => ?_); refine with_tabW laws_FnRoughJoin.tab10 laws_FnRoughJoin.bits10 (fun HT_ HW_ => ?_)
          generalize w98.drew = w99 at HO_346000 HO_347000 HO_352000 HO_357000 HO361 HO366 HO369 BK345 BK346 BK351 BK356 BK363 BK371 HB hHeld ⊢
          refine take_ (i := 0) (N := some 66) (v := ?_) (a' := ?_) laws_FnRoughJoin.D1 rfl rfl (take_ofW HT_.out HW_.out (by kernel_rfl)) (fun _ _ _ h => h) (Or.inl ⟨by rfl, ?_⟩) hHeld ?_ ?_;rotate_left
          ·
           rintro w' ⟨s0, s1, s2, s3, s4⟩
           go_simp
           with_reducible rfl
          rotate_left
          ·
           simp only [Act.put, List.setIfInBounds_toArray, List.set_cons_zero, List.set_cons_succ, i64_w, i32_w]
           rfl
          refine one_ (i := 1) (N := some 67) laws_FnRoughJoin.D2 rfl rfl (one_of HT_.out (by kernel_rfl)) (by decide) (fun K hK => ?_);refine goes_ Try.func17 (by kernel_rfl) rfl #[.agg #[.slice Ao25 t352.length co25]] (by rfl) rfl rfl q4_11 ?_
          with_reducible refine (impl_RoughOk.calls kj5 _ _ t352 true _ ?side1 ?side2 A63.out).mono ?_
          (case side1 => exact q4_16);(case side2 => exact (Kd.Q_reads' HO_357000.out).2.1);rintro e w100 ⟨rfl, hb⟩;refine ⟨_, rfl, ?_⟩;have n0_ := Aside0.mk (Kd.Q_below q4_7 hb);have n1_ := Aside0.mk (Kd.Q_below q4_8 hb);have n2_ := Aside0.mk (Kd.Q_below q4_9 hb);have n3_ := Aside0.mk (Kd.Q_below q4_10 hb);have n4_ := Aside0.mk (Kd.S_below q4_13 hb);have n5_ := Aside0.mk (Kd.S_below q4_15 hb);have n6_ := Aside0.mk (Kd.S_below q4_17 hb);have n7_ := Aside0.mk (blk_below (g := gb345) (o := .cells #[.slice Ao10 t339.length co10] 25 (0, 0)) q4_1 hb);have n8_ := Aside0.mk (blk_below (g := gb346) (o := .cells #[.slice Ao13 t342.length co13] 25 (0, 0)) q4_2 hb);have n9_ := Aside0.mk (blk_below (g := gb351) (o := .cells #[.slice Ao17 t347.length co17] 25 (0, 0)) q4_3 hb);have n10_ := Aside0.mk (blk_below (g := gb356) (o := .cells #[.slice Ao25 t352.length co25] 25 (0, 0)) q4_4 hb);have n11_ := Aside0.mk (blk_below (g := gb363) (o := .cells #[.slice Ao227 t359.length co227] 25 (0, 0)) q4_6 hb);have n12_ := Aside0.mk (blk_below (g := gb371) (o := .cells #[.slice Ao240 t367.length co240] 25 (0, 0)) q4_14 hb);have n13_ := Aside0.mk (below_step q4_0 hb);clear HO_346000 HO_347000 HO_352000 HO_357000 HO361 HO366 HO369 BK345 BK346 BK351 BK356 BK363 BK371 HB;have HO_346000 := n0_;have HO_347000 := n1_;have HO_352000 := n2_;have HO_357000 := n3_;have HO361 := n4_;have HO366 := n5_;have HO369 := n6_;have BK345 := n7_;have BK346 := n8_;have BK351 := n9_;have BK356 := n10_;have BK363 := n11_;have BK371 := n12_;have HB := n13_;clear n0_ n1_ n2_ n3_ n4_ n5_ n6_ n7_ n8_ n9_ n10_ n11_ n12_ n13_;(try clear hb);(try clear hb2);(try clear hk);(try clear hi);refine hK.out _ _ ⟨(blk_cell BK356.out 0).trans rfl, (blk_cell BK363.out 0).trans rfl, (blk_cell BK371.out 0).trans rfl, (blk_cell BK345.out 0).trans rfl, (blk_cell BK346.out 0).trans rfl⟩ (fun hHeld => ?_);clear hK K;refine norm_ (a' := ?_) ?_ ?_;rotate_left
          ·
           show Act.put _ (some 67) _ = _
           simp only [Act.put, List.setIfInBounds_toArray, List.set_cons_zero, List.set_cons_succ, i64_w, i32_w]
           rfl
          refine pure_ (i := 2) (N := some 68) (v := ?_) (a' := ?_) laws_FnRoughJoin.D3 rfl rfl (any_of HT_.out (by kernel_rfl)) (fun _ _ _ h => h) (Or.inl ⟨by rfl, ?_⟩) ?_ ?_;rotate_left
          ·
           intro w'
           go_simp
           with_reducible rfl
          rotate_left
          ·
           simp only [Act.put, List.setIfInBounds_toArray, List.set_cons_zero, List.set_cons_succ, i64_w, i32_w]
           rfl
          refine pure_ (i := 3) (N := some 69) (v := ?_) (a' := ?_) laws_FnRoughJoin.D4 rfl rfl (any_of HT_.out (by kernel_rfl)) (fun _ _ _ h => h) (Or.inl ⟨by rfl, ?_⟩) ?_ ?_;rotate_left
          ·
           intro w'
           go_simp
           with_reducible rfl
          rotate_left
          ·
           simp only [Act.put, List.setIfInBounds_toArray, List.set_cons_zero, List.set_cons_succ, i64_w, i32_w]
           rfl
          refine pure_ (i := 4) (N := some 70) (v := ?_) (a' := ?_) laws_FnRoughJoin.D5 rfl rfl (any_of HT_.out (by kernel_rfl)) (fun _ _ _ h => h) (Or.inl ⟨by rfl, ?_⟩) ?_ ?_;rotate_left
          ·
           intro w'
           go_simp
           with_reducible rfl
          rotate_left
          ·
           simp only [Act.put, List.setIfInBounds_toArray, List.set_cons_zero, List.set_cons_succ, i64_w, i32_w]
           rfl
          refine pure_ (i := 5) (N := some 71) (v := ?_) (a' := ?_) laws_FnRoughJoin.D6 rfl rfl (any_of HT_.out (by kernel_rfl)) (fun _ _ _ h => h) (Or.inl ⟨by rfl, ?_⟩) ?_ ?_;rotate_left
          ·
           intro w'
           go_simp
           with_reducible rfl
          rotate_left
          ·
           simp only [Act.put, List.setIfInBounds_toArray, List.set_cons_zero, List.set_cons_succ, i64_w, i32_w]
           rfl
          refine take_ (i := 6) (N := some 72) (v := ?_) (a' := ?_) laws_FnRoughJoin.D7 rfl rfl (take_ofW HT_.out HW_.out (by kernel_rfl)) (fun _ _ _ h => h) (Or.inl ⟨by rfl, ?_⟩) hHeld ?_ ?_;rotate_left
          ·
           rintro w' ⟨s0, s1, s2, s3, s4⟩
           go_simp
           with_reducible rfl
          rotate_left
          ·
           simp only [Act.put, List.setIfInBounds_toArray, List.set_cons_zero, List.set_cons_succ, i64_w, i32_w]
           rfl
          refine take_ (i := 7) (N := some 73) (v := ?_) (a' := ?_) laws_FnRoughJoin.D8 rfl rfl (take_ofW HT_.out HW_.out (by kernel_rfl)) (fun _ _ _ h => h) (Or.inl ⟨by rfl, ?_⟩) hHeld ?_ ?_;rotate_left
          ·
           rintro w' ⟨s0, s1, s2, s3, s4⟩
           go_simp
           with_reducible rfl
          rotate_left
          ·
           simp only [Act.put, List.setIfInBounds_toArray, List.set_cons_zero, List.set_cons_succ, i64_w, i32_w]
           rfl
          refine one_ (i := 8) (N := some 74) laws_FnRoughJoin.D9 rfl rfl (one_of HT_.out (by kernel_rfl)) (by decide) (fun K hK => ?_);refine goes_ Try.func15 (by kernel_rfl) rfl #[.agg #[.slice Ao227 t359.length co227], .agg #[.slice Ao25 t352.length co25]] (by rfl) rfl rfl q4_11 ?_
          with_reducible refine (laws_lkRough.calls kj5 _ _ t359 _ _ t352 true _ ?side1 ?side2 ?side3 ?side4 A66.out).mono ?_
          (case side1 => exact q4_33);(case side2 => exact (Kd.S_reads' HO361.out).2.1);(case side3 => exact q4_16);(case side4 => exact (Kd.Q_reads' HO_357000.out).2.1);rintro e w101 ⟨rfl, hb⟩;refine ⟨_, rfl, ?_⟩;have n0_ := Aside0.mk (Kd.Q_below q4_7 hb);have n1_ := Aside0.mk (Kd.Q_below q4_8 hb);have n2_ := Aside0.mk (Kd.Q_below q4_9 hb);have n3_ := Aside0.mk (Kd.Q_below q4_10 hb);have n4_ := Aside0.mk (Kd.S_below q4_13 hb);have n5_ := Aside0.mk (Kd.S_below q4_15 hb);have n6_ := Aside0.mk (Kd.S_below q4_17 hb);have n7_ := Aside0.mk (blk_below (g := gb345) (o := .cells #[.slice Ao10 t339.length co10] 25 (0, 0)) q4_1 hb);have n8_ := Aside0.mk (blk_below (g := gb346) (o := .cells #[.slice Ao13 t342.length co13] 25 (0, 0)) q4_2 hb);have n9_ := Aside0.mk (blk_below (g := gb351) (o := .cells #[.slice Ao17 t347.length co17] 25 (0, 0)) q4_3 hb);have n10_ := Aside0.mk (blk_below (g := gb356) (o := .cells #[.slice Ao25 t352.length co25] 25 (0, 0)) q4_4 hb);have n11_ := Aside0.mk (blk_below (g := gb363) (o := .cells #[.slice Ao227 t359.length co227] 25 (0, 0)) q4_6 hb);have n12_ := Aside0.mk (blk_below (g := gb371) (o := .cells #[.slice Ao240 t367.length co240] 25 (0, 0)) q4_14 hb);have n13_ := Aside0.mk (below_step q4_0 hb);clear HO_346000 HO_347000 HO_352000 HO_357000 HO361 HO366 HO369 BK345 BK346 BK351 BK356 BK363 BK371 HB;have HO_346000 := n0_;have HO_347000 := n1_;have HO_352000 := n2_;have HO_357000 := n3_;have HO361 := n4_;have HO366 := n5_;have HO369 := n6_;have BK345 := n7_;have BK346 := n8_;have BK351 := n9_;have BK356 := n10_;have BK363 := n11_;have BK371 := n12_;have HB := n13_;clear n0_ n1_ n2_ n3_ n4_ n5_ n6_ n7_ n8_ n9_ n10_ n11_ n12_ n13_;(try clear hb);(try clear hb2);(try clear hk);(try clear hi);refine hK.out _ _ ⟨(blk_cell BK356.out 0).trans rfl, (blk_cell BK363.out 0).trans rfl, (blk_cell BK371.out 0).trans rfl, (blk_cell BK345.out 0).trans rfl, (blk_cell BK346.out 0).trans rfl⟩ (fun hHeld => ?_);clear hK K;refine norm_ (a' := ?_) ?_ ?_;rotate_left
          ·
           show Act.put _ (some 74) _ = _
           simp only [Act.put, List.setIfInBounds_toArray, List.set_cons_zero, List.set_cons_succ, i64_w, i32_w]
           rfl
          refine pure_ (i := 9) (N := some 75) (v := ?_) (a' := ?_) laws_FnRoughJoin.D10 rfl rfl (any_of HT_.out (by kernel_rfl)) (fun _ _ _ h => h) (Or.inl ⟨by rfl, ?_⟩) ?_ ?_;rotate_left
          ·
           intro w'
           go_simp
           with_reducible rfl
          rotate_left
          ·
           simp only [Act.put, List.setIfInBounds_toArray, List.set_cons_zero, List.set_cons_succ, i64_w, i32_w]
           rfl
          refine pure_ (i := 10) (N := some 76) (v := ?_) (a' := ?_) laws_FnRoughJoin.D11 rfl rfl (any_of HT_.out (by kernel_rfl)) (fun _ _ _ h => h) (Or.inl ⟨by rfl, ?_⟩) ?_ ?_;rotate_left
          ·
           intro w'
           go_simp
           with_reducible rfl
          rotate_left
          ·
           simp only [Act.put, List.setIfInBounds_toArray, List.set_cons_zero, List.set_cons_succ, i64_w, i32_w]
           rfl
          refine pure_ (i := 11) (N := some 77) (v := ?_) (a' := ?_) laws_FnRoughJoin.D12 rfl rfl (any_of HT_.out (by kernel_rfl)) (fun _ _ _ h => h) (Or.inl ⟨by rfl, ?_⟩) ?_ ?_;rotate_left
          ·
           intro w'
           go_simp
           with_reducible rfl
          rotate_left
          ·
           simp only [Act.put, List.setIfInBounds_toArray, List.set_cons_zero, List.set_cons_succ, i64_w, i32_w]
           rfl
          refine pure_ (i := 12) (N := some 78) (v := ?_) (a' := ?_) laws_FnRoughJoin.D13 rfl rfl (any_of HT_.out (by kernel_rfl)) (fun _ _ _ h => h) (Or.inl ⟨by rfl, ?_⟩) ?_ ?_;rotate_left
          ·
           intro w'
           go_simp
           with_reducible rfl
          rotate_left
          ·
           simp only [Act.put, List.setIfInBounds_toArray, List.set_cons_zero, List.set_cons_succ, i64_w, i32_w]
           rfl
          refine pure_ (i := 13) (N := some 79) (v := ?_) (a' := ?_) laws_FnRoughJoin.D14 rfl rfl (any_of HT_.out (by kernel_rfl)) (fun _ _ _ h => h) (Or.inl ⟨by rfl, ?_⟩) ?_ ?_;rotate_left
          ·
           intro w'
           go_simp
           with_reducible rfl
          rotate_left
          ·
           simp only [Act.put, List.setIfInBounds_toArray, List.set_cons_zero, List.set_cons_succ, i64_w, i32_w]
           rfl
          refine take_ (i := 14) (N := some 80) (v := ?_) (a' := ?_) laws_FnRoughJoin.D15 rfl rfl (take_ofW HT_.out HW_.out (by kernel_rfl)) (fun _ _ _ h => h) (Or.inl ⟨by rfl, ?_⟩) hHeld ?_ ?_;rotate_left
          ·
           rintro w' ⟨s0, s1, s2, s3, s4⟩
           go_simp
           with_reducible rfl
          rotate_left
          ·
           simp only [Act.put, List.setIfInBounds_toArray, List.set_cons_zero, List.set_cons_succ, i64_w, i32_w]
           rfl
          refine take_ (i := 15) (N := some 81) (v := ?_) (a' := ?_) laws_FnRoughJoin.D16 rfl rfl (take_ofW HT_.out HW_.out (by kernel_rfl)) (fun _ _ _ h => h) (Or.inl ⟨by rfl, ?_⟩) hHeld ?_ ?_;rotate_left
          ·
           rintro w' ⟨s0, s1, s2, s3, s4⟩
           go_simp
           with_reducible rfl
          rotate_left
          ·
           simp only [Act.put, List.setIfInBounds_toArray, List.set_cons_zero, List.set_cons_succ, i64_w, i32_w]
           rfl
          refine one_ (i := 16) (N := some 82) laws_FnRoughJoin.D17 rfl rfl (one_of HT_.out (by kernel_rfl)) (by decide) (fun K hK => ?_);refine goes_ Try.func15 (by kernel_rfl) rfl #[.agg #[.slice Ao240 t367.length co240], .agg #[.slice Ao10 t339.length co10]] (by rfl) rfl rfl q4_11 ?_
          with_reducible refine (laws_lkRough.calls kj5 _ _ t367 _ _ t339 true _ ?side1 ?side2 ?side3 ?side4 A69.out).mono ?_
          (case side1 => exact q4_63);(case side2 => exact (Kd.S_reads' HO369.out).2.1);(case side3 => exact q4_18);(case side4 => exact (Kd.Q_reads' HO_346000.out).2.1);rintro e w102 ⟨rfl, hb⟩;refine ⟨_, rfl, ?_⟩;have n0_ := Aside0.mk (Kd.Q_below q4_7 hb);have n1_ := Aside0.mk (Kd.Q_below q4_8 hb);have n2_ := Aside0.mk (Kd.Q_below q4_9 hb);have n3_ := Aside0.mk (Kd.Q_below q4_10 hb);have n4_ := Aside0.mk (Kd.S_below q4_13 hb);have n5_ := Aside0.mk (Kd.S_below q4_15 hb);have n6_ := Aside0.mk (Kd.S_below q4_17 hb);have n7_ := Aside0.mk (blk_below (g := gb345) (o := .cells #[.slice Ao10 t339.length co10] 25 (0, 0)) q4_1 hb);have n8_ := Aside0.mk (blk_below (g := gb346) (o := .cells #[.slice Ao13 t342.length co13] 25 (0, 0)) q4_2 hb);have n9_ := Aside0.mk (blk_below (g := gb351) (o := .cells #[.slice Ao17 t347.length co17] 25 (0, 0)) q4_3 hb);have n10_ := Aside0.mk (blk_below (g := gb356) (o := .cells #[.slice Ao25 t352.length co25] 25 (0, 0)) q4_4 hb);have n11_ := Aside0.mk (blk_below (g := gb363) (o := .cells #[.slice Ao227 t359.length co227] 25 (0, 0)) q4_6 hb);have n12_ := Aside0.mk (blk_below (g := gb371) (o := .cells #[.slice Ao240 t367.length co240] 25 (0, 0)) q4_14 hb);have n13_ := Aside0.mk (below_step q4_0 hb);clear HO_346000 HO_347000 HO_352000 HO_357000 HO361 HO366 HO369 BK345 BK346 BK351 BK356 BK363 BK371 HB;have HO_346000 := n0_;have HO_347000 := n1_;have HO_352000 := n2_;have HO_357000 := n3_;have HO361 := n4_;have HO366 := n5_;have HO369 := n6_;have BK345 := n7_;have BK346 := n8_;have BK351 := n9_;have BK356 := n10_;have BK363 := n11_;have BK371 := n12_;have HB := n13_;clear n0_ n1_ n2_ n3_ n4_ n5_ n6_ n7_ n8_ n9_ n10_ n11_ n12_ n13_;(try clear hb);(try clear hb2);(try clear hk);(try clear hi);refine hK.out _ _ ⟨(blk_cell BK356.out 0).trans rfl, (blk_cell BK363.out 0).trans rfl, (blk_cell BK371.out 0).trans rfl, (blk_cell BK345.out 0).trans rfl, (blk_cell BK346.out 0).trans rfl⟩ (fun hHeld => ?_);clear hK K;refine norm_ (a' := ?_) ?_ ?_;rotate_left
          ·
           show Act.put _ (some 82) _ = _
           simp only [Act.put, List.setIfInBounds_toArray, List.set_cons_zero, List.set_cons_succ, i64_w, i32_w]
           rfl
          refine pure_ (i := 17) (N := some 83) (v := ?_) (a' := ?_) laws_FnRoughJoin.D18 rfl rfl (any_of HT_.out (by kernel_rfl)) (fun _ _ _ h => h) (Or.inl ⟨by rfl, ?_⟩) ?_ ?_;rotate_left
          ·
           intro w'
           go_simp
           with_reducible rfl
          rotate_left
          ·
           simp only [Act.put, List.setIfInBounds_toArray, List.set_cons_zero, List.set_cons_succ, i64_w, i32_w]
           rfl
          refine pure_ (i := 18) (N := some 84) (v := ?_) (a' := ?_) laws_FnRoughJoin.D19 rfl rfl (any_of HT_.out (by kernel_rfl)) (fun _ _ _ h => h) (Or.inl ⟨by rfl, ?_⟩) ?_ ?_;rotate_left
          ·
           intro w'
           go_simp
           with_reducible rfl
          rotate_left
          ·
           simp only [Act.put, List.setIfInBounds_toArray, List.set_cons_zero, List.set_cons_succ, i64_w, i32_w]
           rfl
          refine take_ (i := 19) (N := some 85) (v := ?_) (a' := ?_) laws_FnRoughJoin.D20 rfl rfl (take_ofW HT_.out HW_.out (by kernel_rfl)) (fun _ _ _ h => h) (Or.inl ⟨by rfl, ?_⟩) hHeld ?_ ?_;rotate_left
          ·
           rintro w' ⟨s0, s1, s2, s3, s4⟩
           go_simp
           with_reducible rfl
          rotate_left
          ·
           simp only [Act.put, List.setIfInBounds_toArray, List.set_cons_zero, List.set_cons_succ, i64_w, i32_w]
           rfl
          refine take_ (i := 21) (N := some 87) (v := ?_) (a' := ?_) laws_FnRoughJoin.D21 rfl rfl (take_ofW HT_.out HW_.out (by kernel_rfl)) (fun _ _ _ h => h) (Or.inl ⟨by rfl, ?_⟩) hHeld ?_ ?_;rotate_left
          ·
           rintro w' ⟨s0, s1, s2, s3, s4⟩
           go_simp
           with_reducible rfl
          rotate_left
          ·
           simp only [Act.put, List.setIfInBounds_toArray, List.set_cons_zero, List.set_cons_succ, i64_w, i32_w]
           rfl
          refine take_ (i := 23) (N := some 89) (v := ?_) (a' := ?_) laws_FnRoughJoin.D22 rfl rfl (take_ofW HT_.out HW_.out (by kernel_rfl)) (fun _ _ _ h => h) (Or.inl ⟨by rfl, ?_⟩) hHeld ?_ ?_;rotate_left
          ·
           rintro w' ⟨s0, s1, s2, s3, s4⟩
           go_simp
           with_reducible rfl
          rotate_left
          ·
           simp only [Act.put, List.setIfInBounds_toArray, List.set_cons_zero, List.set_cons_succ, i64_w, i32_w]
           rfl
          refine one_ (i := 20) (N := some 86) laws_FnRoughJoin.D23 rfl rfl (one_of HT_.out (by kernel_rfl)) (by decide) (fun K hK => ?_);refine goes_ Try.func18 (by kernel_rfl) rfl #[.agg #[.slice Ao25 t352.length co25]] (by rfl) rfl rfl q4_11 ?_
          with_reducible refine (impl_RoughAll.calls kj5 _ _ t352 t375 _ ?side1 ?side2 A71.out).mono ?_
          (case side1 => exact q4_16);(case side2 => exact (Kd.Q_reads' HO_357000.out).2.1);rintro e w103 ⟨rfl, hb⟩;refine ⟨_, rfl, ?_⟩;have n0_ := Aside0.mk (Kd.Q_below q4_7 hb);have n1_ := Aside0.mk (Kd.Q_below q4_8 hb);have n2_ := Aside0.mk (Kd.Q_below q4_9 hb);have n3_ := Aside0.mk (Kd.Q_below q4_10 hb);have n4_ := Aside0.mk (Kd.S_below q4_13 hb);have n5_ := Aside0.mk (Kd.S_below q4_15 hb);have n6_ := Aside0.mk (Kd.S_below q4_17 hb);have n7_ := Aside0.mk (blk_below (g := gb345) (o := .cells #[.slice Ao10 t339.length co10] 25 (0, 0)) q4_1 hb);have n8_ := Aside0.mk (blk_below (g := gb346) (o := .cells #[.slice Ao13 t342.length co13] 25 (0, 0)) q4_2 hb);have n9_ := Aside0.mk (blk_below (g := gb351) (o := .cells #[.slice Ao17 t347.length co17] 25 (0, 0)) q4_3 hb);have n10_ := Aside0.mk (blk_below (g := gb356) (o := .cells #[.slice Ao25 t352.length co25] 25 (0, 0)) q4_4 hb);have n11_ := Aside0.mk (blk_below (g := gb363) (o := .cells #[.slice Ao227 t359.length co227] 25 (0, 0)) q4_6 hb);have n12_ := Aside0.mk (blk_below (g := gb371) (o := .cells #[.slice Ao240 t367.length co240] 25 (0, 0)) q4_14 hb);have n13_ := Aside0.mk (below_step q4_0 hb);clear HO_346000 HO_347000 HO_352000 HO_357000 HO361 HO366 HO369 BK345 BK346 BK351 BK356 BK363 BK371 HB;have HO_346000 := n0_;have HO_347000 := n1_;have HO_352000 := n2_;have HO_357000 := n3_;have HO361 := n4_;have HO366 := n5_;have HO369 := n6_;have BK345 := n7_;have BK346 := n8_;have BK351 := n9_;have BK356 := n10_;have BK363 := n11_;have BK371 := n12_;have HB := n13_;clear n0_ n1_ n2_ n3_ n4_ n5_ n6_ n7_ n8_ n9_ n10_ n11_ n12_ n13_;(try clear hb);(try clear hb2);(try clear hk);(try clear hi);refine hK.out _ _ ⟨(blk_cell BK356.out 0).trans rfl, (blk_cell BK363.out 0).trans rfl, (blk_cell BK371.out 0).trans rfl, (blk_cell BK345.out 0).trans rfl, (blk_cell BK346.out 0).trans rfl⟩ (fun hHeld => ?_);clear hK K;refine norm_ (a' := ?_) ?_ ?_;rotate_left
          ·
           show Act.put _ (some 86) _ = _
           simp only [Act.put, List.setIfInBounds_toArray, List.set_cons_zero, List.set_cons_succ, i64_w, i32_w]
           rfl
          refine one_ (i := 22) (N := some 88) laws_FnRoughJoin.D24 rfl rfl (one_of HT_.out (by kernel_rfl)) (by decide) (fun K hK => ?_);refine goes_ Try.func18 (by kernel_rfl) rfl #[.agg #[.slice Ao10 t339.length co10]] (by rfl) rfl rfl q4_11 ?_
          with_reducible refine (impl_RoughAll.calls kj5 _ _ t339 t376 _ ?side1 ?side2 A72.out).mono ?_
          (case side1 => exact q4_18);(case side2 => exact (Kd.Q_reads' HO_346000.out).2.1);rintro e w104 ⟨rfl, hb⟩;refine ⟨_, rfl, ?_⟩;have n0_ := Aside0.mk (Kd.Q_below q4_7 hb);have n1_ := Aside0.mk (Kd.Q_below q4_8 hb);have n2_ := Aside0.mk (Kd.Q_below q4_9 hb);have n3_ := Aside0.mk (Kd.Q_below q4_10 hb);have n4_ := Aside0.mk (Kd.S_below q4_13 hb);have n5_ := Aside0.mk (Kd.S_below q4_15 hb);have n6_ := Aside0.mk (Kd.S_below q4_17 hb);have n7_ := Aside0.mk (blk_below (g := gb345) (o := .cells #[.slice Ao10 t339.length co10] 25 (0, 0)) q4_1 hb);have n8_ := Aside0.mk (blk_below (g := gb346) (o := .cells #[.slice Ao13 t342.length co13] 25 (0, 0)) q4_2 hb);have n9_ := Aside0.mk (blk_below (g := gb351) (o := .cells #[.slice Ao17 t347.length co17] 25 (0, 0)) q4_3 hb);have n10_ := Aside0.mk (blk_below (g := gb356) (o := .cells #[.slice Ao25 t352.length co25] 25 (0, 0)) q4_4 hb);have n11_ := Aside0.mk (blk_below (g := gb363) (o := .cells #[.slice Ao227 t359.length co227] 25 (0, 0)) q4_6 hb);have n12_ := Aside0.mk (blk_below (g := gb371) (o := .cells #[.slice Ao240 t367.length co240] 25 (0, 0)) q4_14 hb);have n13_ := Aside0.mk (below_step q4_0 hb);clear HO_346000 HO_347000 HO_352000 HO_357000 HO361 HO366 HO369 BK345 BK346 BK351 BK356 BK363 BK371 HB;have HO_346000 := n0_;have HO_347000 := n1_;have HO_352000 := n2_;have HO_357000 := n3_;have HO361 := n4_;have HO366 := n5_;have HO369 := n6_;have BK345 := n7_;have BK346 := n8_;have BK351 := n9_;have BK356 := n10_;have BK363 := n11_;have BK371 := n12_;have HB := n13_;clear n0_ n1_ n2_ n3_ n4_ n5_ n6_ n7_ n8_ n9_ n10_ n11_ n12_ n13_;(try clear hb);(try clear hb2);(try clear hk);(try clear hi);refine hK.out _ _ ⟨(blk_cell BK356.out 0).trans rfl, (blk_cell BK363.out 0).trans rfl, (blk_cell BK371.out 0).trans rfl, (blk_cell BK345.out 0).trans rfl, (blk_cell BK346.out 0).trans rfl⟩ (fun hHeld => ?_);clear hK K;refine norm_ (a' := ?_) ?_ ?_;rotate_left
          ·
           show Act.put _ (some 88) _ = _
           simp only [Act.put, List.setIfInBounds_toArray, List.set_cons_zero, List.set_cons_succ, i64_w, i32_w]
           rfl
          refine one_ (i := 24) (N := some 90) laws_FnRoughJoin.D25 rfl rfl (one_of HT_.out (by kernel_rfl)) (by decide) (fun K hK => ?_);refine goes_ Try.func18 (by kernel_rfl) rfl #[.agg #[.slice Ao13 t342.length co13]] (by rfl) rfl rfl q4_11 ?_
          with_reducible refine (impl_RoughAll.calls kj5 _ _ t342 t377 _ ?side1 ?side2 A73.out).mono ?_
          (case side1 => exact q4_62);(case side2 => exact (Kd.Q_reads' HO_347000.out).2.1);rintro e w105 ⟨rfl, hb⟩;refine ⟨_, rfl, ?_⟩;have n0_ := Aside0.mk (Kd.Q_below q4_7 hb);have n1_ := Aside0.mk (Kd.Q_below q4_8 hb);have n2_ := Aside0.mk (Kd.Q_below q4_9 hb);have n3_ := Aside0.mk (Kd.Q_below q4_10 hb);have n4_ := Aside0.mk (Kd.S_below q4_13 hb);have n5_ := Aside0.mk (Kd.S_below q4_15 hb);have n6_ := Aside0.mk (Kd.S_below q4_17 hb);have n7_ := Aside0.mk (blk_below (g := gb345) (o := .cells #[.slice Ao10 t339.length co10] 25 (0, 0)) q4_1 hb);have n8_ := Aside0.mk (blk_below (g := gb346) (o := .cells #[.slice Ao13 t342.length co13] 25 (0, 0)) q4_2 hb);have n9_ := Aside0.mk (blk_below (g := gb351) (o := .cells #[.slice Ao17 t347.length co17] 25 (0, 0)) q4_3 hb);have n10_ := Aside0.mk (blk_below (g := gb356) (o := .cells #[.slice Ao25 t352.length co25] 25 (0, 0)) q4_4 hb);have n11_ := Aside0.mk (blk_below (g := gb363) (o := .cells #[.slice Ao227 t359.length co227] 25 (0, 0)) q4_6 hb);have n12_ := Aside0.mk (blk_below (g := gb371) (o := .cells #[.slice Ao240 t367.length co240] 25 (0, 0)) q4_14 hb);have n13_ := Aside0.mk (below_step q4_0 hb);clear HO_346000 HO_347000 HO_352000 HO_357000 HO361 HO366 HO369 BK345 BK346 BK351 BK356 BK363 BK371 HB;have HO_346000 := n0_;have HO_347000 := n1_;have HO_352000 := n2_;have HO_357000 := n3_;have HO361 := n4_;have HO366 := n5_;have HO369 := n6_;have BK345 := n7_;have BK346 := n8_;have BK351 := n9_;have BK356 := n10_;have BK363 := n11_;have BK371 := n12_;have HB := n13_;clear n0_ n1_ n2_ n3_ n4_ n5_ n6_ n7_ n8_ n9_ n10_ n11_ n12_ n13_;(try clear hb);(try clear hb2);(try clear hk);(try clear hi);refine hK.out _ _ ⟨(blk_cell BK356.out 0).trans rfl, (blk_cell BK363.out 0).trans rfl, (blk_cell BK371.out 0).trans rfl, (blk_cell BK345.out 0).trans rfl, (blk_cell BK346.out 0).trans rfl⟩ (fun hHeld => ?_);clear hK K;refine norm_ (a' := ?_) ?_ ?_;rotate_left
          ·
           show Act.put _ (some 90) _ = _
           simp only [Act.put, List.setIfInBounds_toArray, List.set_cons_zero, List.set_cons_succ, i64_w, i32_w]
           rfl
          refine pure_ (i := 25) (N := some 91) (v := ?_) (a' := ?_) laws_FnRoughJoin.D26 rfl rfl (any_of HT_.out (by kernel_rfl)) (fun _ _ _ h => h) (Or.inl ⟨by rfl, ?_⟩) ?_ ?_;rotate_left
          ·
           intro w'
           go_simp
           with_reducible rfl
          rotate_left
          ·
           simp only [Act.put, List.setIfInBounds_toArray, List.set_cons_zero, List.set_cons_succ, i64_w, i32_w]
           rfl
          refine pure_ (i := 26) (N := some 92) (v := ?_) (a' := ?_) laws_FnRoughJoin.D27 rfl rfl (any_of HT_.out (by kernel_rfl)) (fun _ _ _ h => h) (Or.inl ⟨by rfl, ?_⟩) ?_ ?_;rotate_left
          ·
           intro w'
           go_simp
           with_reducible rfl
          rotate_left
          ·
           simp only [Act.put, List.setIfInBounds_toArray, List.set_cons_zero, List.set_cons_succ, i64_w, i32_w]
           rfl
          refine pure_ (i := 27) (N := some 93) (v := ?_) (a' := ?_) laws_FnRoughJoin.D28 rfl rfl (any_of HT_.out (by kernel_rfl)) (fun _ _ _ h => h) (Or.inl ⟨by rfl, ?_⟩) ?_ ?_;rotate_left
          ·
           intro w'
           go_simp
           with_reducible rfl
          rotate_left
          ·
           simp only [Act.put, List.setIfInBounds_toArray, List.set_cons_zero, List.set_cons_succ, i64_w, i32_w]
           rfl
          refine pure_ (i := 28) (N := some 2) (v := ?_) (a' := ?_) laws_FnRoughJoin.D29 rfl rfl (any_of HT_.out (by kernel_rfl)) (fun _ _ _ h => h) (Or.inl ⟨by rfl, ?_⟩) ?_ ?_;rotate_left
          ·
           intro w'
           go_simp
           with_reducible rfl
          rotate_left
          ·
           simp only [Act.put, List.setIfInBounds_toArray, List.set_cons_zero, List.set_cons_succ, i64_w, i32_w]
           rfl
          refine done_ (done_of HT_.out (by kernel_rfl)) ?_
          try go_wp2
          go_ret
          exact ⟨q4_26, q4_0⟩
         ·
          replace c70 := Bool.eq_false_iff.mpr c70
          subst c70
          have H1 : (some false) = some r := by rw [if_neg (show ¬ (false = true) by decide)] at H; exact H
          clear H;have H := H1;clear H1
          obtain rfl := Option.some.inj H
          try go_wp2
          have n0_ : Aside0 (Kd.Q (Kd.slice 3 (Kd.int .i64)) 43 (w239.setCell ⟨gb371, 0, none⟩ (.slice Ao240 t367.length co240)) w.heap.size (fun k_ => some k_ ≠ (.slice Ao13 t342.length co13 : Value).ownBlock ∧ some k_ ≠ (.slice Ao17 t347.length co17 : Value).ownBlock ∧ some k_ ≠ (.slice Ao25 t352.length co25 : Value).ownBlock ∧ some k_ ≠ (.slice Ao227 t359.length co227 : Value).ownBlock ∧ some k_ ≠ (v365 : Value).ownBlock ∧ some k_ ≠ (.slice Ao240 t367.length co240 : Value).ownBlock) (.slice Ao10 t339.length co10) t339) := ⟨by (with_reducible repeat (first | apply Kd.Q_alloc | apply Kd.Q_drewN | apply Kd.Q_drew)); exact Kd.Q_mono (Kd.Q_far (p := ⟨gb371, 0, none⟩) (Kd.Q_types HO_346000.out BK371.out (by decide)) (fun _ hk => hk.2) (.slice Ao240 t367.length co240)) (fun _ hk => ⟨hk.1.2.2.2.1, ⟨hk.1.2.2.2.2.1, ⟨hk.1.2.2.2.2.2, ⟨hk.1.1, ⟨hk.1.2.1, hk.1.2.2.1⟩⟩⟩⟩⟩)⟩
          have n1_ : Aside0 (Kd.Q (Kd.slice 3 (Kd.int .i64)) 43 (w239.setCell ⟨gb371, 0, none⟩ (.slice Ao240 t367.length co240)) w.heap.size (fun k_ => some k_ ≠ (.slice Ao10 t339.length co10 : Value).ownBlock ∧ some k_ ≠ (.slice Ao17 t347.length co17 : Value).ownBlock ∧ some k_ ≠ (.slice Ao25 t352.length co25 : Value).ownBlock ∧ some k_ ≠ (.slice Ao227 t359.length co227 : Value).ownBlock ∧ some k_ ≠ (v365 : Value).ownBlock ∧ some k_ ≠ (.slice Ao240 t367.length co240 : Value).ownBlock) (.slice Ao13 t342.length co13) t342) := ⟨by (with_reducible repeat (first | apply Kd.Q_alloc | apply Kd.Q_drewN | apply Kd.Q_drew)); exact Kd.Q_mono (Kd.Q_far (p := ⟨gb371, 0, none⟩) (Kd.Q_types HO_347000.out BK371.out (by decide)) (fun _ hk => hk.2) (.slice Ao240 t367.length co240)) (fun _ hk => ⟨hk.1.2.2.2.1, ⟨hk.1.2.2.2.2.1, ⟨hk.1.2.2.2.2.2, ⟨hk.1.1, ⟨hk.1.2.1, hk.1.2.2.1⟩⟩⟩⟩⟩)⟩
          have n2_ : Aside0 (Kd.Q (Kd.slice 3 (Kd.int .i64)) 43 (w239.setCell ⟨gb371, 0, none⟩ (.slice Ao240 t367.length co240)) w.heap.size (fun k_ => some k_ ≠ (.slice Ao10 t339.length co10 : Value).ownBlock ∧ some k_ ≠ (.slice Ao13 t342.length co13 : Value).ownBlock ∧ some k_ ≠ (.slice Ao25 t352.length co25 : Value).ownBlock ∧ some k_ ≠ (.slice Ao227 t359.length co227 : Value).ownBlock ∧ some k_ ≠ (v365 : Value).ownBlock ∧ some k_ ≠ (.slice Ao240 t367.length co240 : Value).ownBlock) (.slice Ao17 t347.length co17) t347) := ⟨by (with_reducible repeat (first | apply Kd.Q_alloc | apply Kd.Q_drewN | apply Kd.Q_drew)); exact Kd.Q_mono (Kd.Q_far (p := ⟨gb371, 0, none⟩) (Kd.Q_types HO_352000.out BK371.out (by decide)) (fun _ hk => hk.2) (.slice Ao240 t367.length co240)) (fun _ hk => ⟨hk.1.2.2.2.1, ⟨hk.1.2.2.2.2.1, ⟨hk.1.2.2.2.2.2, ⟨hk.1.1, ⟨hk.1.2.1, hk.1.2.2.1⟩⟩⟩⟩⟩)⟩
          have n3_ : Aside0 (Kd.Q (Kd.slice 3 (Kd.int .i64)) 43 (w239.setCell ⟨gb371, 0, none⟩ (.slice Ao240 t367.length co240)) w.heap.size (fun k_ => some k_ ≠ (.slice Ao10 t339.length co10 : Value).ownBlock ∧ some k_ ≠ (.slice Ao13 t342.length co13 : Value).ownBlock ∧ some k_ ≠ (.slice Ao17 t347.length co17 : Value).ownBlock ∧ some k_ ≠ (.slice Ao227 t359.length co227 : Value).ownBlock ∧ some k_ ≠ (v365 : Value).ownBlock ∧ some k_ ≠ (.slice Ao240 t367.length co240 : Value).ownBlock) (.slice Ao25 t352.length co25) t352) := ⟨by (with_reducible repeat (first | apply Kd.Q_alloc | apply Kd.Q_drewN | apply Kd.Q_drew)); exact Kd.Q_mono (Kd.Q_far (p := ⟨gb371, 0, none⟩) (Kd.Q_types HO_357000.out BK371.out (by decide)) (fun _ hk => hk.2) (.slice Ao240 t367.length co240)) (fun _ hk => ⟨hk.1.2.2.2.1, ⟨hk.1.2.2.2.2.1, ⟨hk.1.2.2.2.2.2, ⟨hk.1.1, ⟨hk.1.2.1, hk.1.2.2.1⟩⟩⟩⟩⟩)⟩
          have n4_ : Aside0 (Kd.S (Kd.slice 3 (Kd.int .i64)) 43 (w239.setCell ⟨gb371, 0, none⟩ (.slice Ao240 t367.length co240)) w.heap.size (fun k_ => some k_ ≠ (.slice Ao10 t339.length co10 : Value).ownBlock ∧ some k_ ≠ (.slice Ao13 t342.length co13 : Value).ownBlock ∧ some k_ ≠ (.slice Ao17 t347.length co17 : Value).ownBlock ∧ some k_ ≠ (.slice Ao25 t352.length co25 : Value).ownBlock ∧ some k_ ≠ (v365 : Value).ownBlock ∧ some k_ ≠ (.slice Ao240 t367.length co240 : Value).ownBlock) (.slice Ao227 t359.length co227) t359) := ⟨by (with_reducible repeat (first | apply Kd.S_alloc | apply Kd.S_drewN | apply Kd.S_drew)); exact Kd.S_mono (Kd.S_far (p := ⟨gb371, 0, none⟩) (Kd.S_types HO361.out BK371.out (by decide)) (fun _ hk => hk.2) (.slice Ao240 t367.length co240)) (fun _ hk => ⟨hk.1.2.2.1, ⟨hk.1.2.2.2.1, ⟨hk.1.2.2.2.2.1, ⟨hk.1.2.2.2.2.2, ⟨hk.1.1, hk.1.2.1⟩⟩⟩⟩⟩)⟩
          have n5_ : Aside0 (Kd.S (Kd.slice 3 (Kd.int .i64)) 43 (w239.setCell ⟨gb371, 0, none⟩ (.slice Ao240 t367.length co240)) w.heap.size (fun k_ => some k_ ≠ (.slice Ao10 t339.length co10 : Value).ownBlock ∧ some k_ ≠ (.slice Ao13 t342.length co13 : Value).ownBlock ∧ some k_ ≠ (.slice Ao17 t347.length co17 : Value).ownBlock ∧ some k_ ≠ (.slice Ao25 t352.length co25 : Value).ownBlock ∧ some k_ ≠ (.slice Ao227 t359.length co227 : Value).ownBlock ∧ some k_ ≠ (.slice Ao240 t367.length co240 : Value).ownBlock) v365 t364) := ⟨by (with_reducible repeat (first | apply Kd.S_alloc | apply Kd.S_drewN | apply Kd.S_drew)); exact Kd.S_mono (Kd.S_far (p := ⟨gb371, 0, none⟩) (Kd.S_types HO366.out BK371.out (by decide)) (fun _ hk => hk.2) (.slice Ao240 t367.length co240)) (fun _ hk => ⟨hk.1.2.2.1, ⟨hk.1.2.2.2.1, ⟨hk.1.2.2.2.2.1, ⟨hk.1.2.2.2.2.2, ⟨hk.1.1, hk.1.2.1⟩⟩⟩⟩⟩)⟩
          have n6_ : Aside0 (Kd.S (Kd.slice 3 (Kd.int .i64)) 43 (w239.setCell ⟨gb371, 0, none⟩ (.slice Ao240 t367.length co240)) w.heap.size (fun k_ => some k_ ≠ (.slice Ao10 t339.length co10 : Value).ownBlock ∧ some k_ ≠ (.slice Ao13 t342.length co13 : Value).ownBlock ∧ some k_ ≠ (.slice Ao17 t347.length co17 : Value).ownBlock ∧ some k_ ≠ (.slice Ao25 t352.length co25 : Value).ownBlock ∧ some k_ ≠ (.slice Ao227 t359.length co227 : Value).ownBlock ∧ some k_ ≠ (v365 : Value).ownBlock) (.slice Ao240 t367.length co240) t367) := ⟨by (with_reducible repeat (first | apply Kd.S_alloc | apply Kd.S_drewN | apply Kd.S_drew)); exact Kd.S_mono (Kd.S_far (p := ⟨gb371, 0, none⟩) (Kd.S_types HO369.out BK371.out (by decide)) (fun _ hk => hk.2) (.slice Ao240 t367.length co240)) (fun _ hk => ⟨hk.1.2.2.1, ⟨hk.1.2.2.2.1, ⟨hk.1.2.2.2.2.1, ⟨hk.1.2.2.2.2.2, ⟨hk.1.1, hk.1.2.1⟩⟩⟩⟩⟩)⟩
          have n7_ : Aside0 ((w239.setCell ⟨gb371, 0, none⟩ (.slice Ao240 t367.length co240)).heap[gb345]? = some (.cells #[.slice Ao10 t339.length co10] 25 (0, 0))) := ⟨by (with_reducible repeat (first | refine blk_drewN ?_ _ | refine blk_drew ?_ | refine blk_alloc ?_ _)); refine blk_far ?_ NB345_371.out _; (with_reducible repeat (first | refine blk_drewN ?_ _ | refine blk_drew ?_ | refine blk_alloc ?_ _)); exact BK345.out⟩
          have n8_ : Aside0 ((w239.setCell ⟨gb371, 0, none⟩ (.slice Ao240 t367.length co240)).heap[gb346]? = some (.cells #[.slice Ao13 t342.length co13] 25 (0, 0))) := ⟨by (with_reducible repeat (first | refine blk_drewN ?_ _ | refine blk_drew ?_ | refine blk_alloc ?_ _)); refine blk_far ?_ NB346_371.out _; (with_reducible repeat (first | refine blk_drewN ?_ _ | refine blk_drew ?_ | refine blk_alloc ?_ _)); exact BK346.out⟩
          have n9_ : Aside0 ((w239.setCell ⟨gb371, 0, none⟩ (.slice Ao240 t367.length co240)).heap[gb351]? = some (.cells #[.slice Ao17 t347.length co17] 25 (0, 0))) := ⟨by (with_reducible repeat (first | refine blk_drewN ?_ _ | refine blk_drew ?_ | refine blk_alloc ?_ _)); refine blk_far ?_ NB351_371.out _; (with_reducible repeat (first | refine blk_drewN ?_ _ | refine blk_drew ?_ | refine blk_alloc ?_ _)); exact BK351.out⟩
          have n10_ : Aside0 ((w239.setCell ⟨gb371, 0, none⟩ (.slice Ao240 t367.length co240)).heap[gb356]? = some (.cells #[.slice Ao25 t352.length co25] 25 (0, 0))) := ⟨by (with_reducible repeat (first | refine blk_drewN ?_ _ | refine blk_drew ?_ | refine blk_alloc ?_ _)); refine blk_far ?_ NB356_371.out _; (with_reducible repeat (first | refine blk_drewN ?_ _ | refine blk_drew ?_ | refine blk_alloc ?_ _)); exact BK356.out⟩
          have n11_ : Aside0 ((w239.setCell ⟨gb371, 0, none⟩ (.slice Ao240 t367.length co240)).heap[gb363]? = some (.cells #[.slice Ao227 t359.length co227] 25 (0, 0))) := ⟨by (with_reducible repeat (first | refine blk_drewN ?_ _ | refine blk_drew ?_ | refine blk_alloc ?_ _)); refine blk_far ?_ NB363_371.out _; (with_reducible repeat (first | refine blk_drewN ?_ _ | refine blk_drew ?_ | refine blk_alloc ?_ _)); exact BK363.out⟩
          have n12_ : Aside0 ((w239.setCell ⟨gb371, 0, none⟩ (.slice Ao240 t367.length co240)).heap[gb371]? = some (.cells #[.slice Ao240 t367.length co240] 25 (0, 0))) := ⟨by (with_reducible repeat (first | refine blk_drewN ?_ _ | refine blk_drew ?_ | refine blk_alloc ?_ _)); refine blk_put (cs := #[.slice none 0 0]) ?_ 0 _ rfl; (with_reducible repeat (first | refine blk_drewN ?_ _ | refine blk_drew ?_ | refine blk_alloc ?_ _)); exact BK371.out⟩
          have n13_ : Aside0 (Below w.heap.size w (w239.setCell ⟨gb371, 0, none⟩ (.slice Ao240 t367.length co240))) := ⟨q4_0⟩
          (try clear HO_346000);(try clear HO_347000);(try clear HO_352000);(try clear HO_357000);(try clear HO361);(try clear HO366);(try clear HO369);(try clear BK345);(try clear BK346);(try clear BK351);(try clear BK356);(try clear BK363);(try clear BK371);(try clear HB)
          generalize (w239.setCell ⟨gb371, 0, none⟩ (.slice Ao240 t367.length co240)) = w130 at n0_ n1_ n2_ n3_ n4_ n5_ n6_ n7_ n8_ n9_ n10_ n11_ n12_ n13_ ⊢
          have HO_346000 := n0_;have HO_347000 := n1_;have HO_352000 := n2_;have HO_357000 := n3_;have HO361 := n4_;have HO366 := n5_;have HO369 := n6_;have BK345 := n7_;have BK346 := n8_;have BK351 := n9_;have BK356 := n10_;have BK363 := n11_;have BK371 := n12_;have HB := n13_;clear n0_ n1_ n2_ n3_ n4_ n5_ n6_ n7_ n8_ n9_ n10_ n11_ n12_ n13_;have n0_ := Aside0.mk (Kd.Q_drew HO_346000.out);have n1_ := Aside0.mk (Kd.Q_drew HO_347000.out);have n2_ := Aside0.mk (Kd.Q_drew HO_352000.out);have n3_ := Aside0.mk (Kd.Q_drew HO_357000.out);have n4_ := Aside0.mk (Kd.S_drew HO361.out);have n5_ := Aside0.mk (Kd.S_drew HO366.out);have n6_ := Aside0.mk (Kd.S_drew HO369.out);have n7_ := Aside0.mk (blk_drew BK345.out);have n8_ := Aside0.mk (blk_drew BK346.out);have n9_ := Aside0.mk (blk_drew BK351.out);have n10_ := Aside0.mk (blk_drew BK356.out);have n11_ := Aside0.mk (blk_drew BK363.out);have n12_ := Aside0.mk (blk_drew BK371.out);have n13_ := Aside0.mk (below_drew1 HB.out);clear HO_346000 HO_347000 HO_352000 HO_357000 HO361 HO366 HO369 BK345 BK346 BK351 BK356 BK363 BK371 HB;have HO_346000 := n0_;have HO_347000 := n1_;have HO_352000 := n2_;have HO_357000 := n3_;have HO361 := n4_;have HO366 := n5_;have HO369 := n6_;have BK345 := n7_;have BK346 := n8_;have BK351 := n9_;have BK356 := n10_;have BK363 := n11_;have BK371 := n12_;have HB := n13_;clear n0_ n1_ n2_ n3_ n4_ n5_ n6_ n7_ n8_ n9_ n10_ n11_ n12_ n13_;refine start_ (n := 29) (S := fun w' => w'.cell? ⟨gb356, 0, none⟩ = some (.slice Ao25 t352.length co25) ∧ w'.cell? ⟨gb363, 0, none⟩ = some (.slice Ao227 t359.length co227) ∧ w'.cell? ⟨gb371, 0, none⟩ = some (.slice Ao240 t367.length co240) ∧ w'.cell? ⟨gb345, 0, none⟩ = some (.slice Ao10 t339.length co10)) (ds := []) laws_FnRoughJoin.D0 (by kernel_rfl) rfl rfl ⟨(blk_cell BK356.out 0).trans rfl, (blk_cell BK363.out 0).trans rfl, (blk_cell BK371.out 0).trans rfl, (blk_cell BK345.out 0).trans rfl⟩ (fun hHeld => ?_); refine with_tabW laws_FnRoughJoin.tab10 laws_FnRoughJoin.bits10 (fun HT_ HW_ => ?_)
          generalize w130.drew = w131 at HO_346000 HO_347000 HO_352000 HO_357000 HO361 HO366 HO369 BK345 BK346 BK351 BK356 BK363 BK371 HB hHeld ⊢
          refine take_ (i := 0) (N := some 66) (v := ?_) (a' := ?_) laws_FnRoughJoin.D1 rfl rfl (take_ofW HT_.out HW_.out (by kernel_rfl)) (fun _ _ _ h => h) (Or.inl ⟨by rfl, ?_⟩) hHeld ?_ ?_;rotate_left
          ·
           rintro w' ⟨s0, s1, s2, s3⟩
           go_simp
           with_reducible rfl
          rotate_left
          ·
           simp only [Act.put, List.setIfInBounds_toArray, List.set_cons_zero, List.set_cons_succ, i64_w, i32_w]
           rfl
          refine one_ (i := 1) (N := some 67) laws_FnRoughJoin.D2 rfl rfl (one_of HT_.out (by kernel_rfl)) (by decide) (fun K hK => ?_);refine goes_ Try.func17 (by kernel_rfl) rfl #[.agg #[.slice Ao25 t352.length co25]] (by rfl) rfl rfl q4_11 ?_
          with_reducible refine (impl_RoughOk.calls kj5 _ _ t352 true _ ?side1 ?side2 A63.out).mono ?_
          (case side1 => exact q4_16);(case side2 => exact (Kd.Q_reads' HO_357000.out).2.1);rintro e w132 ⟨rfl, hb⟩;refine ⟨_, rfl, ?_⟩;have n0_ := Aside0.mk (Kd.Q_below q4_7 hb);have n1_ := Aside0.mk (Kd.Q_below q4_8 hb);have n2_ := Aside0.mk (Kd.Q_below q4_9 hb);have n3_ := Aside0.mk (Kd.Q_below q4_10 hb);have n4_ := Aside0.mk (Kd.S_below q4_13 hb);have n5_ := Aside0.mk (Kd.S_below q4_15 hb);have n6_ := Aside0.mk (Kd.S_below q4_17 hb);have n7_ := Aside0.mk (blk_below (g := gb345) (o := .cells #[.slice Ao10 t339.length co10] 25 (0, 0)) q4_1 hb);have n8_ := Aside0.mk (blk_below (g := gb346) (o := .cells #[.slice Ao13 t342.length co13] 25 (0, 0)) q4_2 hb);have n9_ := Aside0.mk (blk_below (g := gb351) (o := .cells #[.slice Ao17 t347.length co17] 25 (0, 0)) q4_3 hb);have n10_ := Aside0.mk (blk_below (g := gb356) (o := .cells #[.slice Ao25 t352.length co25] 25 (0, 0)) q4_4 hb);have n11_ := Aside0.mk (blk_below (g := gb363) (o := .cells #[.slice Ao227 t359.length co227] 25 (0, 0)) q4_6 hb);have n12_ := Aside0.mk (blk_below (g := gb371) (o := .cells #[.slice Ao240 t367.length co240] 25 (0, 0)) q4_14 hb);have n13_ := Aside0.mk (below_step q4_0 hb);clear HO_346000 HO_347000 HO_352000 HO_357000 HO361 HO366 HO369 BK345 BK346 BK351 BK356 BK363 BK371 HB;have HO_346000 := n0_;have HO_347000 := n1_;have HO_352000 := n2_;have HO_357000 := n3_;have HO361 := n4_;have HO366 := n5_;have HO369 := n6_;have BK345 := n7_;have BK346 := n8_;have BK351 := n9_;have BK356 := n10_;have BK363 := n11_;have BK371 := n12_;have HB := n13_;clear n0_ n1_ n2_ n3_ n4_ n5_ n6_ n7_ n8_ n9_ n10_ n11_ n12_ n13_;(try clear hb);(try clear hb2);(try clear hk);(try clear hi);refine hK.out _ _ ⟨(blk_cell BK356.out 0).trans rfl, (blk_cell BK363.out 0).trans rfl, (blk_cell BK371.out 0).trans rfl, (blk_cell BK345.out 0).trans rfl⟩ (fun hHeld => ?_);clear hK K;refine norm_ (a' := ?_) ?_ ?_;rotate_left
          ·
           show Act.put _ (some 67) _ = _
           simp only [Act.put, List.setIfInBounds_toArray, List.set_cons_zero, List.set_cons_succ, i64_w, i32_w]
           rfl
          refine pure_ (i := 2) (N := some 68) (v := ?_) (a' := ?_) laws_FnRoughJoin.D3 rfl rfl (any_of HT_.out (by kernel_rfl)) (fun _ _ _ h => h) (Or.inl ⟨by rfl, ?_⟩) ?_ ?_;rotate_left
          ·
           intro w'
           go_simp
           with_reducible rfl
          rotate_left
          ·
           simp only [Act.put, List.setIfInBounds_toArray, List.set_cons_zero, List.set_cons_succ, i64_w, i32_w]
           rfl
          refine pure_ (i := 3) (N := some 69) (v := ?_) (a' := ?_) laws_FnRoughJoin.D4 rfl rfl (any_of HT_.out (by kernel_rfl)) (fun _ _ _ h => h) (Or.inl ⟨by rfl, ?_⟩) ?_ ?_;rotate_left
          ·
           intro w'
           go_simp
           with_reducible rfl
          rotate_left
          ·
           simp only [Act.put, List.setIfInBounds_toArray, List.set_cons_zero, List.set_cons_succ, i64_w, i32_w]
           rfl
          refine pure_ (i := 4) (N := some 70) (v := ?_) (a' := ?_) laws_FnRoughJoin.D5 rfl rfl (any_of HT_.out (by kernel_rfl)) (fun _ _ _ h => h) (Or.inl ⟨by rfl, ?_⟩) ?_ ?_;rotate_left
          ·
           intro w'
           go_simp
           with_reducible rfl
          rotate_left
          ·
           simp only [Act.put, List.setIfInBounds_toArray, List.set_cons_zero, List.set_cons_succ, i64_w, i32_w]
           rfl
          refine pure_ (i := 5) (N := some 71) (v := ?_) (a' := ?_) laws_FnRoughJoin.D6 rfl rfl (any_of HT_.out (by kernel_rfl)) (fun _ _ _ h => h) (Or.inl ⟨by rfl, ?_⟩) ?_ ?_;rotate_left
          ·
           intro w'
           go_simp
           with_reducible rfl
          rotate_left
          ·
           simp only [Act.put, List.setIfInBounds_toArray, List.set_cons_zero, List.set_cons_succ, i64_w, i32_w]
           rfl
          refine take_ (i := 6) (N := some 72) (v := ?_) (a' := ?_) laws_FnRoughJoin.D7 rfl rfl (take_ofW HT_.out HW_.out (by kernel_rfl)) (fun _ _ _ h => h) (Or.inl ⟨by rfl, ?_⟩) hHeld ?_ ?_;rotate_left
          ·
           rintro w' ⟨s0, s1, s2, s3⟩
           go_simp
           with_reducible rfl
          rotate_left
          ·
           simp only [Act.put, List.setIfInBounds_toArray, List.set_cons_zero, List.set_cons_succ, i64_w, i32_w]
           rfl
          refine take_ (i := 7) (N := some 73) (v := ?_) (a' := ?_) laws_FnRoughJoin.D8 rfl rfl (take_ofW HT_.out HW_.out (by kernel_rfl)) (fun _ _ _ h => h) (Or.inl ⟨by rfl, ?_⟩) hHeld ?_ ?_;rotate_left
          ·
           rintro w' ⟨s0, s1, s2, s3⟩
           go_simp
           with_reducible rfl
          rotate_left
          ·
           simp only [Act.put, List.setIfInBounds_toArray, List.set_cons_zero, List.set_cons_succ, i64_w, i32_w]
           rfl
          refine one_ (i := 8) (N := some 74) laws_FnRoughJoin.D9 rfl rfl (one_of HT_.out (by kernel_rfl)) (by decide) (fun K hK => ?_);refine goes_ Try.func15 (by kernel_rfl) rfl #[.agg #[.slice Ao227 t359.length co227], .agg #[.slice Ao25 t352.length co25]] (by rfl) rfl rfl q4_11 ?_
          with_reducible refine (laws_lkRough.calls kj5 _ _ t359 _ _ t352 true _ ?side1 ?side2 ?side3 ?side4 A66.out).mono ?_
          (case side1 => exact q4_33);(case side2 => exact (Kd.S_reads' HO361.out).2.1);(case side3 => exact q4_16);(case side4 => exact (Kd.Q_reads' HO_357000.out).2.1);rintro e w133 ⟨rfl, hb⟩;refine ⟨_, rfl, ?_⟩;have n0_ := Aside0.mk (Kd.Q_below q4_7 hb);have n1_ := Aside0.mk (Kd.Q_below q4_8 hb);have n2_ := Aside0.mk (Kd.Q_below q4_9 hb);have n3_ := Aside0.mk (Kd.Q_below q4_10 hb);have n4_ := Aside0.mk (Kd.S_below q4_13 hb);have n5_ := Aside0.mk (Kd.S_below q4_15 hb);have n6_ := Aside0.mk (Kd.S_below q4_17 hb);have n7_ := Aside0.mk (blk_below (g := gb345) (o := .cells #[.slice Ao10 t339.length co10] 25 (0, 0)) q4_1 hb);have n8_ := Aside0.mk (blk_below (g := gb346) (o := .cells #[.slice Ao13 t342.length co13] 25 (0, 0)) q4_2 hb);have n9_ := Aside0.mk (blk_below (g := gb351) (o := .cells #[.slice Ao17 t347.length co17] 25 (0, 0)) q4_3 hb);have n10_ := Aside0.mk (blk_below (g := gb356) (o := .cells #[.slice Ao25 t352.length co25] 25 (0, 0)) q4_4 hb);have n11_ := Aside0.mk (blk_below (g := gb363) (o := .cells #[.slice Ao227 t359.length co227] 25 (0, 0)) q4_6 hb);have n12_ := Aside0.mk (blk_below (g := gb371) (o := .cells #[.slice Ao240 t367.length co240] 25 (0, 0)) q4_14 hb);have n13_ := Aside0.mk (below_step q4_0 hb);clear HO_346000 HO_347000 HO_352000 HO_357000 HO361 HO366 HO369 BK345 BK346 BK351 BK356 BK363 BK371 HB;have HO_346000 := n0_;have HO_347000 := n1_;have HO_352000 := n2_;have HO_357000 := n3_;have HO361 := n4_;have HO366 := n5_;have HO369 := n6_;have BK345 := n7_;have BK346 := n8_;have BK351 := n9_;have BK356 := n10_;have BK363 := n11_;have BK371 := n12_;have HB := n13_;clear n0_ n1_ n2_ n3_ n4_ n5_ n6_ n7_ n8_ n9_ n10_ n11_ n12_ n13_;(try clear hb);(try clear hb2);(try clear hk);(try clear hi);refine hK.out _ _ ⟨(blk_cell BK356.out 0).trans rfl, (blk_cell BK363.out 0).trans rfl, (blk_cell BK371.out 0).trans rfl, (blk_cell BK345.out 0).trans rfl⟩ (fun hHeld => ?_);clear hK K;refine norm_ (a' := ?_) ?_ ?_;rotate_left
          ·
           show Act.put _ (some 74) _ = _
           simp only [Act.put, List.setIfInBounds_toArray, List.set_cons_zero, List.set_cons_succ, i64_w, i32_w]
           rfl
          refine pure_ (i := 9) (N := some 75) (v := ?_) (a' := ?_) laws_FnRoughJoin.D10 rfl rfl (any_of HT_.out (by kernel_rfl)) (fun _ _ _ h => h) (Or.inl ⟨by rfl, ?_⟩) ?_ ?_;rotate_left
          ·
           intro w'
           go_simp
           with_reducible rfl
          rotate_left
          ·
           simp only [Act.put, List.setIfInBounds_toArray, List.set_cons_zero, List.set_cons_succ, i64_w, i32_w]
           rfl
          refine pure_ (i := 10) (N := some 76) (v := ?_) (a' := ?_) laws_FnRoughJoin.D11 rfl rfl (any_of HT_.out (by kernel_rfl)) (fun _ _ _ h => h) (Or.inl ⟨by rfl, ?_⟩) ?_ ?_;rotate_left
          ·
           intro w'
           go_simp
           with_reducible rfl
          rotate_left
          ·
           simp only [Act.put, List.setIfInBounds_toArray, List.set_cons_zero, List.set_cons_succ, i64_w, i32_w]
           rfl
          refine pure_ (i := 11) (N := some 77) (v := ?_) (a' := ?_) laws_FnRoughJoin.D12 rfl rfl (any_of HT_.out (by kernel_rfl)) (fun _ _ _ h => h) (Or.inl ⟨by rfl, ?_⟩) ?_ ?_;rotate_left
          ·
           intro w'
           go_simp
           with_reducible rfl
          rotate_left
          ·
           simp only [Act.put, List.setIfInBounds_toArray, List.set_cons_zero, List.set_cons_succ, i64_w, i32_w]
           rfl
          refine pure_ (i := 12) (N := some 78) (v := ?_) (a' := ?_) laws_FnRoughJoin.D13 rfl rfl (any_of HT_.out (by kernel_rfl)) (fun _ _ _ h => h) (Or.inl ⟨by rfl, ?_⟩) ?_ ?_;rotate_left
          ·
           intro w'
           go_simp
           with_reducible rfl
          rotate_left
          ·
           simp only [Act.put, List.setIfInBounds_toArray, List.set_cons_zero, List.set_cons_succ, i64_w, i32_w]
           rfl
          refine pure_ (i := 13) (N := some 79) (v := ?_) (a' := ?_) laws_FnRoughJoin.D14 rfl rfl (any_of HT_.out (by kernel_rfl)) (fun _ _ _ h => h) (Or.inl ⟨by rfl, ?_⟩) ?_ ?_;rotate_left
          ·
           intro w'
           go_simp
           with_reducible rfl
          rotate_left
          ·
           simp only [Act.put, List.setIfInBounds_toArray, List.set_cons_zero, List.set_cons_succ, i64_w, i32_w]
           rfl
          refine take_ (i := 14) (N := some 80) (v := ?_) (a' := ?_) laws_FnRoughJoin.D15 rfl rfl (take_ofW HT_.out HW_.out (by kernel_rfl)) (fun _ _ _ h => h) (Or.inl ⟨by rfl, ?_⟩) hHeld ?_ ?_;rotate_left
          ·
           rintro w' ⟨s0, s1, s2, s3⟩
           go_simp
           with_reducible rfl
          rotate_left
          ·
           simp only [Act.put, List.setIfInBounds_toArray, List.set_cons_zero, List.set_cons_succ, i64_w, i32_w]
           rfl
          refine take_ (i := 15) (N := some 81) (v := ?_) (a' := ?_) laws_FnRoughJoin.D16 rfl rfl (take_ofW HT_.out HW_.out (by kernel_rfl)) (fun _ _ _ h => h) (Or.inl ⟨by rfl, ?_⟩) hHeld ?_ ?_;rotate_left
          ·
           rintro w' ⟨s0, s1, s2, s3⟩
           go_simp
           with_reducible rfl
          rotate_left
          ·
           simp only [Act.put, List.setIfInBounds_toArray, List.set_cons_zero, List.set_cons_succ, i64_w, i32_w]
           rfl
          refine one_ (i := 16) (N := some 82) laws_FnRoughJoin.D17 rfl rfl (one_of HT_.out (by kernel_rfl)) (by decide) (fun K hK => ?_);refine goes_ Try.func15 (by kernel_rfl) rfl #[.agg #[.slice Ao240 t367.length co240], .agg #[.slice Ao10 t339.length co10]] (by rfl) rfl rfl q4_11 ?_
          with_reducible refine (laws_lkRough.calls kj5 _ _ t367 _ _ t339 false _ ?side1 ?side2 ?side3 ?side4 A69.out).mono ?_
          (case side1 => exact q4_63);(case side2 => exact (Kd.S_reads' HO369.out).2.1);(case side3 => exact q4_18);(case side4 => exact (Kd.Q_reads' HO_346000.out).2.1);rintro e w134 ⟨rfl, hb⟩;refine ⟨_, rfl, ?_⟩;have n0_ := Aside0.mk (Kd.Q_below q4_7 hb);have n1_ := Aside0.mk (Kd.Q_below q4_8 hb);have n2_ := Aside0.mk (Kd.Q_below q4_9 hb);have n3_ := Aside0.mk (Kd.Q_below q4_10 hb);have n4_ := Aside0.mk (Kd.S_below q4_13 hb);have n5_ := Aside0.mk (Kd.S_below q4_15 hb);have n6_ := Aside0.mk (Kd.S_below q4_17 hb);have n7_ := Aside0.mk (blk_below (g := gb345) (o := .cells #[.slice Ao10 t339.length co10] 25 (0, 0)) q4_1 hb);have n8_ := Aside0.mk (blk_below (g := gb346) (o := .cells #[.slice Ao13 t342.length co13] 25 (0, 0)) q4_2 hb);have n9_ := Aside0.mk (blk_below (g := gb351) (o := .cells #[.slice Ao17 t347.length co17] 25 (0, 0)) q4_3 hb);have n10_ := Aside0.mk (blk_below (g := gb356) (o := .cells #[.slice Ao25 t352.length co25] 25 (0, 0)) q4_4 hb);have n11_ := Aside0.mk (blk_below (g := gb363) (o := .cells #[.slice Ao227 t359.length co227] 25 (0, 0)) q4_6 hb);have n12_ := Aside0.mk (blk_below (g := gb371) (o := .cells #[.slice Ao240 t367.length co240] 25 (0, 0)) q4_14 hb);have n13_ := Aside0.mk (below_step q4_0 hb);clear HO_346000 HO_347000 HO_352000 HO_357000 HO361 HO366 HO369 BK345 BK346 BK351 BK356 BK363 BK371 HB;have HO_346000 := n0_;have HO_347000 := n1_;have HO_352000 := n2_;have HO_357000 := n3_;have HO361 := n4_;have HO366 := n5_;have HO369 := n6_;have BK345 := n7_;have BK346 := n8_;have BK351 := n9_;have BK356 := n10_;have BK363 := n11_;have BK371 := n12_;have HB := n13_;clear n0_ n1_ n2_ n3_ n4_ n5_ n6_ n7_ n8_ n9_ n10_ n11_ n12_ n13_;(try clear hb);(try clear hb2);(try clear hk);(try clear hi);refine hK.out _ _ ⟨(blk_cell BK356.out 0).trans rfl, (blk_cell BK363.out 0).trans rfl, (blk_cell BK371.out 0).trans rfl, (blk_cell BK345.out 0).trans rfl⟩ (fun hHeld => ?_);clear hK K;refine norm_ (a' := ?_) ?_ ?_;rotate_left
          ·
           show Act.put _ (some 82) _ = _
           simp only [Act.put, List.setIfInBounds_toArray, List.set_cons_zero, List.set_cons_succ, i64_w, i32_w]
           rfl
          refine pure_ (i := 17) (N := some 83) (v := ?_) (a' := ?_) laws_FnRoughJoin.D18 rfl rfl (any_of HT_.out (by kernel_rfl)) (fun _ _ _ h => h) (Or.inl ⟨by rfl, ?_⟩) ?_ ?_;rotate_left
          ·
           intro w'
           go_simp
           with_reducible rfl
          rotate_left
          ·
           simp only [Act.put, List.setIfInBounds_toArray, List.set_cons_zero, List.set_cons_succ, i64_w, i32_w]
           rfl
          refine pure_ (i := 18) (N := some 84) (v := ?_) (a' := ?_) laws_FnRoughJoin.D19 rfl rfl (any_of HT_.out (by kernel_rfl)) (fun _ _ _ h => h) (Or.inl ⟨by rfl, ?_⟩) ?_ ?_;rotate_left
          ·
           intro w'
           go_simp
           with_reducible rfl
          rotate_left
          ·
           simp only [Act.put, List.setIfInBounds_toArray, List.set_cons_zero, List.set_cons_succ, i64_w, i32_w]
           rfl
          refine pure_ (i := 19) (N := some 85) (v := undef) (a' := ?_) laws_FnRoughJoin.D20 rfl rfl (any_of HT_.out (by kernel_rfl)) (fun _ _ _ h => h) (Or.inr ⟨by rfl, rfl⟩) ?_ ?_;rotate_left
          ·
           simp only [Act.put, List.setIfInBounds_toArray, List.set_cons_zero, List.set_cons_succ, i64_w, i32_w]
           rfl
          refine pure_ (i := 20) (N := some 86) (v := undef) (a' := ?_) laws_FnRoughJoin.D30 rfl rfl (any_of HT_.out (by kernel_rfl)) (fun _ _ _ h => h) (Or.inr ⟨by rfl, rfl⟩) ?_ ?_;rotate_left
          ·
           simp only [Act.put, List.setIfInBounds_toArray, List.set_cons_zero, List.set_cons_succ, i64_w, i32_w]
           rfl
          refine pure_ (i := 21) (N := some 87) (v := undef) (a' := ?_) laws_FnRoughJoin.D31 rfl rfl (any_of HT_.out (by kernel_rfl)) (fun _ _ _ h => h) (Or.inr ⟨by rfl, rfl⟩) ?_ ?_;rotate_left
          ·
           simp only [Act.put, List.setIfInBounds_toArray, List.set_cons_zero, List.set_cons_succ, i64_w, i32_w]
           rfl
          refine pure_ (i := 22) (N := some 88) (v := undef) (a' := ?_) laws_FnRoughJoin.D32 rfl rfl (any_of HT_.out (by kernel_rfl)) (fun _ _ _ h => h) (Or.inr ⟨by rfl, rfl⟩) ?_ ?_;rotate_left
          ·
           simp only [Act.put, List.setIfInBounds_toArray, List.set_cons_zero, List.set_cons_succ, i64_w, i32_w]
           rfl
          refine pure_ (i := 23) (N := some 89) (v := undef) (a' := ?_) laws_FnRoughJoin.D24 rfl rfl (any_of HT_.out (by kernel_rfl)) (fun _ _ _ h => h) (Or.inr ⟨by rfl, rfl⟩) ?_ ?_;rotate_left
          ·
           simp only [Act.put, List.setIfInBounds_toArray, List.set_cons_zero, List.set_cons_succ, i64_w, i32_w]
           rfl
          refine pure_ (i := 24) (N := some 90) (v := undef) (a' := ?_) laws_FnRoughJoin.D25 rfl rfl (any_of HT_.out (by kernel_rfl)) (fun _ _ _ h => h) (Or.inr ⟨by rfl, rfl⟩) ?_ ?_;rotate_left
          ·
           simp only [Act.put, List.setIfInBounds_toArray, List.set_cons_zero, List.set_cons_succ, i64_w, i32_w]
           rfl
          refine pure_ (i := 25) (N := some 91) (v := undef) (a' := ?_) laws_FnRoughJoin.D26 rfl rfl (any_of HT_.out (by kernel_rfl)) (fun _ _ _ h => h) (Or.inr ⟨by rfl, rfl⟩) ?_ ?_;rotate_left
          ·
           simp only [Act.put, List.setIfInBounds_toArray, List.set_cons_zero, List.set_cons_succ, i64_w, i32_w]
           rfl
          refine pure_ (i := 26) (N := some 92) (v := undef) (a' := ?_) laws_FnRoughJoin.D27 rfl rfl (any_of HT_.out (by kernel_rfl)) (fun _ _ _ h => h) (Or.inr ⟨by rfl, rfl⟩) ?_ ?_;rotate_left
          ·
           simp only [Act.put, List.setIfInBounds_toArray, List.set_cons_zero, List.set_cons_succ, i64_w, i32_w]
           rfl
          refine pure_ (i := 27) (N := some 93) (v := ?_) (a' := ?_) laws_FnRoughJoin.D28 rfl rfl (any_of HT_.out (by kernel_rfl)) (fun _ _ _ h => h) (Or.inl ⟨by rfl, ?_⟩) ?_ ?_;rotate_left
          ·
           intro w'
           go_simp
           with_reducible rfl
          rotate_left
          ·
           simp only [Act.put, List.setIfInBounds_toArray, List.set_cons_zero, List.set_cons_succ, i64_w, i32_w]
           rfl
          refine pure_ (i := 28) (N := some 2) (v := ?_) (a' := ?_) laws_FnRoughJoin.D29 rfl rfl (any_of HT_.out (by kernel_rfl)) (fun _ _ _ h => h) (Or.inl ⟨by rfl, ?_⟩) ?_ ?_;rotate_left
          ·
           intro w'
           go_simp
           with_reducible rfl
          rotate_left
          ·
           simp only [Act.put, List.setIfInBounds_toArray, List.set_cons_zero, List.set_cons_succ, i64_w, i32_w]
           rfl
          refine done_ (done_of HT_.out (by kernel_rfl)) ?_
          try go_wp2
          go_ret
          exact ⟨q4_26, q4_0⟩
        ·
         replace c68 := Bool.eq_false_iff.mpr c68
         subst c68
         have H1 : (some false) = some r := by rw [if_neg (show ¬ (false = true) by decide)] at H; exact H
         clear H;have H := H1;clear H1
         obtain rfl := Option.some.inj H
         try go_wp2
         have n0_ : Aside0 (Kd.Q (Kd.slice 3 (Kd.int .i64)) 43 (w239.setCell ⟨gb371, 0, none⟩ (.slice Ao240 t367.length co240)) w.heap.size (fun k_ => some k_ ≠ (.slice Ao13 t342.length co13 : Value).ownBlock ∧ some k_ ≠ (.slice Ao17 t347.length co17 : Value).ownBlock ∧ some k_ ≠ (.slice Ao25 t352.length co25 : Value).ownBlock ∧ some k_ ≠ (.slice Ao227 t359.length co227 : Value).ownBlock ∧ some k_ ≠ (v365 : Value).ownBlock ∧ some k_ ≠ (.slice Ao240 t367.length co240 : Value).ownBlock) (.slice Ao10 t339.length co10) t339) := ⟨by (with_reducible repeat (first | apply Kd.Q_alloc | apply Kd.Q_drewN | apply Kd.Q_drew)); exact Kd.Q_mono (Kd.Q_far (p := ⟨gb371, 0, none⟩) (Kd.Q_types HO_346000.out BK371.out (by decide)) (fun _ hk => hk.2) (.slice Ao240 t367.length co240)) (fun _ hk => ⟨hk.1.2.2.2.1, ⟨hk.1.2.2.2.2.1, ⟨hk.1.2.2.2.2.2, ⟨hk.1.1, ⟨hk.1.2.1, hk.1.2.2.1⟩⟩⟩⟩⟩)⟩
         have n1_ : Aside0 (Kd.Q (Kd.slice 3 (Kd.int .i64)) 43 (w239.setCell ⟨gb371, 0, none⟩ (.slice Ao240 t367.length co240)) w.heap.size (fun k_ => some k_ ≠ (.slice Ao10 t339.length co10 : Value).ownBlock ∧ some k_ ≠ (.slice Ao17 t347.length co17 : Value).ownBlock ∧ some k_ ≠ (.slice Ao25 t352.length co25 : Value).ownBlock ∧ some k_ ≠ (.slice Ao227 t359.length co227 : Value).ownBlock ∧ some k_ ≠ (v365 : Value).ownBlock ∧ some k_ ≠ (.slice Ao240 t367.length co240 : Value).ownBlock) (.slice Ao13 t342.length co13) t342) := ⟨by (with_reducible repeat (first | apply Kd.Q_alloc | apply Kd.Q_drewN | apply Kd.Q_drew)); exact Kd.Q_mono (Kd.Q_far (p := ⟨gb371, 0, none⟩) (Kd.Q_types HO_347000.out BK371.out (by decide)) (fun _ hk => hk.2) (.slice Ao240 t367.length co240)) (fun _ hk => ⟨hk.1.2.2.2.1, ⟨hk.1.2.2.2.2.1, ⟨hk.1.2.2.2.2.2, ⟨hk.1.1, ⟨hk.1.2.1, hk.1.2.2.1⟩⟩⟩⟩⟩)⟩
         have n2_ : Aside0 (Kd.Q (Kd.slice 3 (Kd.int .i64)) 43 (w239.setCell ⟨gb371, 0, none⟩ (.slice Ao240 t367.length co240)) w.heap.size (fun k_ => some k_ ≠ (.slice Ao10 t339.length co10 : Value).ownBlock ∧ some k_ ≠ (.slice Ao13 t342.length co13 : Value).ownBlock ∧ some k_ ≠ (.slice Ao25 t352.length co25 : Value).ownBlock ∧ some k_ ≠ (.slice Ao227 t359.length co227 : Value).ownBlock ∧ some k_ ≠ (v365 : Value).ownBlock ∧ some k_ ≠ (.slice Ao240 t367.length co240 : Value).ownBlock) (.slice Ao17 t347.length co17) t347) := ⟨by (with_reducible repeat (first | apply Kd.Q_alloc | apply Kd.Q_drewN | apply Kd.Q_drew)); exact Kd.Q_mono (Kd.Q_far (p := ⟨gb371, 0, none⟩) (Kd.Q_types HO_352000.out BK371.out (by decide)) (fun _ hk => hk.2) (.slice Ao240 t367.length co240)) (fun _ hk => ⟨hk.1.2.2.2.1, ⟨hk.1.2.2.2.2.1, ⟨hk.1.2.2.2.2.2, ⟨hk.1.1, ⟨hk.1.2.1, hk.1.2.2.1⟩⟩⟩⟩⟩)⟩
         have n3_ : Aside0 (Kd.Q (Kd.slice 3 (Kd.int .i64)) 43 (w239.setCell ⟨gb371, 0, none⟩ (.slice Ao240 t367.length co240)) w.heap.size (fun k_ => some k_ ≠ (.slice Ao10 t339.length co10 : Value).ownBlock ∧ some k_ ≠ (.slice Ao13 t342.length co13 : Value).ownBlock ∧ some k_ ≠ (.slice Ao17 t347.length co17 : Value).ownBlock ∧ some k_ ≠ (.slice Ao227 t359.length co227 : Value).ownBlock ∧ some k_ ≠ (v365 : Value).ownBlock ∧ some k_ ≠ (.slice Ao240 t367.length co240 : Value).ownBlock) (.slice Ao25 t352.length co25) t352) := ⟨by (with_reducible repeat (first | apply Kd.Q_alloc | apply Kd.Q_drewN | apply Kd.Q_drew)); exact Kd.Q_mono (Kd.Q_far (p := ⟨gb371, 0, none⟩) (Kd.Q_types HO_357000.out BK371.out (by decide)) (fun _ hk => hk.2) (.slice Ao240 t367.length co240)) (fun _ hk => ⟨hk.1.2.2.2.1, ⟨hk.1.2.2.2.2.1, ⟨hk.1.2.2.2.2.2, ⟨hk.1.1, ⟨hk.1.2.1, hk.1.2.2.1⟩⟩⟩⟩⟩)⟩
         have n4_ : Aside0 (Kd.S (Kd.slice 3 (Kd.int .i64)) 43 (w239.setCell ⟨gb371, 0, none⟩ (.slice Ao240 t367.length co240)) w.heap.size (fun k_ => some k_ ≠ (.slice Ao10 t339.length co10 : Value).ownBlock ∧ some k_ ≠ (.slice Ao13 t342.length co13 : Value).ownBlock ∧ some k_ ≠ (.slice Ao17 t347.length co17 : Value).ownBlock ∧ some k_ ≠ (.slice Ao25 t352.length co25 : Value).ownBlock ∧ some k_ ≠ (v365 : Value).ownBlock ∧ some k_ ≠ (.slice Ao240 t367.length co240 : Value).ownBlock) (.slice Ao227 t359.length co227) t359) := ⟨by (with_reducible repeat (first | apply Kd.S_alloc | apply Kd.S_drewN | apply Kd.S_drew)); exact Kd.S_mono (Kd.S_far (p := ⟨gb371, 0, none⟩) (Kd.S_types HO361.out BK371.out (by decide)) (fun _ hk => hk.2) (.slice Ao240 t367.length co240)) (fun _ hk => ⟨hk.1.2.2.1, ⟨hk.1.2.2.2.1, ⟨hk.1.2.2.2.2.1, ⟨hk.1.2.2.2.2.2, ⟨hk.1.1, hk.1.2.1⟩⟩⟩⟩⟩)⟩
         have n5_ : Aside0 (Kd.S (Kd.slice 3 (Kd.int .i64)) 43 (w239.setCell ⟨gb371, 0, none⟩ (.slice Ao240 t367.length co240)) w.heap.size (fun k_ => some k_ ≠ (.slice Ao10 t339.length co10 : Value).ownBlock ∧ some k_ ≠ (.slice Ao13 t342.length co13 : Value).ownBlock ∧ some k_ ≠ (.slice Ao17 t347.length co17 : Value).ownBlock ∧ some k_ ≠ (.slice Ao25 t352.length co25 : Value).ownBlock ∧ some k_ ≠ (.slice Ao227 t359.length co227 : Value).ownBlock ∧ some k_ ≠ (.slice Ao240 t367.length co240 : Value).ownBlock) v365 t364) := ⟨by (with_reducible repeat (first | apply Kd.S_alloc | apply Kd.S_drewN | apply Kd.S_drew)); exact Kd.S_mono (Kd.S_far (p := ⟨gb371, 0, none⟩) (Kd.S_types HO366.out BK371.out (by decide)) (fun _ hk => hk.2) (.slice Ao240 t367.length co240)) (fun _ hk => ⟨hk.1.2.2.1, ⟨hk.1.2.2.2.1, ⟨hk.1.2.2.2.2.1, ⟨hk.1.2.2.2.2.2, ⟨hk.1.1, hk.1.2.1⟩⟩⟩⟩⟩)⟩
         have n6_ : Aside0 (Kd.S (Kd.slice 3 (Kd.int .i64)) 43 (w239.setCell ⟨gb371, 0, none⟩ (.slice Ao240 t367.length co240)) w.heap.size (fun k_ => some k_ ≠ (.slice Ao10 t339.length co10 : Value).ownBlock ∧ some k_ ≠ (.slice Ao13 t342.length co13 : Value).ownBlock ∧ some k_ ≠ (.slice Ao17 t347.length co17 : Value).ownBlock ∧ some k_ ≠ (.slice Ao25 t352.length co25 : Value).ownBlock ∧ some k_ ≠ (.slice Ao227 t359.length co227 : Value).ownBlock ∧ some k_ ≠ (v365 : Value).ownBlock) (.slice Ao240 t367.length co240) t367) := ⟨by (with_reducible repeat (first | apply Kd.S_alloc | apply Kd.S_drewN | apply Kd.S_drew)); exact Kd.S_mono (Kd.S_far (p := ⟨gb371, 0, none⟩) (Kd.S_types HO369.out BK371.out (by decide)) (fun _ hk => hk.2) (.slice Ao240 t367.length co240)) (fun _ hk => ⟨hk.1.2.2.1, ⟨hk.1.2.2.2.1, ⟨hk.1.2.2.2.2.1, ⟨hk.1.2.2.2.2.2, ⟨hk.1.1, hk.1.2.1⟩⟩⟩⟩⟩)⟩
         have n7_ : Aside0 ((w239.setCell ⟨gb371, 0, none⟩ (.slice Ao240 t367.length co240)).heap[gb345]? = some (.cells #[.slice Ao10 t339.length co10] 25 (0, 0))) := ⟨by (with_reducible repeat (first | refine blk_drewN ?_ _ | refine blk_drew ?_ | refine blk_alloc ?_ _)); refine blk_far ?_ NB345_371.out _; (with_reducible repeat (first | refine blk_drewN ?_ _ | refine blk_drew ?_ | refine blk_alloc ?_ _)); exact BK345.out⟩
         have n8_ : Aside0 ((w239.setCell ⟨gb371, 0, none⟩ (.slice Ao240 t367.length co240)).heap[gb346]? = some (.cells #[.slice Ao13 t342.length co13] 25 (0, 0))) := ⟨by (with_reducible repeat (first | refine blk_drewN ?_ _ | refine blk_drew ?_ | refine blk_alloc ?_ _)); refine blk_far ?_ NB346_371.out _; (with_reducible repeat (first | refine blk_drewN ?_ _ | refine blk_drew ?_ | refine blk_alloc ?_ _)); exact BK346.out⟩
         have n9_ : Aside0 ((w239.setCell ⟨gb371, 0, none⟩ (.slice Ao240 t367.length co240)).heap[gb351]? = some (.cells #[.slice Ao17 t347.length co17] 25 (0, 0))) := ⟨by (with_reducible repeat (first | refine blk_drewN ?_ _ | refine blk_drew ?_ | refine blk_alloc ?_ _)); refine blk_far ?_ NB351_371.out _; (with_reducible repeat (first | refine blk_drewN ?_ _ | refine blk_drew ?_ | refine blk_alloc ?_ _)); exact BK351.out⟩
         have n10_ : Aside0 ((w239.setCell ⟨gb371, 0, none⟩ (.slice Ao240 t367.length co240)).heap[gb356]? = some (.cells #[.slice Ao25 t352.length co25] 25 (0, 0))) := ⟨by (with_reducible repeat (first | refine blk_drewN ?_ _ | refine blk_drew ?_ | refine blk_alloc ?_ _)); refine blk_far ?_ NB356_371.out _; (with_reducible repeat (first | refine blk_drewN ?_ _ | refine blk_drew ?_ | refine blk_alloc ?_ _)); exact BK356.out⟩
         have n11_ : Aside0 ((w239.setCell ⟨gb371, 0, none⟩ (.slice Ao240 t367.length co240)).heap[gb363]? = some (.cells #[.slice Ao227 t359.length co227] 25 (0, 0))) := ⟨by (with_reducible repeat (first | refine blk_drewN ?_ _ | refine blk_drew ?_ | refine blk_alloc ?_ _)); refine blk_far ?_ NB363_371.out _; (with_reducible repeat (first | refine blk_drewN ?_ _ | refine blk_drew ?_ | refine blk_alloc ?_ _)); exact BK363.out⟩
         have n12_ : Aside0 ((w239.setCell ⟨gb371, 0, none⟩ (.slice Ao240 t367.length co240)).heap[gb371]? = some (.cells #[.slice Ao240 t367.length co240] 25 (0, 0))) := ⟨by (with_reducible repeat (first | refine blk_drewN ?_ _ | refine blk_drew ?_ | refine blk_alloc ?_ _)); refine blk_put (cs := #[.slice none 0 0]) ?_ 0 _ rfl; (with_reducible repeat (first | refine blk_drewN ?_ _ | refine blk_drew ?_ | refine blk_alloc ?_ _)); exact BK371.out⟩
         have n13_ : Aside0 (Below w.heap.size w (w239.setCell ⟨gb371, 0, none⟩ (.slice Ao240 t367.length co240))) := ⟨q4_0⟩
         (try clear HO_346000);(try clear HO_347000);(try clear HO_352000);(try clear HO_357000);(try clear HO361);(try clear HO366);(try clear HO369);(try clear BK345);(try clear BK346);(try clear BK351);(try clear BK356);(try clear BK363);(try clear BK371);(try clear HB)
         generalize (w239.setCell ⟨gb371, 0, none⟩ (.slice Ao240 t367.length co240)) = w159 at n0_ n1_ n2_ n3_ n4_ n5_ n6_ n7_ n8_ n9_ n10_ n11_ n12_ n13_ ⊢
         have HO_346000 := n0_;have HO_347000 := n1_;have HO_352000 := n2_;have HO_357000 := n3_;have HO361 := n4_;have HO366 := n5_;have HO369 := n6_;have BK345 := n7_;have BK346 := n8_;have BK351 := n9_;have BK356 := n10_;have BK363 := n11_;have BK371 := n12_;have HB := n13_;clear n0_ n1_ n2_ n3_ n4_ n5_ n6_ n7_ n8_ n9_ n10_ n11_ n12_ n13_;have n0_ := Aside0.mk (Kd.Q_drew HO_346000.out);have n1_ := Aside0.mk (Kd.Q_drew HO_347000.out);have n2_ := Aside0.mk (Kd.Q_drew HO_352000.out);have n3_ := Aside0.mk (Kd.Q_drew HO_357000.out);have n4_ := Aside0.mk (Kd.S_drew HO361.out);have n5_ := Aside0.mk (Kd.S_drew HO366.out);have n6_ := Aside0.mk (Kd.S_drew HO369.out);have n7_ := Aside0.mk (blk_drew BK345.out);have n8_ := Aside0.mk (blk_drew BK346.out);have n9_ := Aside0.mk (blk_drew BK351.out);have n10_ := Aside0.mk (blk_drew BK356.out);have n11_ := Aside0.mk (blk_drew BK363.out);have n12_ := Aside0.mk (blk_drew BK371.out);have n13_ := Aside0.mk (below_drew1 HB.out);clear HO_346000 HO_347000 HO_352000 HO_357000 HO361 HO366 HO369 BK345 BK346 BK351 BK356 BK363 BK371 HB;have HO_346000 := n0_;have HO_347000 := n1_;have HO_352000 := n2_;have HO_357000 := n3_;have HO361 := n4_;have HO366 := n5_;have HO369 := n6_;have BK345 := n7_;have BK346 := n8_;have BK351 := n9_;have BK356 := n10_;have BK363 := n11_;have BK371 := n12_;have HB := n13_;clear n0_ n1_ n2_ n3_ n4_ n5_ n6_ n7_ n8_ n9_ n10_ n11_ n12_ n13_;refine start_ (n := 29) (S := fun w' => w'.cell? ⟨gb356, 0, none⟩ = some (.slice Ao25 t352.length co25) ∧ w'.cell? ⟨gb363, 0, none⟩ = some (.slice Ao227 t359.length co227)) (ds := []) laws_FnRoughJoin.D0 (by kernel_rfl) rfl rfl ⟨(blk_cell BK356.out 0).trans rfl, (blk_cell BK363.out 0).trans rfl⟩ (fun hHeld => ?_); refine with_tabW laws_FnRoughJoin.tab10 laws_FnRoughJoin.bits10 (fun HT_ HW_ => ?_)
         generalize w159.drew = w160 at HO_346000 HO_347000 HO_352000 HO_357000 HO361 HO366 HO369 BK345 BK346 BK351 BK356 BK363 BK371 HB hHeld ⊢
         refine take_ (i := 0) (N := some 66) (v := ?_) (a' := ?_) laws_FnRoughJoin.D1 rfl rfl (take_ofW HT_.out HW_.out (by kernel_rfl)) (fun _ _ _ h => h) (Or.inl ⟨by rfl, ?_⟩) hHeld ?_ ?_;rotate_left
         ·
          rintro w' ⟨s0, s1⟩
          go_simp
          with_reducible rfl
         rotate_left
         ·
          simp only [Act.put, List.setIfInBounds_toArray, List.set_cons_zero, List.set_cons_succ, i64_w, i32_w]
          rfl
         refine one_ (i := 1) (N := some 67) laws_FnRoughJoin.D2 rfl rfl (one_of HT_.out (by kernel_rfl)) (by decide) (fun K hK => ?_);refine goes_ Try.func17 (by kernel_rfl) rfl #[.agg #[.slice Ao25 t352.length co25]] (by rfl) rfl rfl q4_11 ?_
         with_reducible refine (impl_RoughOk.calls kj5 _ _ t352 true _ ?side1 ?side2 A63.out).mono ?_
         (case side1 => exact q4_16);(case side2 => exact (Kd.Q_reads' HO_357000.out).2.1);rintro e w161 ⟨rfl, hb⟩;refine ⟨_, rfl, ?_⟩;have n0_ := Aside0.mk (Kd.Q_below q4_7 hb);have n1_ := Aside0.mk (Kd.Q_below q4_8 hb);have n2_ := Aside0.mk (Kd.Q_below q4_9 hb);have n3_ := Aside0.mk (Kd.Q_below q4_10 hb);have n4_ := Aside0.mk (Kd.S_below q4_13 hb);have n5_ := Aside0.mk (Kd.S_below q4_15 hb);have n6_ := Aside0.mk (Kd.S_below q4_17 hb);have n7_ := Aside0.mk (blk_below (g := gb345) (o := .cells #[.slice Ao10 t339.length co10] 25 (0, 0)) q4_1 hb);have n8_ := Aside0.mk (blk_below (g := gb346) (o := .cells #[.slice Ao13 t342.length co13] 25 (0, 0)) q4_2 hb);have n9_ := Aside0.mk (blk_below (g := gb351) (o := .cells #[.slice Ao17 t347.length co17] 25 (0, 0)) q4_3 hb);have n10_ := Aside0.mk (blk_below (g := gb356) (o := .cells #[.slice Ao25 t352.length co25] 25 (0, 0)) q4_4 hb);have n11_ := Aside0.mk (blk_below (g := gb363) (o := .cells #[.slice Ao227 t359.length co227] 25 (0, 0)) q4_6 hb);have n12_ := Aside0.mk (blk_below (g := gb371) (o := .cells #[.slice Ao240 t367.length co240] 25 (0, 0)) q4_14 hb);have n13_ := Aside0.mk (below_step q4_0 hb);clear HO_346000 HO_347000 HO_352000 HO_357000 HO361 HO366 HO369 BK345 BK346 BK351 BK356 BK363 BK371 HB;have HO_346000 := n0_;have HO_347000 := n1_;have HO_352000 := n2_;have HO_357000 := n3_;have HO361 := n4_;have HO366 := n5_;have HO369 := n6_;have BK345 := n7_;have BK346 := n8_;have BK351 := n9_;have BK356 := n10_;have BK363 := n11_;have BK371 := n12_;have HB := n13_;clear n0_ n1_ n2_ n3_ n4_ n5_ n6_ n7_ n8_ n9_ n10_ n11_ n12_ n13_;(try clear hb);(try clear hb2);(try clear hk);(try clear hi);refine hK.out _ _ ⟨(blk_cell BK356.out 0).trans rfl, (blk_cell BK363.out 0).trans rfl⟩ (fun hHeld => ?_);clear hK K;refine norm_ (a' := ?_) ?_ ?_;rotate_left
         ·
          show Act.put _ (some 67) _ = _
          simp only [Act.put, List.setIfInBounds_toArray, List.set_cons_zero, List.set_cons_succ, i64_w, i32_w]
          rfl
         refine pure_ (i := 2) (N := some 68) (v := ?_) (a' := ?_) laws_FnRoughJoin.D3 rfl rfl (any_of HT_.out (by kernel_rfl)) (fun _ _ _ h => h) (Or.inl ⟨by rfl, ?_⟩) ?_ ?_;rotate_left
         ·
          intro w'
          go_simp
          with_reducible rfl
         rotate_left
         ·
          simp only [Act.put, List.setIfInBounds_toArray, List.set_cons_zero, List.set_cons_succ, i64_w, i32_w]
          rfl
         refine pure_ (i := 3) (N := some 69) (v := ?_) (a' := ?_) laws_FnRoughJoin.D4 rfl rfl (any_of HT_.out (by kernel_rfl)) (fun _ _ _ h => h) (Or.inl ⟨by rfl, ?_⟩) ?_ ?_;rotate_left
         ·
          intro w'
          go_simp
          with_reducible rfl
         rotate_left
         ·
          simp only [Act.put, List.setIfInBounds_toArray, List.set_cons_zero, List.set_cons_succ, i64_w, i32_w]
          rfl
         refine pure_ (i := 4) (N := some 70) (v := ?_) (a' := ?_) laws_FnRoughJoin.D5 rfl rfl (any_of HT_.out (by kernel_rfl)) (fun _ _ _ h => h) (Or.inl ⟨by rfl, ?_⟩) ?_ ?_;rotate_left
         ·
          intro w'
          go_simp
          with_reducible rfl
         rotate_left
         ·
          simp only [Act.put, List.setIfInBounds_toArray, List.set_cons_zero, List.set_cons_succ, i64_w, i32_w]
          rfl
         refine pure_ (i := 5) (N := some 71) (v := ?_) (a' := ?_) laws_FnRoughJoin.D6 rfl rfl (any_of HT_.out (by kernel_rfl)) (fun _ _ _ h => h) (Or.inl ⟨by rfl, ?_⟩) ?_ ?_;rotate_left
         ·
          intro w'
          go_simp
          with_reducible rfl
         rotate_left
         ·
          simp only [Act.put, List.setIfInBounds_toArray, List.set_cons_zero, List.set_cons_succ, i64_w, i32_w]
          rfl
         refine take_ (i := 6) (N := some 72) (v := ?_) (a' := ?_) laws_FnRoughJoin.D7 rfl rfl (take_ofW HT_.out HW_.out (by kernel_rfl)) (fun _ _ _ h => h) (Or.inl ⟨by rfl, ?_⟩) hHeld ?_ ?_;rotate_left
         ·
          rintro w' ⟨s0, s1⟩
          go_simp
          with_reducible rfl
         rotate_left
         ·
          simp only [Act.put, List.setIfInBounds_toArray, List.set_cons_zero, List.set_cons_succ, i64_w, i32_w]
          rfl
         refine take_ (i := 7) (N := some 73) (v := ?_) (a' := ?_) laws_FnRoughJoin.D8 rfl rfl (take_ofW HT_.out HW_.out (by kernel_rfl)) (fun _ _ _ h => h) (Or.inl ⟨by rfl, ?_⟩) hHeld ?_ ?_;rotate_left
         ·
          rintro w' ⟨s0, s1⟩
          go_simp
          with_reducible rfl
         rotate_left
         ·
          simp only [Act.put, List.setIfInBounds_toArray, List.set_cons_zero, List.set_cons_succ, i64_w, i32_w]
          rfl
         refine one_ (i := 8) (N := some 74) laws_FnRoughJoin.D9 rfl rfl (one_of HT_.out (by kernel_rfl)) (by decide) (fun K hK => ?_);refine goes_ Try.func15 (by kernel_rfl) rfl #[.agg #[.slice Ao227 t359.length co227], .agg #[.slice Ao25 t352.length co25]] (by rfl) rfl rfl q4_11 ?_
         with_reducible refine (laws_lkRough.calls kj5 _ _ t359 _ _ t352 true _ ?side1 ?side2 ?side3 ?side4 A66.out).mono ?_
         (case side1 => exact q4_33);(case side2 => exact (Kd.S_reads' HO361.out).2.1);(case side3 => exact q4_16);(case side4 => exact (Kd.Q_reads' HO_357000.out).2.1);rintro e w162 ⟨rfl, hb⟩;refine ⟨_, rfl, ?_⟩;have n0_ := Aside0.mk (Kd.Q_below q4_7 hb);have n1_ := Aside0.mk (Kd.Q_below q4_8 hb);have n2_ := Aside0.mk (Kd.Q_below q4_9 hb);have n3_ := Aside0.mk (Kd.Q_below q4_10 hb);have n4_ := Aside0.mk (Kd.S_below q4_13 hb);have n5_ := Aside0.mk (Kd.S_below q4_15 hb);have n6_ := Aside0.mk (Kd.S_below q4_17 hb);have n7_ := Aside0.mk (blk_below (g := gb345) (o := .cells #[.slice Ao10 t339.length co10] 25 (0, 0)) q4_1 hb);have n8_ := Aside0.mk (blk_below (g := gb346) (o := .cells #[.slice Ao13 t342.length co13] 25 (0, 0)) q4_2 hb);have n9_ := Aside0.mk (blk_below (g := gb351) (o := .cells #[.slice Ao17 t347.length co17] 25 (0, 0)) q4_3 hb);have n10_ := Aside0.mk (blk_below (g := gb356) (o := .cells #[.slice Ao25 t352.length co25] 25 (0, 0)) q4_4 hb);have n11_ := Aside0.mk (blk_below (g := gb363) (o := .cells #[.slice Ao227 t359.length co227] 25 (0, 0)) q4_6 hb);have n12_ := Aside0.mk (blk_below (g := gb371) (o := .cells #[.slice Ao240 t367.length co240] 25 (0, 0)) q4_14 hb);have n13_ := Aside0.mk (below_step q4_0 hb);clear HO_346000 HO_347000 HO_352000 HO_357000 HO361 HO366 HO369 BK345 BK346 BK351 BK356 BK363 BK371 HB;have HO_346000 := n0_;have HO_347000 := n1_;have HO_352000 := n2_;have HO_357000 := n3_;have HO361 := n4_;have HO366 := n5_;have HO369 := n6_;have BK345 := n7_;have BK346 := n8_;have BK351 := n9_;have BK356 := n10_;have BK363 := n11_;have BK371 := n12_;have HB := n13_;clear n0_ n1_ n2_ n3_ n4_ n5_ n6_ n7_ n8_ n9_ n10_ n11_ n12_ n13_;(try clear hb);(try clear hb2);(try clear hk);(try clear hi);refine hK.out _ _ ⟨(blk_cell BK356.out 0).trans rfl, (blk_cell BK363.out 0).trans rfl⟩ (fun hHeld => ?_);clear hK K;refine norm_ (a' := ?_) ?_ ?_;rotate_left
         ·
          show Act.put _ (some 74) _ = _
          simp only [Act.put, List.setIfInBounds_toArray, List.set_cons_zero, List.set_cons_succ, i64_w, i32_w]
          rfl
         refine pure_ (i := 9) (N := some 75) (v := ?_) (a' := ?_) laws_FnRoughJoin.D10 rfl rfl (any_of HT_.out (by kernel_rfl)) (fun _ _ _ h => h) (Or.inl ⟨by rfl, ?_⟩) ?_ ?_;rotate_left
         ·
          intro w'
          go_simp
          with_reducible rfl
         rotate_left
         ·
          simp only [Act.put, List.setIfInBounds_toArray, List.set_cons_zero, List.set_cons_succ, i64_w, i32_w]
          rfl
         refine pure_ (i := 10) (N := some 76) (v := ?_) (a' := ?_) laws_FnRoughJoin.D11 rfl rfl (any_of HT_.out (by kernel_rfl)) (fun _ _ _ h => h) (Or.inl ⟨by rfl, ?_⟩) ?_ ?_;rotate_left
         ·
          intro w'
          go_simp
          with_reducible rfl
         rotate_left
         ·
          simp only [Act.put, List.setIfInBounds_toArray, List.set_cons_zero, List.set_cons_succ, i64_w, i32_w]
          rfl
         refine pure_ (i := 11) (N := some 77) (v := ?_) (a' := ?_) laws_FnRoughJoin.D12 rfl rfl (any_of HT_.out (by kernel_rfl)) (fun _ _ _ h => h) (Or.inl ⟨by rfl, ?_⟩) ?_ ?_;rotate_left
         ·
          intro w'
          go_simp
          with_reducible rfl
         rotate_left
         ·
          simp only [Act.put, List.setIfInBounds_toArray, List.set_cons_zero, List.set_cons_succ, i64_w, i32_w]
          rfl
         refine pure_ (i := 12) (N := some 78) (v := ?_) (a' := ?_) laws_FnRoughJoin.D13 rfl rfl (any_of HT_.out (by kernel_rfl)) (fun _ _ _ h => h) (Or.inl ⟨by rfl, ?_⟩) ?_ ?_;rotate_left
         ·
          intro w'
          go_simp
          with_reducible rfl
         rotate_left
         ·
          simp only [Act.put, List.setIfInBounds_toArray, List.set_cons_zero, List.set_cons_succ, i64_w, i32_w]
          rfl
         refine pure_ (i := 13) (N := some 79) (v := ?_) (a' := ?_) laws_FnRoughJoin.D14 rfl rfl (any_of HT_.out (by kernel_rfl)) (fun _ _ _ h => h) (Or.inl ⟨by rfl, ?_⟩) ?_ ?_;rotate_left
         ·
          intro w'
          go_simp
          with_reducible rfl
         rotate_left
         ·
          simp only [Act.put, List.setIfInBounds_toArray, List.set_cons_zero, List.set_cons_succ, i64_w, i32_w]
          rfl
         refine pure_ (i := 14) (N := some 80) (v := undef) (a' := ?_) laws_FnRoughJoin.D15 rfl rfl (any_of HT_.out (by kernel_rfl)) (fun _ _ _ h => h) (Or.inr ⟨by rfl, rfl⟩) ?_ ?_;rotate_left
         ·
          simp only [Act.put, List.setIfInBounds_toArray, List.set_cons_zero, List.set_cons_succ, i64_w, i32_w]
          rfl
         refine pure_ (i := 15) (N := some 81) (v := undef) (a' := ?_) laws_FnRoughJoin.D16 rfl rfl (any_of HT_.out (by kernel_rfl)) (fun _ _ _ h => h) (Or.inr ⟨by rfl, rfl⟩) ?_ ?_;rotate_left
         ·
          simp only [Act.put, List.setIfInBounds_toArray, List.set_cons_zero, List.set_cons_succ, i64_w, i32_w]
          rfl
         refine pure_ (i := 16) (N := some 82) (v := undef) (a' := ?_) laws_FnRoughJoin.D17 rfl rfl (any_of HT_.out (by kernel_rfl)) (fun _ _ _ h => h) (Or.inr ⟨by rfl, rfl⟩) ?_ ?_;rotate_left
         ·
          simp only [Act.put, List.setIfInBounds_toArray, List.set_cons_zero, List.set_cons_succ, i64_w, i32_w]
          rfl
         refine pure_ (i := 17) (N := some 83) (v := ?_) (a' := ?_) laws_FnRoughJoin.D18 rfl rfl (any_of HT_.out (by kernel_rfl)) (fun _ _ _ h => h) (Or.inl ⟨by rfl, ?_⟩) ?_ ?_;rotate_left
         ·
          intro w'
          go_simp
          with_reducible rfl
         rotate_left
         ·
          simp only [Act.put, List.setIfInBounds_toArray, List.set_cons_zero, List.set_cons_succ, i64_w, i32_w]
          rfl
         refine pure_ (i := 18) (N := some 84) (v := ?_) (a' := ?_) laws_FnRoughJoin.D19 rfl rfl (any_of HT_.out (by kernel_rfl)) (fun _ _ _ h => h) (Or.inl ⟨by rfl, ?_⟩) ?_ ?_;rotate_left
         ·
          intro w'
          go_simp
          with_reducible rfl
         rotate_left
         ·
          simp only [Act.put, List.setIfInBounds_toArray, List.set_cons_zero, List.set_cons_succ, i64_w, i32_w]
          rfl
         refine pure_ (i := 19) (N := some 85) (v := undef) (a' := ?_) laws_FnRoughJoin.D20 rfl rfl (any_of HT_.out (by kernel_rfl)) (fun _ _ _ h => h) (Or.inr ⟨by rfl, rfl⟩) ?_ ?_;rotate_left
         ·
          simp only [Act.put, List.setIfInBounds_toArray, List.set_cons_zero, List.set_cons_succ, i64_w, i32_w]
          rfl
         refine pure_ (i := 20) (N := some 86) (v := undef) (a' := ?_) laws_FnRoughJoin.D30 rfl rfl (any_of HT_.out (by kernel_rfl)) (fun _ _ _ h => h) (Or.inr ⟨by rfl, rfl⟩) ?_ ?_;rotate_left
         ·
          simp only [Act.put, List.setIfInBounds_toArray, List.set_cons_zero, List.set_cons_succ, i64_w, i32_w]
          rfl
         refine pure_ (i := 21) (N := some 87) (v := undef) (a' := ?_) laws_FnRoughJoin.D31 rfl rfl (any_of HT_.out (by kernel_rfl)) (fun _ _ _ h => h) (Or.inr ⟨by rfl, rfl⟩) ?_ ?_;rotate_left
         ·
          simp only [Act.put, List.setIfInBounds_toArray, List.set_cons_zero, List.set_cons_succ, i64_w, i32_w]
          rfl
         refine pure_ (i := 22) (N := some 88) (v := undef) (a' := ?_) laws_FnRoughJoin.D32 rfl rfl (any_of HT_.out (by kernel_rfl)) (fun _ _ _ h => h) (Or.inr ⟨by rfl, rfl⟩) ?_ ?_;rotate_left
         ·
          simp only [Act.put, List.setIfInBounds_toArray, List.set_cons_zero, List.set_cons_succ, i64_w, i32_w]
          rfl
         refine pure_ (i := 23) (N := some 89) (v := undef) (a' := ?_) laws_FnRoughJoin.D24 rfl rfl (any_of HT_.out (by kernel_rfl)) (fun _ _ _ h => h) (Or.inr ⟨by rfl, rfl⟩) ?_ ?_;rotate_left
         ·
          simp only [Act.put, List.setIfInBounds_toArray, List.set_cons_zero, List.set_cons_succ, i64_w, i32_w]
          rfl
         refine pure_ (i := 24) (N := some 90) (v := undef) (a' := ?_) laws_FnRoughJoin.D25 rfl rfl (any_of HT_.out (by kernel_rfl)) (fun _ _ _ h => h) (Or.inr ⟨by rfl, rfl⟩) ?_ ?_;rotate_left
         ·
          simp only [Act.put, List.setIfInBounds_toArray, List.set_cons_zero, List.set_cons_succ, i64_w, i32_w]
          rfl
         refine pure_ (i := 25) (N := some 91) (v := undef) (a' := ?_) laws_FnRoughJoin.D26 rfl rfl (any_of HT_.out (by kernel_rfl)) (fun _ _ _ h => h) (Or.inr ⟨by rfl, rfl⟩) ?_ ?_;rotate_left
         ·
          simp only [Act.put, List.setIfInBounds_toArray, List.set_cons_zero, List.set_cons_succ, i64_w, i32_w]
          rfl
         refine pure_ (i := 26) (N := some 92) (v := undef) (a' := ?_) laws_FnRoughJoin.D27 rfl rfl (any_of HT_.out (by kernel_rfl)) (fun _ _ _ h => h) (Or.inr ⟨by rfl, rfl⟩) ?_ ?_;rotate_left
         ·
          simp only [Act.put, List.setIfInBounds_toArray, List.set_cons_zero, List.set_cons_succ, i64_w, i32_w]
          rfl
         refine pure_ (i := 27) (N := some 93) (v := ?_) (a' := ?_) laws_FnRoughJoin.D28 rfl rfl (any_of HT_.out (by kernel_rfl)) (fun _ _ _ h => h) (Or.inl ⟨by rfl, ?_⟩) ?_ ?_;rotate_left
         ·
          intro w'
          go_simp
          with_reducible rfl
         rotate_left
         ·
          simp only [Act.put, List.setIfInBounds_toArray, List.set_cons_zero, List.set_cons_succ, i64_w, i32_w]
          rfl
         refine pure_ (i := 28) (N := some 2) (v := ?_) (a' := ?_) laws_FnRoughJoin.D29 rfl rfl (any_of HT_.out (by kernel_rfl)) (fun _ _ _ h => h) (Or.inl ⟨by rfl, ?_⟩) ?_ ?_;rotate_left
         ·
          intro w'
          go_simp
          with_reducible rfl
         rotate_left
         ·
          simp only [Act.put, List.setIfInBounds_toArray, List.set_cons_zero, List.set_cons_succ, i64_w, i32_w]
          rfl
         refine done_ (done_of HT_.out (by kernel_rfl)) ?_
         try go_wp2
         go_ret
         exact ⟨q4_26, q4_0⟩
       ·
        replace c67 := Bool.eq_false_iff.mpr c67
        subst c67
        have H1 : (some false) = some r := by rw [if_neg (show ¬ (false = true) by decide)] at H; exact H
        clear H;have H := H1;clear H1
        obtain rfl := Option.some.inj H
        try go_wp2
        have n0_ : Aside0 (Kd.Q (Kd.slice 3 (Kd.int .i64)) 43 (w239.setCell ⟨gb371, 0, none⟩ (.slice Ao240 t367.length co240)) w.heap.size (fun k_ => some k_ ≠ (.slice Ao13 t342.length co13 : Value).ownBlock ∧ some k_ ≠ (.slice Ao17 t347.length co17 : Value).ownBlock ∧ some k_ ≠ (.slice Ao25 t352.length co25 : Value).ownBlock ∧ some k_ ≠ (.slice Ao227 t359.length co227 : Value).ownBlock ∧ some k_ ≠ (v365 : Value).ownBlock ∧ some k_ ≠ (.slice Ao240 t367.length co240 : Value).ownBlock) (.slice Ao10 t339.length co10) t339) := ⟨by (with_reducible repeat (first | apply Kd.Q_alloc | apply Kd.Q_drewN | apply Kd.Q_drew)); exact Kd.Q_mono (Kd.Q_far (p := ⟨gb371, 0, none⟩) (Kd.Q_types HO_346000.out BK371.out (by decide)) (fun _ hk => hk.2) (.slice Ao240 t367.length co240)) (fun _ hk => ⟨hk.1.2.2.2.1, ⟨hk.1.2.2.2.2.1, ⟨hk.1.2.2.2.2.2, ⟨hk.1.1, ⟨hk.1.2.1, hk.1.2.2.1⟩⟩⟩⟩⟩)⟩
        have n1_ : Aside0 (Kd.Q (Kd.slice 3 (Kd.int .i64)) 43 (w239.setCell ⟨gb371, 0, none⟩ (.slice Ao240 t367.length co240)) w.heap.size (fun k_ => some k_ ≠ (.slice Ao10 t339.length co10 : Value).ownBlock ∧ some k_ ≠ (.slice Ao17 t347.length co17 : Value).ownBlock ∧ some k_ ≠ (.slice Ao25 t352.length co25 : Value).ownBlock ∧ some k_ ≠ (.slice Ao227 t359.length co227 : Value).ownBlock ∧ some k_ ≠ (v365 : Value).ownBlock ∧ some k_ ≠ (.slice Ao240 t367.length co240 : Value).ownBlock) (.slice Ao13 t342.length co13) t342) := ⟨by (with_reducible repeat (first | apply Kd.Q_alloc | apply Kd.Q_drewN | apply Kd.Q_drew)); exact Kd.Q_mono (Kd.Q_far (p := ⟨gb371, 0, none⟩) (Kd.Q_types HO_347000.out BK371.out (by decide)) (fun _ hk => hk.2) (.slice Ao240 t367.length co240)) (fun _ hk => ⟨hk.1.2.2.2.1, ⟨hk.1.2.2.2.2.1, ⟨hk.1.2.2.2.2.2, ⟨hk.1.1, ⟨hk.1.2.1, hk.1.2.2.1⟩⟩⟩⟩⟩)⟩
        have n2_ : Aside0 (Kd.Q (Kd.slice 3 (Kd.int .i64)) 43 (w239.setCell ⟨gb371, 0, none⟩ (.slice Ao240 t367.length co240)) w.heap.size (fun k_ => some k_ ≠ (.slice Ao10 t339.length co10 : Value).ownBlock ∧ some k_ ≠ (.slice Ao13 t342.length co13 : Value).ownBlock ∧ some k_ ≠ (.slice Ao25 t352.length co25 : Value).ownBlock ∧ some k_ ≠ (.slice Ao227 t359.length co227 : Value).ownBlock ∧ some k_ ≠ (v365 : Value).ownBlock ∧ some k_ ≠ (.slice Ao240 t367.length co240 : Value).ownBlock) (.slice Ao17 t347.length co17) t347) := ⟨by (with_reducible repeat (first | apply Kd.Q_alloc | apply Kd.Q_drewN | apply Kd.Q_drew)); exact Kd.Q_mono (Kd.Q_far (p := ⟨gb371, 0, none⟩) (Kd.Q_types HO_352000.out BK371.out (by decide)) (fun _ hk => hk.2) (.slice Ao240 t367.length co240)) (fun _ hk => ⟨hk.1.2.2.2.1, ⟨hk.1.2.2.2.2.1, ⟨hk.1.2.2.2.2.2, ⟨hk.1.1, ⟨hk.1.2.1, hk.1.2.2.1⟩⟩⟩⟩⟩)⟩
        have n3_ : Aside0 (Kd.Q (Kd.slice 3 (Kd.int .i64)) 43 (w239.setCell ⟨gb371, 0, none⟩ (.slice Ao240 t367.length co240)) w.heap.size (fun k_ => some k_ ≠ (.slice Ao10 t339.length co10 : Value).ownBlock ∧ some k_ ≠ (.slice Ao13 t342.length co13 : Value).ownBlock ∧ some k_ ≠ (.slice Ao17 t347.length co17 : Value).ownBlock ∧ some k_ ≠ (.slice Ao227 t359.length co227 : Value).ownBlock ∧ some k_ ≠ (v365 : Value).ownBlock ∧ some k_ ≠ (.slice Ao240 t367.length co240 : Value).ownBlock) (.slice Ao25 t352.length co25) t352) := ⟨by (with_reducible repeat (first | apply Kd.Q_alloc | apply Kd.Q_drewN | apply Kd.Q_drew)); exact Kd.Q_mono (Kd.Q_far (p := ⟨gb371, 0, none⟩) (Kd.Q_types HO_357000.out BK371.out (by decide)) (fun _ hk => hk.2) (.slice Ao240 t367.length co240)) (fun _ hk => ⟨hk.1.2.2.2.1, ⟨hk.1.2.2.2.2.1, ⟨hk.1.2.2.2.2.2, ⟨hk.1.1, ⟨hk.1.2.1, hk.1.2.2.1⟩⟩⟩⟩⟩)⟩
        have n4_ : Aside0 (Kd.S (Kd.slice 3 (Kd.int .i64)) 43 (w239.setCell ⟨gb371, 0, none⟩ (.slice Ao240 t367.length co240)) w.heap.size (fun k_ => some k_ ≠ (.slice Ao10 t339.length co10 : Value).ownBlock ∧ some k_ ≠ (.slice Ao13 t342.length co13 : Value).ownBlock ∧ some k_ ≠ (.slice Ao17 t347.length co17 : Value).ownBlock ∧ some k_ ≠ (.slice Ao25 t352.length co25 : Value).ownBlock ∧ some k_ ≠ (v365 : Value).ownBlock ∧ some k_ ≠ (.slice Ao240 t367.length co240 : Value).ownBlock) (.slice Ao227 t359.length co227) t359) := ⟨by (with_reducible repeat (first | apply Kd.S_alloc | apply Kd.S_drewN | apply Kd.S_drew)); exact Kd.S_mono (Kd.S_far (p := ⟨gb371, 0, none⟩) (Kd.S_types HO361.out BK371.out (by decide)) (fun _ hk => hk.2) (.slice Ao240 t367.length co240)) (fun _ hk => ⟨hk.1.2.2.1, ⟨hk.1.2.2.2.1, ⟨hk.1.2.2.2.2.1, ⟨hk.1.2.2.2.2.2, ⟨hk.1.1, hk.1.2.1⟩⟩⟩⟩⟩)⟩
        have n5_ : Aside0 (Kd.S (Kd.slice 3 (Kd.int .i64)) 43 (w239.setCell ⟨gb371, 0, none⟩ (.slice Ao240 t367.length co240)) w.heap.size (fun k_ => some k_ ≠ (.slice Ao10 t339.length co10 : Value).ownBlock ∧ some k_ ≠ (.slice Ao13 t342.length co13 : Value).ownBlock ∧ some k_ ≠ (.slice Ao17 t347.length co17 : Value).ownBlock ∧ some k_ ≠ (.slice Ao25 t352.length co25 : Value).ownBlock ∧ some k_ ≠ (.slice Ao227 t359.length co227 : Value).ownBlock ∧ some k_ ≠ (.slice Ao240 t367.length co240 : Value).ownBlock) v365 t364) := ⟨by (with_reducible repeat (first | apply Kd.S_alloc | apply Kd.S_drewN | apply Kd.S_drew)); exact Kd.S_mono (Kd.S_far (p := ⟨gb371, 0, none⟩) (Kd.S_types HO366.out BK371.out (by decide)) (fun _ hk => hk.2) (.slice Ao240 t367.length co240)) (fun _ hk => ⟨hk.1.2.2.1, ⟨hk.1.2.2.2.1, ⟨hk.1.2.2.2.2.1, ⟨hk.1.2.2.2.2.2, ⟨hk.1.1, hk.1.2.1⟩⟩⟩⟩⟩)⟩
        have n6_ : Aside0 (Kd.S (Kd.slice 3 (Kd.int .i64)) 43 (w239.setCell ⟨gb371, 0, none⟩ (.slice Ao240 t367.length co240)) w.heap.size (fun k_ => some k_ ≠ (.slice Ao10 t339.length co10 : Value).ownBlock ∧ some k_ ≠ (.slice Ao13 t342.length co13 : Value).ownBlock ∧ some k_ ≠ (.slice Ao17 t347.length co17 : Value).ownBlock ∧ some k_ ≠ (.slice Ao25 t352.length co25 : Value).ownBlock ∧ some k_ ≠ (.slice Ao227 t359.length co227 : Value).ownBlock ∧ some k_ ≠ (v365 : Value).ownBlock) (.slice Ao240 t367.length co240) t367) := ⟨by (with_reducible repeat (first | apply Kd.S_alloc | apply Kd.S_drewN | apply Kd.S_drew)); exact Kd.S_mono (Kd.S_far (p := ⟨gb371, 0, none⟩) (Kd.S_types HO369.out BK371.out (by decide)) (fun _ hk => hk.2) (.slice Ao240 t367.length co240)) (fun _ hk => ⟨hk.1.2.2.1, ⟨hk.1.2.2.2.1, ⟨hk.1.2.2.2.2.1, ⟨hk.1.2.2.2.2.2, ⟨hk.1.1, hk.1.2.1⟩⟩⟩⟩⟩)⟩
        have n7_ : Aside0 ((w239.setCell ⟨gb371, 0, none⟩ (.slice Ao240 t367.length co240)).heap[gb345]? = some (.cells #[.slice Ao10 t339.length co10] 25 (0, 0))) := ⟨by (with_reducible repeat (first | refine blk_drewN ?_ _ | refine blk_drew ?_ | refine blk_alloc ?_ _)); refine blk_far ?_ NB345_371.out _; (with_reducible repeat (first | refine blk_drewN ?_ _ | refine blk_drew ?_ | refine blk_alloc ?_ _)); exact BK345.out⟩
        have n8_ : Aside0 ((w239.setCell ⟨gb371, 0, none⟩ (.slice Ao240 t367.length co240)).heap[gb346]? = some (.cells #[.slice Ao13 t342.length co13] 25 (0, 0))) := ⟨by (with_reducible repeat (first | refine blk_drewN ?_ _ | refine blk_drew ?_ | refine blk_alloc ?_ _)); refine blk_far ?_ NB346_371.out _; (with_reducible repeat (first | refine blk_drewN ?_ _ | refine blk_drew ?_ | refine blk_alloc ?_ _)); exact BK346.out⟩
        have n9_ : Aside0 ((w239.setCell ⟨gb371, 0, none⟩ (.slice Ao240 t367.length co240)).heap[gb351]? = some (.cells #[.slice Ao17 t347.length co17] 25 (0, 0))) := ⟨by (with_reducible repeat (first | refine blk_drewN ?_ _ | refine blk_drew ?_ | refine blk_alloc ?_ _)); refine blk_far ?_ NB351_371.out _; (with_reducible repeat (first | refine blk_drewN ?_ _ | refine blk_drew ?_ | refine blk_alloc ?_ _)); exact BK351.out⟩
        have n10_ : Aside0 ((w239.setCell ⟨gb371, 0, none⟩ (.slice Ao240 t367.length co240)).heap[gb356]? = some (.cells #[.slice Ao25 t352.length co25] 25 (0, 0))) := ⟨by (with_reducible repeat (first | refine blk_drewN ?_ _ | refine blk_drew ?_ | refine blk_alloc ?_ _)); refine blk_far ?_ NB356_371.out _; (with_reducible repeat (first | refine blk_drewN ?_ _ | refine blk_drew ?_ | refine blk_alloc ?_ _)); exact BK356.out⟩
        have n11_ : Aside0 ((w239.setCell ⟨gb371, 0, none⟩ (.slice Ao240 t367.length co240)).heap[gb363]? = some (.cells #[.slice Ao227 t359.length co227] 25 (0, 0))) := ⟨by (with_reducible repeat (first | refine blk_drewN ?_ _ | refine blk_drew ?_ | refine blk_alloc ?_ _)); refine blk_far ?_ NB363_371.out _; (with_reducible repeat (first | refine blk_drewN ?_ _ | refine blk_drew ?_ | refine blk_alloc ?_ _)); exact BK363.out⟩
        have n12_ : Aside0 ((w239.setCell ⟨gb371, 0, none⟩ (.slice Ao240 t367.length co240)).heap[gb371]? = some (.cells #[.slice Ao240 t367.length co240] 25 (0, 0))) := ⟨by (with_reducible repeat (first | refine blk_drewN ?_ _ | refine blk_drew ?_ | refine blk_alloc ?_ _)); refine blk_put (cs := #[.slice none 0 0]) ?_ 0 _ rfl; (with_reducible repeat (first | refine blk_drewN ?_ _ | refine blk_drew ?_ | refine blk_alloc ?_ _)); exact BK371.out⟩
        have n13_ : Aside0 (Below w.heap.size w (w239.setCell ⟨gb371, 0, none⟩ (.slice Ao240 t367.length co240))) := ⟨q4_0⟩
        (try clear HO_346000);(try clear HO_347000);(try clear HO_352000);(try clear HO_357000);(try clear HO361);(try clear HO366);(try clear HO369);(try clear BK345);(try clear BK346);(try clear BK351);(try clear BK356);(try clear BK363);(try clear BK371);(try clear HB)
        generalize (w239.setCell ⟨gb371, 0, none⟩ (.slice Ao240 t367.length co240)) = w187 at n0_ n1_ n2_ n3_ n4_ n5_ n6_ n7_ n8_ n9_ n10_ n11_ n12_ n13_ ⊢
        have HO_346000 := n0_;have HO_347000 := n1_;have HO_352000 := n2_;have HO_357000 := n3_;have HO361 := n4_;have HO366 := n5_;have HO369 := n6_;have BK345 := n7_;have BK346 := n8_;have BK351 := n9_;have BK356 := n10_;have BK363 := n11_;have BK371 := n12_;have HB := n13_;clear n0_ n1_ n2_ n3_ n4_ n5_ n6_ n7_ n8_ n9_ n10_ n11_ n12_ n13_;have n0_ := Aside0.mk (Kd.Q_drew HO_346000.out);have n1_ := Aside0.mk (Kd.Q_drew HO_347000.out);have n2_ := Aside0.mk (Kd.Q_drew HO_352000.out);have n3_ := Aside0.mk (Kd.Q_drew HO_357000.out);have n4_ := Aside0.mk (Kd.S_drew HO361.out);have n5_ := Aside0.mk (Kd.S_drew HO366.out);have n6_ := Aside0.mk (Kd.S_drew HO369.out);have n7_ := Aside0.mk (blk_drew BK345.out);have n8_ := Aside0.mk (blk_drew BK346.out);have n9_ := Aside0.mk (blk_drew BK351.out);have n10_ := Aside0.mk (blk_drew BK356.out);have n11_ := Aside0.mk (blk_drew BK363.out);have n12_ := Aside0.mk (blk_drew BK371.out);have n13_ := Aside0.mk (below_drew1 HB.out);clear HO_346000 HO_347000 HO_352000 HO_357000 HO361 HO366 HO369 BK345 BK346 BK351 BK356 BK363 BK371 HB;have HO_346000 := n0_;have HO_347000 := n1_;have HO_352000 := n2_;have HO_357000 := n3_;have HO361 := n4_;have HO366 := n5_;have HO369 := n6_;have BK345 := n7_;have BK346 := n8_;have BK351 := n9_;have BK356 := n10_;have BK363 := n11_;have BK371 := n12_;have HB := n13_;clear n0_ n1_ n2_ n3_ n4_ n5_ n6_ n7_ n8_ n9_ n10_ n11_ n12_ n13_;refine start_ (n := 29) (S := fun w' => w'.cell? ⟨gb356, 0, none⟩ = some (.slice Ao25 t352.length co25) ∧ w'.cell? ⟨gb363, 0, none⟩ = some (.slice Ao227 t359.length co227)) (ds := []) laws_FnRoughJoin.D0 (by kernel_rfl) rfl rfl ⟨(blk_cell BK356.out 0).trans rfl, (blk_cell BK363.out 0).trans rfl⟩ (fun hHeld => ?_); refine with_tabW laws_FnRoughJoin.tab10 laws_FnRoughJoin.bits10 (fun HT_ HW_ => ?_)
        generalize w187.drew = w188 at HO_346000 HO_347000 HO_352000 HO_357000 HO361 HO366 HO369 BK345 BK346 BK351 BK356 BK363 BK371 HB hHeld ⊢
        refine take_ (i := 0) (N := some 66) (v := ?_) (a' := ?_) laws_FnRoughJoin.D1 rfl rfl (take_ofW HT_.out HW_.out (by kernel_rfl)) (fun _ _ _ h => h) (Or.inl ⟨by rfl, ?_⟩) hHeld ?_ ?_;rotate_left
        ·
         rintro w' ⟨s0, s1⟩
         go_simp
         with_reducible rfl
        rotate_left
        ·
         simp only [Act.put, List.setIfInBounds_toArray, List.set_cons_zero, List.set_cons_succ, i64_w, i32_w]
         rfl
        refine one_ (i := 1) (N := some 67) laws_FnRoughJoin.D2 rfl rfl (one_of HT_.out (by kernel_rfl)) (by decide) (fun K hK => ?_);refine goes_ Try.func17 (by kernel_rfl) rfl #[.agg #[.slice Ao25 t352.length co25]] (by rfl) rfl rfl q4_11 ?_
        with_reducible refine (impl_RoughOk.calls kj5 _ _ t352 true _ ?side1 ?side2 A63.out).mono ?_
        (case side1 => exact q4_16);(case side2 => exact (Kd.Q_reads' HO_357000.out).2.1);rintro e w189 ⟨rfl, hb⟩;refine ⟨_, rfl, ?_⟩;have n0_ := Aside0.mk (Kd.Q_below q4_7 hb);have n1_ := Aside0.mk (Kd.Q_below q4_8 hb);have n2_ := Aside0.mk (Kd.Q_below q4_9 hb);have n3_ := Aside0.mk (Kd.Q_below q4_10 hb);have n4_ := Aside0.mk (Kd.S_below q4_13 hb);have n5_ := Aside0.mk (Kd.S_below q4_15 hb);have n6_ := Aside0.mk (Kd.S_below q4_17 hb);have n7_ := Aside0.mk (blk_below (g := gb345) (o := .cells #[.slice Ao10 t339.length co10] 25 (0, 0)) q4_1 hb);have n8_ := Aside0.mk (blk_below (g := gb346) (o := .cells #[.slice Ao13 t342.length co13] 25 (0, 0)) q4_2 hb);have n9_ := Aside0.mk (blk_below (g := gb351) (o := .cells #[.slice Ao17 t347.length co17] 25 (0, 0)) q4_3 hb);have n10_ := Aside0.mk (blk_below (g := gb356) (o := .cells #[.slice Ao25 t352.length co25] 25 (0, 0)) q4_4 hb);have n11_ := Aside0.mk (blk_below (g := gb363) (o := .cells #[.slice Ao227 t359.length co227] 25 (0, 0)) q4_6 hb);have n12_ := Aside0.mk (blk_below (g := gb371) (o := .cells #[.slice Ao240 t367.length co240] 25 (0, 0)) q4_14 hb);have n13_ := Aside0.mk (below_step q4_0 hb);clear HO_346000 HO_347000 HO_352000 HO_357000 HO361 HO366 HO369 BK345 BK346 BK351 BK356 BK363 BK371 HB;have HO_346000 := n0_;have HO_347000 := n1_;have HO_352000 := n2_;have HO_357000 := n3_;have HO361 := n4_;have HO366 := n5_;have HO369 := n6_;have BK345 := n7_;have BK346 := n8_;have BK351 := n9_;have BK356 := n10_;have BK363 := n11_;have BK371 := n12_;have HB := n13_;clear n0_ n1_ n2_ n3_ n4_ n5_ n6_ n7_ n8_ n9_ n10_ n11_ n12_ n13_;(try clear hb);(try clear hb2);(try clear hk);(try clear hi);refine hK.out _ _ ⟨(blk_cell BK356.out 0).trans rfl, (blk_cell BK363.out 0).trans rfl⟩ (fun hHeld => ?_);clear hK K;refine norm_ (a' := ?_) ?_ ?_;rotate_left
        ·
         show Act.put _ (some 67) _ = _
         simp only [Act.put, List.setIfInBounds_toArray, List.set_cons_zero, List.set_cons_succ, i64_w, i32_w]
         rfl
        refine pure_ (i := 2) (N := some 68) (v := ?_) (a' := ?_) laws_FnRoughJoin.D3 rfl rfl (any_of HT_.out (by kernel_rfl)) (fun _ _ _ h => h) (Or.inl ⟨by rfl, ?_⟩) ?_ ?_;rotate_left
        ·
         intro w'
         go_simp
         with_reducible rfl
        rotate_left
        ·
         simp only [Act.put, List.setIfInBounds_toArray, List.set_cons_zero, List.set_cons_succ, i64_w, i32_w]
         rfl
        refine pure_ (i := 3) (N := some 69) (v := ?_) (a' := ?_) laws_FnRoughJoin.D4 rfl rfl (any_of HT_.out (by kernel_rfl)) (fun _ _ _ h => h) (Or.inl ⟨by rfl, ?_⟩) ?_ ?_;rotate_left
        ·
         intro w'
         go_simp
         with_reducible rfl
        rotate_left
        ·
         simp only [Act.put, List.setIfInBounds_toArray, List.set_cons_zero, List.set_cons_succ, i64_w, i32_w]
         rfl
        refine pure_ (i := 4) (N := some 70) (v := ?_) (a' := ?_) laws_FnRoughJoin.D5 rfl rfl (any_of HT_.out (by kernel_rfl)) (fun _ _ _ h => h) (Or.inl ⟨by rfl, ?_⟩) ?_ ?_;rotate_left
        ·
         intro w'
         go_simp
         with_reducible rfl
        rotate_left
        ·
         simp only [Act.put, List.setIfInBounds_toArray, List.set_cons_zero, List.set_cons_succ, i64_w, i32_w]
         rfl
        refine pure_ (i := 5) (N := some 71) (v := ?_) (a' := ?_) laws_FnRoughJoin.D6 rfl rfl (any_of HT_.out (by kernel_rfl)) (fun _ _ _ h => h) (Or.inl ⟨by rfl, ?_⟩) ?_ ?_;rotate_left
        ·
         intro w'
         go_simp
         with_reducible rfl
        rotate_left
        ·
         simp only [Act.put, List.setIfInBounds_toArray, List.set_cons_zero, List.set_cons_succ, i64_w, i32_w]
         rfl
        refine take_ (i := 6) (N := some 72) (v := ?_) (a' := ?_) laws_FnRoughJoin.D7 rfl rfl (take_ofW HT_.out HW_.out (by kernel_rfl)) (fun _ _ _ h => h) (Or.inl ⟨by rfl, ?_⟩) hHeld ?_ ?_;rotate_left
        ·
         rintro w' ⟨s0, s1⟩
         go_simp
         with_reducible rfl
        rotate_left
        ·
         simp only [Act.put, List.setIfInBounds_toArray, List.set_cons_zero, List.set_cons_succ, i64_w, i32_w]
         rfl
        refine take_ (i := 7) (N := some 73) (v := ?_) (a' := ?_) laws_FnRoughJoin.D8 rfl rfl (take_ofW HT_.out HW_.out (by kernel_rfl)) (fun _ _ _ h => h) (Or.inl ⟨by rfl, ?_⟩) hHeld ?_ ?_;rotate_left
        ·
         rintro w' ⟨s0, s1⟩
         go_simp
         with_reducible rfl
        rotate_left
        ·
         simp only [Act.put, List.setIfInBounds_toArray, List.set_cons_zero, List.set_cons_succ, i64_w, i32_w]
         rfl
        refine one_ (i := 8) (N := some 74) laws_FnRoughJoin.D9 rfl rfl (one_of HT_.out (by kernel_rfl)) (by decide) (fun K hK => ?_);refine goes_ Try.func15 (by kernel_rfl) rfl #[.agg #[.slice Ao227 t359.length co227], .agg #[.slice Ao25 t352.length co25]] (by rfl) rfl rfl q4_11 ?_
        with_reducible refine (laws_lkRough.calls kj5 _ _ t359 _ _ t352 false _ ?side1 ?side2 ?side3 ?side4 A66.out).mono ?_
        (case side1 => exact q4_33);(case side2 => exact (Kd.S_reads' HO361.out).2.1);(case side3 => exact q4_16);(case side4 => exact (Kd.Q_reads' HO_357000.out).2.1);rintro e w190 ⟨rfl, hb⟩;refine ⟨_, rfl, ?_⟩;have n0_ := Aside0.mk (Kd.Q_below q4_7 hb);have n1_ := Aside0.mk (Kd.Q_below q4_8 hb);have n2_ := Aside0.mk (Kd.Q_below q4_9 hb);have n3_ := Aside0.mk (Kd.Q_below q4_10 hb);have n4_ := Aside0.mk (Kd.S_below q4_13 hb);have n5_ := Aside0.mk (Kd.S_below q4_15 hb);have n6_ := Aside0.mk (Kd.S_below q4_17 hb);have n7_ := Aside0.mk (blk_below (g := gb345) (o := .cells #[.slice Ao10 t339.length co10] 25 (0, 0)) q4_1 hb);have n8_ := Aside0.mk (blk_below (g := gb346) (o := .cells #[.slice Ao13 t342.length co13] 25 (0, 0)) q4_2 hb);have n9_ := Aside0.mk (blk_below (g := gb351) (o := .cells #[.slice Ao17 t347.length co17] 25 (0, 0)) q4_3 hb);have n10_ := Aside0.mk (blk_below (g := gb356) (o := .cells #[.slice Ao25 t352.length co25] 25 (0, 0)) q4_4 hb);have n11_ := Aside0.mk (blk_below (g := gb363) (o := .cells #[.slice Ao227 t359.length co227] 25 (0, 0)) q4_6 hb);have n12_ := Aside0.mk (blk_below (g := gb371) (o := .cells #[.slice Ao240 t367.length co240] 25 (0, 0)) q4_14 hb);have n13_ := Aside0.mk (below_step q4_0 hb);clear HO_346000 HO_347000 HO_352000 HO_357000 HO361 HO366 HO369 BK345 BK346 BK351 BK356 BK363 BK371 HB;have HO_346000 := n0_;have HO_347000 := n1_;have HO_352000 := n2_;have HO_357000 := n3_;have HO361 := n4_;have HO366 := n5_;have HO369 := n6_;have BK345 := n7_;have BK346 := n8_;have BK351 := n9_;have BK356 := n10_;have BK363 := n11_;have BK371 := n12_;have HB := n13_;clear n0_ n1_ n2_ n3_ n4_ n5_ n6_ n7_ n8_ n9_ n10_ n11_ n12_ n13_;(try clear hb);(try clear hb2);(try clear hk);(try clear hi);refine hK.out _ _ ⟨(blk_cell BK356.out 0).trans rfl, (blk_cell BK363.out 0).trans rfl⟩ (fun hHeld => ?_);clear hK K;refine norm_ (a' := ?_) ?_ ?_;rotate_left
        ·
         show Act.put _ (some 74) _ = _
         simp only [Act.put, List.setIfInBounds_toArray, List.set_cons_zero, List.set_cons_succ, i64_w, i32_w]
         rfl
        refine pure_ (i := 9) (N := some 75) (v := ?_) (a' := ?_) laws_FnRoughJoin.D10 rfl rfl (any_of HT_.out (by kernel_rfl)) (fun _ _ _ h => h) (Or.inl ⟨by rfl, ?_⟩) ?_ ?_;rotate_left
        ·
         intro w'
         go_simp
         with_reducible rfl
        rotate_left
        ·
         simp only [Act.put, List.setIfInBounds_toArray, List.set_cons_zero, List.set_cons_succ, i64_w, i32_w]
         rfl
        refine pure_ (i := 10) (N := some 76) (v := ?_) (a' := ?_) laws_FnRoughJoin.D11 rfl rfl (any_of HT_.out (by kernel_rfl)) (fun _ _ _ h => h) (Or.inl ⟨by rfl, ?_⟩) ?_ ?_;rotate_left
        ·
         intro w'
         go_simp
         with_reducible rfl
        rotate_left
        ·
         simp only [Act.put, List.setIfInBounds_toArray, List.set_cons_zero, List.set_cons_succ, i64_w, i32_w]
         rfl
        refine pure_ (i := 11) (N := some 77) (v := undef) (a' := ?_) laws_FnRoughJoin.D12 rfl rfl (any_of HT_.out (by kernel_rfl)) (fun _ _ _ h => h) (Or.inr ⟨by rfl, rfl⟩) ?_ ?_;rotate_left
        ·
         simp only [Act.put, List.setIfInBounds_toArray, List.set_cons_zero, List.set_cons_succ, i64_w, i32_w]
         rfl
        refine pure_ (i := 12) (N := some 78) (v := ?_) (a' := ?_) laws_FnRoughJoin.D13 rfl rfl (any_of HT_.out (by kernel_rfl)) (fun _ _ _ h => h) (Or.inl ⟨by rfl, ?_⟩) ?_ ?_;rotate_left
        ·
         intro w'
         go_simp
         with_reducible rfl
        rotate_left
        ·
         simp only [Act.put, List.setIfInBounds_toArray, List.set_cons_zero, List.set_cons_succ, i64_w, i32_w]
         rfl
        refine pure_ (i := 13) (N := some 79) (v := ?_) (a' := ?_) laws_FnRoughJoin.D14 rfl rfl (any_of HT_.out (by kernel_rfl)) (fun _ _ _ h => h) (Or.inl ⟨by rfl, ?_⟩) ?_ ?_;rotate_left
        ·
         intro w'
         go_simp
         with_reducible rfl
        rotate_left
        ·
         simp only [Act.put, List.setIfInBounds_toArray, List.set_cons_zero, List.set_cons_succ, i64_w, i32_w]
         rfl
        refine pure_ (i := 14) (N := some 80) (v := undef) (a' := ?_) laws_FnRoughJoin.D15 rfl rfl (any_of HT_.out (by kernel_rfl)) (fun _ _ _ h => h) (Or.inr ⟨by rfl, rfl⟩) ?_ ?_;rotate_left
        ·
         simp only [Act.put, List.setIfInBounds_toArray, List.set_cons_zero, List.set_cons_succ, i64_w, i32_w]
         rfl
        refine pure_ (i := 15) (N := some 81) (v := undef) (a' := ?_) laws_FnRoughJoin.D16 rfl rfl (any_of HT_.out (by kernel_rfl)) (fun _ _ _ h => h) (Or.inr ⟨by rfl, rfl⟩) ?_ ?_;rotate_left
        ·
         simp only [Act.put, List.setIfInBounds_toArray, List.set_cons_zero, List.set_cons_succ, i64_w, i32_w]
         rfl
        refine pure_ (i := 16) (N := some 82) (v := undef) (a' := ?_) laws_FnRoughJoin.D17 rfl rfl (any_of HT_.out (by kernel_rfl)) (fun _ _ _ h => h) (Or.inr ⟨by rfl, rfl⟩) ?_ ?_;rotate_left
        ·
         simp only [Act.put, List.setIfInBounds_toArray, List.set_cons_zero, List.set_cons_succ, i64_w, i32_w]
         rfl
        refine pure_ (i := 17) (N := some 83) (v := ?_) (a' := ?_) laws_FnRoughJoin.D18 rfl rfl (any_of HT_.out (by kernel_rfl)) (fun _ _ _ h => h) (Or.inl ⟨by rfl, ?_⟩) ?_ ?_;rotate_left
        ·
         intro w'
         go_simp
         with_reducible rfl
        rotate_left
        ·
         simp only [Act.put, List.setIfInBounds_toArray, List.set_cons_zero, List.set_cons_succ, i64_w, i32_w]
         rfl
        refine pure_ (i := 18) (N := some 84) (v := ?_) (a' := ?_) laws_FnRoughJoin.D19 rfl rfl (any_of HT_.out (by kernel_rfl)) (fun _ _ _ h => h) (Or.inl ⟨by rfl, ?_⟩) ?_ ?_;rotate_left
        ·
         intro w'
         go_simp
         with_reducible rfl
        rotate_left
        ·
         simp only [Act.put, List.setIfInBounds_toArray, List.set_cons_zero, List.set_cons_succ, i64_w, i32_w]
         rfl
        refine pure_ (i := 19) (N := some 85) (v := undef) (a' := ?_) laws_FnRoughJoin.D20 rfl rfl (any_of HT_.out (by kernel_rfl)) (fun _ _ _ h => h) (Or.inr ⟨by rfl, rfl⟩) ?_ ?_;rotate_left
        ·
         simp only [Act.put, List.setIfInBounds_toArray, List.set_cons_zero, List.set_cons_succ, i64_w, i32_w]
         rfl
        refine pure_ (i := 20) (N := some 86) (v := undef) (a' := ?_) laws_FnRoughJoin.D30 rfl rfl (any_of HT_.out (by kernel_rfl)) (fun _ _ _ h => h) (Or.inr ⟨by rfl, rfl⟩) ?_ ?_;rotate_left
        ·
         simp only [Act.put, List.setIfInBounds_toArray, List.set_cons_zero, List.set_cons_succ, i64_w, i32_w]
         rfl
        refine pure_ (i := 21) (N := some 87) (v := undef) (a' := ?_) laws_FnRoughJoin.D31 rfl rfl (any_of HT_.out (by kernel_rfl)) (fun _ _ _ h => h) (Or.inr ⟨by rfl, rfl⟩) ?_ ?_;rotate_left
        ·
         simp only [Act.put, List.setIfInBounds_toArray, List.set_cons_zero, List.set_cons_succ, i64_w, i32_w]
         rfl
        refine pure_ (i := 22) (N := some 88) (v := undef) (a' := ?_) laws_FnRoughJoin.D32 rfl rfl (any_of HT_.out (by kernel_rfl)) (fun _ _ _ h => h) (Or.inr ⟨by rfl, rfl⟩) ?_ ?_;rotate_left
        ·
         simp only [Act.put, List.setIfInBounds_toArray, List.set_cons_zero, List.set_cons_succ, i64_w, i32_w]
         rfl
        refine pure_ (i := 23) (N := some 89) (v := undef) (a' := ?_) laws_FnRoughJoin.D24 rfl rfl (any_of HT_.out (by kernel_rfl)) (fun _ _ _ h => h) (Or.inr ⟨by rfl, rfl⟩) ?_ ?_;rotate_left
        ·
         simp only [Act.put, List.setIfInBounds_toArray, List.set_cons_zero, List.set_cons_succ, i64_w, i32_w]
         rfl
        refine pure_ (i := 24) (N := some 90) (v := undef) (a' := ?_) laws_FnRoughJoin.D25 rfl rfl (any_of HT_.out (by kernel_rfl)) (fun _ _ _ h => h) (Or.inr ⟨by rfl, rfl⟩) ?_ ?_;rotate_left
        ·
         simp only [Act.put, List.setIfInBounds_toArray, List.set_cons_zero, List.set_cons_succ, i64_w, i32_w]
         rfl
        refine pure_ (i := 25) (N := some 91) (v := undef) (a' := ?_) laws_FnRoughJoin.D26 rfl rfl (any_of HT_.out (by kernel_rfl)) (fun _ _ _ h => h) (Or.inr ⟨by rfl, rfl⟩) ?_ ?_;rotate_left
        ·
         simp only [Act.put, List.setIfInBounds_toArray, List.set_cons_zero, List.set_cons_succ, i64_w, i32_w]
         rfl
        refine pure_ (i := 26) (N := some 92) (v := undef) (a' := ?_) laws_FnRoughJoin.D27 rfl rfl (any_of HT_.out (by kernel_rfl)) (fun _ _ _ h => h) (Or.inr ⟨by rfl, rfl⟩) ?_ ?_;rotate_left
        ·
         simp only [Act.put, List.setIfInBounds_toArray, List.set_cons_zero, List.set_cons_succ, i64_w, i32_w]
         rfl
        refine pure_ (i := 27) (N := some 93) (v := ?_) (a' := ?_) laws_FnRoughJoin.D28 rfl rfl (any_of HT_.out (by kernel_rfl)) (fun _ _ _ h => h) (Or.inl ⟨by rfl, ?_⟩) ?_ ?_;rotate_left
        ·
         intro w'
         go_simp
         with_reducible rfl
        rotate_left
        ·
         simp only [Act.put, List.setIfInBounds_toArray, List.set_cons_zero, List.set_cons_succ, i64_w, i32_w]
         rfl
        refine pure_ (i := 28) (N := some 2) (v := ?_) (a' := ?_) laws_FnRoughJoin.D29 rfl rfl (any_of HT_.out (by kernel_rfl)) (fun _ _ _ h => h) (Or.inl ⟨by rfl, ?_⟩) ?_ ?_;rotate_left
        ·
         intro w'
         go_simp
         with_reducible rfl
        rotate_left
        ·
         simp only [Act.put, List.setIfInBounds_toArray, List.set_cons_zero, List.set_cons_succ, i64_w, i32_w]
         rfl
        refine done_ (done_of HT_.out (by kernel_rfl)) ?_
        try go_wp2
        go_ret
        exact ⟨q4_26, q4_0⟩
      ·
       replace c65 := Bool.eq_false_iff.mpr c65
       subst c65
       have H1 : (some false) = some r := by rw [if_neg (show ¬ (false = true) by decide)] at H; exact H
       clear H;have H := H1;clear H1
       obtain rfl := Option.some.inj H
       try go_wp2
       have n0_ : Aside0 (Kd.Q (Kd.slice 3 (Kd.int .i64)) 43 (w239.setCell ⟨gb371, 0, none⟩ (.slice Ao240 t367.length co240)) w.heap.size (fun k_ => some k_ ≠ (.slice Ao13 t342.length co13 : Value).ownBlock ∧ some k_ ≠ (.slice Ao17 t347.length co17 : Value).ownBlock ∧ some k_ ≠ (.slice Ao25 t352.length co25 : Value).ownBlock ∧ some k_ ≠ (.slice Ao227 t359.length co227 : Value).ownBlock ∧ some k_ ≠ (v365 : Value).ownBlock ∧ some k_ ≠ (.slice Ao240 t367.length co240 : Value).ownBlock) (.slice Ao10 t339.length co10) t339) := ⟨by (with_reducible repeat (first | apply Kd.Q_alloc | apply Kd.Q_drewN | apply Kd.Q_drew)); exact Kd.Q_mono (Kd.Q_far (p := ⟨gb371, 0, none⟩) (Kd.Q_types HO_346000.out BK371.out (by decide)) (fun _ hk => hk.2) (.slice Ao240 t367.length co240)) (fun _ hk => ⟨hk.1.2.2.2.1, ⟨hk.1.2.2.2.2.1, ⟨hk.1.2.2.2.2.2, ⟨hk.1.1, ⟨hk.1.2.1, hk.1.2.2.1⟩⟩⟩⟩⟩)⟩
       have n1_ : Aside0 (Kd.Q (Kd.slice 3 (Kd.int .i64)) 43 (w239.setCell ⟨gb371, 0, none⟩ (.slice Ao240 t367.length co240)) w.heap.size (fun k_ => some k_ ≠ (.slice Ao10 t339.length co10 : Value).ownBlock ∧ some k_ ≠ (.slice Ao17 t347.length co17 : Value).ownBlock ∧ some k_ ≠ (.slice Ao25 t352.length co25 : Value).ownBlock ∧ some k_ ≠ (.slice Ao227 t359.length co227 : Value).ownBlock ∧ some k_ ≠ (v365 : Value).ownBlock ∧ some k_ ≠ (.slice Ao240 t367.length co240 : Value).ownBlock) (.slice Ao13 t342.length co13) t342) := ⟨by (with_reducible repeat (first | apply Kd.Q_alloc | apply Kd.Q_drewN | apply Kd.Q_drew)); exact Kd.Q_mono (Kd.Q_far (p := ⟨gb371, 0, none⟩) (Kd.Q_types HO_347000.out BK371.out (by decide)) (fun _ hk => hk.2) (.slice Ao240 t367.length co240)) (fun _ hk => ⟨hk.1.2.2.2.1, ⟨hk.1.2.2.2.2.1, ⟨hk.1.2.2.2.2.2, ⟨hk.1.1, ⟨hk.1.2.1, hk.1.2.2.1⟩⟩⟩⟩⟩)⟩
       have n2_ : Aside0 (Kd.Q (Kd.slice 3 (Kd.int .i64)) 43 (w239.setCell ⟨gb371, 0, none⟩ (.slice Ao240 t367.length co240)) w.heap.size (fun k_ => some k_ ≠ (.slice Ao10 t339.length co10 : Value).ownBlock ∧ some k_ ≠ (.slice Ao13 t342.length co13 : Value).ownBlock ∧ some k_ ≠ (.slice Ao25 t352.length co25 : Value).ownBlock ∧ some k_ ≠ (.slice Ao227 t359.length co227 : Value).ownBlock ∧ some k_ ≠ (v365 : Value).ownBlock ∧ some k_ ≠ (.slice Ao240 t367.length co240 : Value).ownBlock) (.slice Ao17 t347.length co17) t347) := ⟨by (with_reducible repeat (first | apply Kd.Q_alloc | apply Kd.Q_drewN | apply Kd.Q_drew)); exact Kd.Q_mono (Kd.Q_far (p := ⟨gb371, 0, none⟩) (Kd.Q_types HO_352000.out BK371.out (by decide)) (fun _ hk => hk.2) (.slice Ao240 t367.length co240)) (fun _ hk => ⟨hk.1.2.2.2.1, ⟨hk.1.2.2.2.2.1, ⟨hk.1.2.2.2.2.2, ⟨hk.1.1, ⟨hk.1.2.1, hk.1.2.2.1⟩⟩⟩⟩⟩)⟩
       have n3_ : Aside0 (Kd.Q (Kd.slice 3 (Kd.int .i64)) 43 (w239.setCell ⟨gb371, 0, none⟩ (.slice Ao240 t367.length co240)) w.heap.size (fun k_ => some k_ ≠ (.slice Ao10 t339.length co10 : Value).ownBlock ∧ some k_ ≠ (.slice Ao13 t342.length co13 : Value).ownBlock ∧ some k_ ≠ (.slice Ao17 t347.length co17 : Value).ownBlock ∧ some k_ ≠ (.slice Ao227 t359.length co227 : Value).ownBlock ∧ some k_ ≠ (v365 : Value).ownBlock ∧ some k_ ≠ (.slice Ao240 t367.length co240 : Value).ownBlock) (.slice Ao25 t352.length co25) t352) := ⟨by (with_reducible repeat (first | apply Kd.Q_alloc | apply Kd.Q_drewN | apply Kd.Q_drew)); exact Kd.Q_mono (Kd.Q_far (p := ⟨gb371, 0, none⟩) (Kd.Q_types HO_357000.out BK371.out (by decide)) (fun _ hk => hk.2) (.slice Ao240 t367.length co240)) (fun _ hk => ⟨hk.1.2.2.2.1, ⟨hk.1.2.2.2.2.1, ⟨hk.1.2.2.2.2.2, ⟨hk.1.1, ⟨hk.1.2.1, hk.1.2.2.1⟩⟩⟩⟩⟩)⟩
       have n4_ : Aside0 (Kd.S (Kd.slice 3 (Kd.int .i64)) 43 (w239.setCell ⟨gb371, 0, none⟩ (.slice Ao240 t367.length co240)) w.heap.size (fun k_ => some k_ ≠ (.slice Ao10 t339.length co10 : Value).ownBlock ∧ some k_ ≠ (.slice Ao13 t342.length co13 : Value).ownBlock ∧ some k_ ≠ (.slice Ao17 t347.length co17 : Value).ownBlock ∧ some k_ ≠ (.slice Ao25 t352.length co25 : Value).ownBlock ∧ some k_ ≠ (v365 : Value).ownBlock ∧ some k_ ≠ (.slice Ao240 t367.length co240 : Value).ownBlock) (.slice Ao227 t359.length co227) t359) := ⟨by (with_reducible repeat (first | apply Kd.S_alloc | apply Kd.S_drewN | apply Kd.S_drew)); exact Kd.S_mono (Kd.S_far (p := ⟨gb371, 0, none⟩) (Kd.S_types HO361.out BK371.out (by decide)) (fun _ hk => hk.2) (.slice Ao240 t367.length co240)) (fun _ hk => ⟨hk.1.2.2.1, ⟨hk.1.2.2.2.1, ⟨hk.1.2.2.2.2.1, ⟨hk.1.2.2.2.2.2, ⟨hk.1.1, hk.1.2.1⟩⟩⟩⟩⟩)⟩
       have n5_ : Aside0 (Kd.S (Kd.slice 3 (Kd.int .i64)) 43 (w239.setCell ⟨gb371, 0, none⟩ (.slice Ao240 t367.length co240)) w.heap.size (fun k_ => some k_ ≠ (.slice Ao10 t339.length co10 : Value).ownBlock ∧ some k_ ≠ (.slice Ao13 t342.length co13 : Value).ownBlock ∧ some k_ ≠ (.slice Ao17 t347.length co17 : Value).ownBlock ∧ some k_ ≠ (.slice Ao25 t352.length co25 : Value).ownBlock ∧ some k_ ≠ (.slice Ao227 t359.length co227 : Value).ownBlock ∧ some k_ ≠ (.slice Ao240 t367.length co240 : Value).ownBlock) v365 t364) := ⟨by (with_reducible repeat (first | apply Kd.S_alloc | apply Kd.S_drewN | apply Kd.S_drew)); exact Kd.S_mono (Kd.S_far (p := ⟨gb371, 0, none⟩) (Kd.S_types HO366.out BK371.out (by decide)) (fun _ hk => hk.2) (.slice Ao240 t367.length co240)) (fun _ hk => ⟨hk.1.2.2.1, ⟨hk.1.2.2.2.1, ⟨hk.1.2.2.2.2.1, ⟨hk.1.2.2.2.2.2, ⟨hk.1.1, hk.1.2.1⟩⟩⟩⟩⟩)⟩
       have n6_ : Aside0 (Kd.S (Kd.slice 3 (Kd.int .i64)) 43 (w239.setCell ⟨gb371, 0, none⟩ (.slice Ao240 t367.length co240)) w.heap.size (fun k_ => some k_ ≠ (.slice Ao10 t339.length co10 : Value).ownBlock ∧ some k_ ≠ (.slice Ao13 t342.length co13 : Value).ownBlock ∧ some k_ ≠ (.slice Ao17 t347.length co17 : Value).ownBlock ∧ some k_ ≠ (.slice Ao25 t352.length co25 : Value).ownBlock ∧ some k_ ≠ (.slice Ao227 t359.length co227 : Value).ownBlock ∧ some k_ ≠ (v365 : Value).ownBlock) (.slice Ao240 t367.length co240) t367) := ⟨by (with_reducible repeat (first | apply Kd.S_alloc | apply Kd.S_drewN | apply Kd.S_drew)); exact Kd.S_mono (Kd.S_far (p := ⟨gb371, 0, none⟩) (Kd.S_types HO369.out BK371.out (by decide)) (fun _ hk => hk.2) (.slice Ao240 t367.length co240)) (fun _ hk => ⟨hk.1.2.2.1, ⟨hk.1.2.2.2.1, ⟨hk.1.2.2.2.2.1, ⟨hk.1.2.2.2.2.2, ⟨hk.1.1, hk.1.2.1⟩⟩⟩⟩⟩)⟩
       have n7_ : Aside0 ((w239.setCell ⟨gb371, 0, none⟩ (.slice Ao240 t367.length co240)).heap[gb345]? = some (.cells #[.slice Ao10 t339.length co10] 25 (0, 0))) := ⟨by (with_reducible repeat (first | refine blk_drewN ?_ _ | refine blk_drew ?_ | refine blk_alloc ?_ _)); refine blk_far ?_ NB345_371.out _; (with_reducible repeat (first | refine blk_drewN ?_ _ | refine blk_drew ?_ | refine blk_alloc ?_ _)); exact BK345.out⟩
       have n8_ : Aside0 ((w239.setCell ⟨gb371, 0, none⟩ (.slice Ao240 t367.length co240)).heap[gb346]? = some (.cells #[.slice Ao13 t342.length co13] 25 (0, 0))) := ⟨by (with_reducible repeat (first | refine blk_drewN ?_ _ | refine blk_drew ?_ | refine blk_alloc ?_ _)); refine blk_far ?_ NB346_371.out _; (with_reducible repeat (first | refine blk_drewN ?_ _ | refine blk_drew ?_ | refine blk_alloc ?_ _)); exact BK346.out⟩
       have n9_ : Aside0 ((w239.setCell ⟨gb371, 0, none⟩ (.slice Ao240 t367.length co240)).heap[gb351]? = some (.cells #[.slice Ao17 t347.length co17] 25 (0, 0))) := ⟨by (with_reducible repeat (first | refine blk_drewN ?_ _ | refine blk_drew ?_ | refine blk_alloc ?_ _)); refine blk_far ?_ NB351_371.out _; (with_reducible repeat (first | refine blk_drewN ?_ _ | refine blk_drew ?_ | refine blk_alloc ?_ _)); exact BK351.out⟩
       have n10_ : Aside0 ((w239.setCell ⟨gb371, 0, none⟩ (.slice Ao240 t367.length co240)).heap[gb356]? = some (.cells #[.slice Ao25 t352.length co25] 25 (0, 0))) := ⟨by (with_reducible repeat (first | refine blk_drewN ?_ _ | refine blk_drew ?_ | refine blk_alloc ?_ _)); refine blk_far ?_ NB356_371.out _; (with_reducible repeat (first | refine blk_drewN ?_ _ | refine blk_drew ?_ | refine blk_alloc ?_ _)); exact BK356.out⟩
       have n11_ : Aside0 ((w239.setCell ⟨gb371, 0, none⟩ (.slice Ao240 t367.length co240)).heap[gb363]? = some (.cells #[.slice Ao227 t359.length co227] 25 (0, 0))) := ⟨by (with_reducible repeat (first | refine blk_drewN ?_ _ | refine blk_drew ?_ | refine blk_alloc ?_ _)); refine blk_far ?_ NB363_371.out _; (with_reducible repeat (first | refine blk_drewN ?_ _ | refine blk_drew ?_ | refine blk_alloc ?_ _)); exact BK363.out⟩
       have n12_ : Aside0 ((w239.setCell ⟨gb371, 0, none⟩ (.slice Ao240 t367.length co240)).heap[gb371]? = some (.cells #[.slice Ao240 t367.length co240] 25 (0, 0))) := ⟨by (with_reducible repeat (first | refine blk_drewN ?_ _ | refine blk_drew ?_ | refine blk_alloc ?_ _)); refine blk_put (cs := #[.slice none 0 0]) ?_ 0 _ rfl; (with_reducible repeat (first | refine blk_drewN ?_ _ | refine blk_drew ?_ | refine blk_alloc ?_ _)); exact BK371.out⟩
       have n13_ : Aside0 (Below w.heap.size w (w239.setCell ⟨gb371, 0, none⟩ (.slice Ao240 t367.length co240))) := ⟨q4_0⟩
       (try clear HO_346000);(try clear HO_347000);(try clear HO_352000);(try clear HO_357000);(try clear HO361);(try clear HO366);(try clear HO369);(try clear BK345);(try clear BK346);(try clear BK351);(try clear BK356);(try clear BK363);(try clear BK371);(try clear HB)
       generalize (w239.setCell ⟨gb371, 0, none⟩ (.slice Ao240 t367.length co240)) = w215 at n0_ n1_ n2_ n3_ n4_ n5_ n6_ n7_ n8_ n9_ n10_ n11_ n12_ n13_ ⊢
       have HO_346000 := n0_;have HO_347000 := n1_;have HO_352000 := n2_;have HO_357000 := n3_;have HO361 := n4_;have HO366 := n5_;have HO369 := n6_;have BK345 := n7_;have BK346 := n8_;have BK351 := n9_;have BK356 := n10_;have BK363 := n11_;have BK371 := n12_;have HB := n13_;clear n0_ n1_ n2_ n3_ n4_ n5_ n6_ n7_ n8_ n9_ n10_ n11_ n12_ n13_;have n0_ := Aside0.mk (Kd.Q_drew HO_346000.out);have n1_ := Aside0.mk (Kd.Q_drew HO_347000.out);have n2_ := Aside0.mk (Kd.Q_drew HO_352000.out);have n3_ := Aside0.mk (Kd.Q_drew HO_357000.out);have n4_ := Aside0.mk (Kd.S_drew HO361.out);have n5_ := Aside0.mk (Kd.S_drew HO366.out);have n6_ := Aside0.mk (Kd.S_drew HO369.out);have n7_ := Aside0.mk (blk_drew BK345.out);have n8_ := Aside0.mk (blk_drew BK346.out);have n9_ := Aside0.mk (blk_drew BK351.out);have n10_ := Aside0.mk (blk_drew BK356.out);have n11_ := Aside0.mk (blk_drew BK363.out);have n12_ := Aside0.mk (blk_drew BK371.out);have n13_ := Aside0.mk (below_drew1 HB.out);clear HO_346000 HO_347000 HO_352000 HO_357000 HO361 HO366 HO369 BK345 BK346 BK351 BK356 BK363 BK371 HB;have HO_346000 := n0_;have HO_347000 := n1_;have HO_352000 := n2_;have HO_357000 := n3_;have HO361 := n4_;have HO366 := n5_;have HO369 := n6_;have BK345 := n7_;have BK346 := n8_;have BK351 := n9_;have BK356 := n10_;have BK363 := n11_;have BK371 := n12_;have HB := n13_;clear n0_ n1_ n2_ n3_ n4_ n5_ n6_ n7_ n8_ n9_ n10_ n11_ n12_ n13_;refine start_ (n := 29) (S := fun w' => w'.cell? ⟨gb356, 0, none⟩ = some (.slice Ao25 t352.length co25)) (ds := []) laws_FnRoughJoin.D0 (by kernel_rfl) rfl rfl ((blk_cell BK356.out 0).trans rfl) (fun hHeld => ?_); refine with_tabW laws_FnRoughJoin.tab10 laws_FnRoughJoin.bits10 (fun HT_ HW_ => ?_)
       generalize w215.drew = w216 at HO_346000 HO_347000 HO_352000 HO_357000 HO361 HO366 HO369 BK345 BK346 BK351 BK356 BK363 BK371 HB hHeld ⊢
       refine take_ (i := 0) (N := some 66) (v := ?_) (a' := ?_) laws_FnRoughJoin.D1 rfl rfl (take_ofW HT_.out HW_.out (by kernel_rfl)) (fun _ _ _ h => h) (Or.inl ⟨by rfl, ?_⟩) hHeld ?_ ?_;rotate_left
       ·
        intro w' s0
        go_simp
        with_reducible rfl
       rotate_left
       ·
        simp only [Act.put, List.setIfInBounds_toArray, List.set_cons_zero, List.set_cons_succ, i64_w, i32_w]
        rfl
       refine one_ (i := 1) (N := some 67) laws_FnRoughJoin.D2 rfl rfl (one_of HT_.out (by kernel_rfl)) (by decide) (fun K hK => ?_);refine goes_ Try.func17 (by kernel_rfl) rfl #[.agg #[.slice Ao25 t352.length co25]] (by rfl) rfl rfl q4_11 ?_
       with_reducible refine (impl_RoughOk.calls kj5 _ _ t352 true _ ?side1 ?side2 A63.out).mono ?_
       (case side1 => exact q4_16);(case side2 => exact (Kd.Q_reads' HO_357000.out).2.1);rintro e w217 ⟨rfl, hb⟩;refine ⟨_, rfl, ?_⟩;have n0_ := Aside0.mk (Kd.Q_below q4_7 hb);have n1_ := Aside0.mk (Kd.Q_below q4_8 hb);have n2_ := Aside0.mk (Kd.Q_below q4_9 hb);have n3_ := Aside0.mk (Kd.Q_below q4_10 hb);have n4_ := Aside0.mk (Kd.S_below q4_13 hb);have n5_ := Aside0.mk (Kd.S_below q4_15 hb);have n6_ := Aside0.mk (Kd.S_below q4_17 hb);have n7_ := Aside0.mk (blk_below (g := gb345) (o := .cells #[.slice Ao10 t339.length co10] 25 (0, 0)) q4_1 hb);have n8_ := Aside0.mk (blk_below (g := gb346) (o := .cells #[.slice Ao13 t342.length co13] 25 (0, 0)) q4_2 hb);have n9_ := Aside0.mk (blk_below (g := gb351) (o := .cells #[.slice Ao17 t347.length co17] 25 (0, 0)) q4_3 hb);have n10_ := Aside0.mk (blk_below (g := gb356) (o := .cells #[.slice Ao25 t352.length co25] 25 (0, 0)) q4_4 hb);have n11_ := Aside0.mk (blk_below (g := gb363) (o := .cells #[.slice Ao227 t359.length co227] 25 (0, 0)) q4_6 hb);have n12_ := Aside0.mk (blk_below (g := gb371) (o := .cells #[.slice Ao240 t367.length co240] 25 (0, 0)) q4_14 hb);have n13_ := Aside0.mk (below_step q4_0 hb);clear HO_346000 HO_347000 HO_352000 HO_357000 HO361 HO366 HO369 BK345 BK346 BK351 BK356 BK363 BK371 HB;have HO_346000 := n0_;have HO_347000 := n1_;have HO_352000 := n2_;have HO_357000 := n3_;have HO361 := n4_;have HO366 := n5_;have HO369 := n6_;have BK345 := n7_;have BK346 := n8_;have BK351 := n9_;have BK356 := n10_;have BK363 := n11_;have BK371 := n12_;have HB := n13_;clear n0_ n1_ n2_ n3_ n4_ n5_ n6_ n7_ n8_ n9_ n10_ n11_ n12_ n13_;(try clear hb);(try clear hb2);(try clear hk);(try clear hi);refine hK.out _ _ ((blk_cell BK356.out 0).trans rfl) (fun hHeld => ?_);clear hK K;refine norm_ (a' := ?_) ?_ ?_;rotate_left
       ·
        show Act.put _ (some 67) _ = _
        simp only [Act.put, List.setIfInBounds_toArray, List.set_cons_zero, List.set_cons_succ, i64_w, i32_w]
        rfl
       refine pure_ (i := 2) (N := some 68) (v := ?_) (a' := ?_) laws_FnRoughJoin.D3 rfl rfl (any_of HT_.out (by kernel_rfl)) (fun _ _ _ h => h) (Or.inl ⟨by rfl, ?_⟩) ?_ ?_;rotate_left
       ·
        intro w'
        go_simp
        with_reducible rfl
       rotate_left
       ·
        simp only [Act.put, List.setIfInBounds_toArray, List.set_cons_zero, List.set_cons_succ, i64_w, i32_w]
        rfl
       refine pure_ (i := 3) (N := some 69) (v := ?_) (a' := ?_) laws_FnRoughJoin.D4 rfl rfl (any_of HT_.out (by kernel_rfl)) (fun _ _ _ h => h) (Or.inl ⟨by rfl, ?_⟩) ?_ ?_;rotate_left
       ·
        intro w'
        go_simp
        with_reducible rfl
       rotate_left
       ·
        simp only [Act.put, List.setIfInBounds_toArray, List.set_cons_zero, List.set_cons_succ, i64_w, i32_w]
        rfl
       refine pure_ (i := 4) (N := some 70) (v := ?_) (a' := ?_) laws_FnRoughJoin.D5 rfl rfl (any_of HT_.out (by kernel_rfl)) (fun _ _ _ h => h) (Or.inl ⟨by rfl, ?_⟩) ?_ ?_;rotate_left
       ·
        intro w'
        go_simp
        with_reducible rfl
       rotate_left
       ·
        simp only [Act.put, List.setIfInBounds_toArray, List.set_cons_zero, List.set_cons_succ, i64_w, i32_w]
        rfl
       refine pure_ (i := 5) (N := some 71) (v := ?_) (a' := ?_) laws_FnRoughJoin.D6 rfl rfl (any_of HT_.out (by kernel_rfl)) (fun _ _ _ h => h) (Or.inl ⟨by rfl, ?_⟩) ?_ ?_;rotate_left
       ·
        intro w'
        go_simp
        with_reducible rfl
       rotate_left
       ·
        simp only [Act.put, List.setIfInBounds_toArray, List.set_cons_zero, List.set_cons_succ, i64_w, i32_w]
        rfl
       refine pure_ (i := 6) (N := some 72) (v := undef) (a' := ?_) laws_FnRoughJoin.D7 rfl rfl (any_of HT_.out (by kernel_rfl)) (fun _ _ _ h => h) (Or.inr ⟨by rfl, rfl⟩) ?_ ?_;rotate_left
       ·
        simp only [Act.put, List.setIfInBounds_toArray, List.set_cons_zero, List.set_cons_succ, i64_w, i32_w]
        rfl
       refine pure_ (i := 7) (N := some 73) (v := undef) (a' := ?_) laws_FnRoughJoin.D8 rfl rfl (any_of HT_.out (by kernel_rfl)) (fun _ _ _ h => h) (Or.inr ⟨by rfl, rfl⟩) ?_ ?_;rotate_left
       ·
        simp only [Act.put, List.setIfInBounds_toArray, List.set_cons_zero, List.set_cons_succ, i64_w, i32_w]
        rfl
       refine pure_ (i := 8) (N := some 74) (v := undef) (a' := ?_) laws_FnRoughJoin.D9 rfl rfl (any_of HT_.out (by kernel_rfl)) (fun _ _ _ h => h) (Or.inr ⟨by rfl, rfl⟩) ?_ ?_;rotate_left
       ·
        simp only [Act.put, List.setIfInBounds_toArray, List.set_cons_zero, List.set_cons_succ, i64_w, i32_w]
        rfl
       refine pure_ (i := 9) (N := some 75) (v := ?_) (a' := ?_) laws_FnRoughJoin.D10 rfl rfl (any_of HT_.out (by kernel_rfl)) (fun _ _ _ h => h) (Or.inl ⟨by rfl, ?_⟩) ?_ ?_;rotate_left
       ·
        intro w'
        go_simp
        with_reducible rfl
       rotate_left
       ·
        simp only [Act.put, List.setIfInBounds_toArray, List.set_cons_zero, List.set_cons_succ, i64_w, i32_w]
        rfl
       refine pure_ (i := 10) (N := some 76) (v := ?_) (a' := ?_) laws_FnRoughJoin.D11 rfl rfl (any_of HT_.out (by kernel_rfl)) (fun _ _ _ h => h) (Or.inl ⟨by rfl, ?_⟩) ?_ ?_;rotate_left
       ·
        intro w'
        go_simp
        with_reducible rfl
       rotate_left
       ·
        simp only [Act.put, List.setIfInBounds_toArray, List.set_cons_zero, List.set_cons_succ, i64_w, i32_w]
        rfl
       refine pure_ (i := 11) (N := some 77) (v := undef) (a' := ?_) laws_FnRoughJoin.D12 rfl rfl (any_of HT_.out (by kernel_rfl)) (fun _ _ _ h => h) (Or.inr ⟨by rfl, rfl⟩) ?_ ?_;rotate_left
       ·
        simp only [Act.put, List.setIfInBounds_toArray, List.set_cons_zero, List.set_cons_succ, i64_w, i32_w]
        rfl
       refine pure_ (i := 12) (N := some 78) (v := ?_) (a' := ?_) laws_FnRoughJoin.D13 rfl rfl (any_of HT_.out (by kernel_rfl)) (fun _ _ _ h => h) (Or.inl ⟨by rfl, ?_⟩) ?_ ?_;rotate_left
       ·
        intro w'
        go_simp
        with_reducible rfl
       rotate_left
       ·
        simp only [Act.put, List.setIfInBounds_toArray, List.set_cons_zero, List.set_cons_succ, i64_w, i32_w]
        rfl
       refine pure_ (i := 13) (N := some 79) (v := ?_) (a' := ?_) laws_FnRoughJoin.D14 rfl rfl (any_of HT_.out (by kernel_rfl)) (fun _ _ _ h => h) (Or.inl ⟨by rfl, ?_⟩) ?_ ?_;rotate_left
       ·
        intro w'
        go_simp
        with_reducible rfl
       rotate_left
       ·
        simp only [Act.put, List.setIfInBounds_toArray, List.set_cons_zero, List.set_cons_succ, i64_w, i32_w]
        rfl
       refine pure_ (i := 14) (N := some 80) (v := undef) (a' := ?_) laws_FnRoughJoin.D15 rfl rfl (any_of HT_.out (by kernel_rfl)) (fun _ _ _ h => h) (Or.inr ⟨by rfl, rfl⟩) ?_ ?_;rotate_left
       ·
        simp only [Act.put, List.setIfInBounds_toArray, List.set_cons_zero, List.set_cons_succ, i64_w, i32_w]
        rfl
       refine pure_ (i := 15) (N := some 81) (v := undef) (a' := ?_) laws_FnRoughJoin.D16 rfl rfl (any_of HT_.out (by kernel_rfl)) (fun _ _ _ h => h) (Or.inr ⟨by rfl, rfl⟩) ?_ ?_;rotate_left
       ·
        simp only [Act.put, List.setIfInBounds_toArray, List.set_cons_zero, List.set_cons_succ, i64_w, i32_w]
        rfl
       refine pure_ (i := 16) (N := some 82) (v := undef) (a' := ?_) laws_FnRoughJoin.D17 rfl rfl (any_of HT_.out (by kernel_rfl)) (fun _ _ _ h => h) (Or.inr ⟨by rfl, rfl⟩) ?_ ?_;rotate_left
       ·
        simp only [Act.put, List.setIfInBounds_toArray, List.set_cons_zero, List.set_cons_succ, i64_w, i32_w]
        rfl
       refine pure_ (i := 17) (N := some 83) (v := ?_) (a' := ?_) laws_FnRoughJoin.D18 rfl rfl (any_of HT_.out (by kernel_rfl)) (fun _ _ _ h => h) (Or.inl ⟨by rfl, ?_⟩) ?_ ?_;rotate_left
       ·
        intro w'
        go_simp
        with_reducible rfl
       rotate_left
       ·
        simp only [Act.put, List.setIfInBounds_toArray, List.set_cons_zero, List.set_cons_succ, i64_w, i32_w]
        rfl
       refine pure_ (i := 18) (N := some 84) (v := ?_) (a' := ?_) laws_FnRoughJoin.D19 rfl rfl (any_of HT_.out (by kernel_rfl)) (fun _ _ _ h => h) (Or.inl ⟨by rfl, ?_⟩) ?_ ?_;rotate_left
       ·
        intro w'
        go_simp
        with_reducible rfl
       rotate_left
       ·
        simp only [Act.put, List.setIfInBounds_toArray, List.set_cons_zero, List.set_cons_succ, i64_w, i32_w]
        rfl
       refine pure_ (i := 19) (N := some 85) (v := undef) (a' := ?_) laws_FnRoughJoin.D20 rfl rfl (any_of HT_.out (by kernel_rfl)) (fun _ _ _ h => h) (Or.inr ⟨by rfl, rfl⟩) ?_ ?_;rotate_left
       ·
        simp only [Act.put, List.setIfInBounds_toArray, List.set_cons_zero, List.set_cons_succ, i64_w, i32_w]
        rfl
       refine pure_ (i := 20) (N := some 86) (v := undef) (a' := ?_) laws_FnRoughJoin.D30 rfl rfl (any_of HT_.out (by kernel_rfl)) (fun _ _ _ h => h) (Or.inr ⟨by rfl, rfl⟩) ?_ ?_;rotate_left
       ·
        simp only [Act.put, List.setIfInBounds_toArray, List.set_cons_zero, List.set_cons_succ, i64_w, i32_w]
        rfl
       refine pure_ (i := 21) (N := some 87) (v := undef) (a' := ?_) laws_FnRoughJoin.D31 rfl rfl (any_of HT_.out (by kernel_rfl)) (fun _ _ _ h => h) (Or.inr ⟨by rfl, rfl⟩) ?_ ?_;rotate_left
       ·
        simp only [Act.put, List.setIfInBounds_toArray, List.set_cons_zero, List.set_cons_succ, i64_w, i32_w]
        rfl
       refine pure_ (i := 22) (N := some 88) (v := undef) (a' := ?_) laws_FnRoughJoin.D32 rfl rfl (any_of HT_.out (by kernel_rfl)) (fun _ _ _ h => h) (Or.inr ⟨by rfl, rfl⟩) ?_ ?_;rotate_left
       ·
        simp only [Act.put, List.setIfInBounds_toArray, List.set_cons_zero, List.set_cons_succ, i64_w, i32_w]
        rfl
       refine pure_ (i := 23) (N := some 89) (v := undef) (a' := ?_) laws_FnRoughJoin.D24 rfl rfl (any_of HT_.out (by kernel_rfl)) (fun _ _ _ h => h) (Or.inr ⟨by rfl, rfl⟩) ?_ ?_;rotate_left
       ·
        simp only [Act.put, List.setIfInBounds_toArray, List.set_cons_zero, List.set_cons_succ, i64_w, i32_w]
        rfl
       refine pure_ (i := 24) (N := some 90) (v := undef) (a' := ?_) laws_FnRoughJoin.D25 rfl rfl (any_of HT_.out (by kernel_rfl)) (fun _ _ _ h => h) (Or.inr ⟨by rfl, rfl⟩) ?_ ?_;rotate_left
       ·
        simp only [Act.put, List.setIfInBounds_toArray, List.set_cons_zero, List.set_cons_succ, i64_w, i32_w]
        rfl
       refine pure_ (i := 25) (N := some 91) (v := undef) (a' := ?_) laws_FnRoughJoin.D26 rfl rfl (any_of HT_.out (by kernel_rfl)) (fun _ _ _ h => h) (Or.inr ⟨by rfl, rfl⟩) ?_ ?_;rotate_left
       ·
        simp only [Act.put, List.setIfInBounds_toArray, List.set_cons_zero, List.set_cons_succ, i64_w, i32_w]
        rfl
       refine pure_ (i := 26) (N := some 92) (v := undef) (a' := ?_) laws_FnRoughJoin.D27 rfl rfl (any_of HT_.out (by kernel_rfl)) (fun _ _ _ h => h) (Or.inr ⟨by rfl, rfl⟩) ?_ ?_;rotate_left
       ·
        simp only [Act.put, List.setIfInBounds_toArray, List.set_cons_zero, List.set_cons_succ, i64_w, i32_w]
        rfl
       refine pure_ (i := 27) (N := some 93) (v := ?_) (a' := ?_) laws_FnRoughJoin.D28 rfl rfl (any_of HT_.out (by kernel_rfl)) (fun _ _ _ h => h) (Or.inl ⟨by rfl, ?_⟩) ?_ ?_;rotate_left
       ·
        intro w'
        go_simp
        with_reducible rfl
       rotate_left
       ·
        simp only [Act.put, List.setIfInBounds_toArray, List.set_cons_zero, List.set_cons_succ, i64_w, i32_w]
        rfl
       refine pure_ (i := 28) (N := some 2) (v := ?_) (a' := ?_) laws_FnRoughJoin.D29 rfl rfl (any_of HT_.out (by kernel_rfl)) (fun _ _ _ h => h) (Or.inl ⟨by rfl, ?_⟩) ?_ ?_;rotate_left
       ·
        intro w'
        go_simp
        with_reducible rfl
       rotate_left
       ·
        simp only [Act.put, List.setIfInBounds_toArray, List.set_cons_zero, List.set_cons_succ, i64_w, i32_w]
        rfl
       refine done_ (done_of HT_.out (by kernel_rfl)) ?_
       try go_wp2
       go_ret
       exact ⟨q4_26, q4_0⟩
     ·
      replace c64 := Bool.eq_false_iff.mpr c64
      subst c64
      have H1 : (some false) = some r := by rw [if_neg (show ¬ (false = true) by decide)] at H; exact H
      clear H;have H := H1;clear H1
      obtain rfl := Option.some.inj H
      try go_wp2
      have n0_ : Aside0 (Kd.Q (Kd.slice 3 (Kd.int .i64)) 43 (w239.setCell ⟨gb371, 0, none⟩ (.slice Ao240 t367.length co240)) w.heap.size (fun k_ => some k_ ≠ (.slice Ao13 t342.length co13 : Value).ownBlock ∧ some k_ ≠ (.slice Ao17 t347.length co17 : Value).ownBlock ∧ some k_ ≠ (.slice Ao25 t352.length co25 : Value).ownBlock ∧ some k_ ≠ (.slice Ao227 t359.length co227 : Value).ownBlock ∧ some k_ ≠ (v365 : Value).ownBlock ∧ some k_ ≠ (.slice Ao240 t367.length co240 : Value).ownBlock) (.slice Ao10 t339.length co10) t339) := ⟨by (with_reducible repeat (first | apply Kd.Q_alloc | apply Kd.Q_drewN | apply Kd.Q_drew)); exact Kd.Q_mono (Kd.Q_far (p := ⟨gb371, 0, none⟩) (Kd.Q_types HO_346000.out BK371.out (by decide)) (fun _ hk => hk.2) (.slice Ao240 t367.length co240)) (fun _ hk => ⟨hk.1.2.2.2.1, ⟨hk.1.2.2.2.2.1, ⟨hk.1.2.2.2.2.2, ⟨hk.1.1, ⟨hk.1.2.1, hk.1.2.2.1⟩⟩⟩⟩⟩)⟩
      have n1_ : Aside0 (Kd.Q (Kd.slice 3 (Kd.int .i64)) 43 (w239.setCell ⟨gb371, 0, none⟩ (.slice Ao240 t367.length co240)) w.heap.size (fun k_ => some k_ ≠ (.slice Ao10 t339.length co10 : Value).ownBlock ∧ some k_ ≠ (.slice Ao17 t347.length co17 : Value).ownBlock ∧ some k_ ≠ (.slice Ao25 t352.length co25 : Value).ownBlock ∧ some k_ ≠ (.slice Ao227 t359.length co227 : Value).ownBlock ∧ some k_ ≠ (v365 : Value).ownBlock ∧ some k_ ≠ (.slice Ao240 t367.length co240 : Value).ownBlock) (.slice Ao13 t342.length co13) t342) := ⟨by (with_reducible repeat (first | apply Kd.Q_alloc | apply Kd.Q_drewN | apply Kd.Q_drew)); exact Kd.Q_mono (Kd.Q_far (p := ⟨gb371, 0, none⟩) (Kd.Q_types HO_347000.out BK371.out (by decide)) (fun _ hk => hk.2) (.slice Ao240 t367.length co240)) (fun _ hk => ⟨hk.1.2.2.2.1, ⟨hk.1.2.2.2.2.1, ⟨hk.1.2.2.2.2.2, ⟨hk.1.1, ⟨hk.1.2.1, hk.1.2.2.1⟩⟩⟩⟩⟩)⟩
      have n2_ : Aside0 (Kd.Q (Kd.slice 3 (Kd.int .i64)) 43 (w239.setCell ⟨gb371, 0, none⟩ (.slice Ao240 t367.length co240)) w.heap.size (fun k_ => some k_ ≠ (.slice Ao10 t339.length co10 : Value).ownBlock ∧ some k_ ≠ (.slice Ao13 t342.length co13 : Value).ownBlock ∧ some k_ ≠ (.slice Ao25 t352.length co25 : Value).ownBlock ∧ some k_ ≠ (.slice Ao227 t359.length co227 : Value).ownBlock ∧ some k_ ≠ (v365 : Value).ownBlock ∧ some k_ ≠ (.slice Ao240 t367.length co240 : Value).ownBlock) (.slice Ao17 t347.length co17) t347) := ⟨by (with_reducible repeat (first | apply Kd.Q_alloc | apply Kd.Q_drewN | apply Kd.Q_drew)); exact Kd.Q_mono (Kd.Q_far (p := ⟨gb371, 0, none⟩) (Kd.Q_types HO_352000.out BK371.out (by decide)) (fun _ hk => hk.2) (.slice Ao240 t367.length co240)) (fun _ hk => ⟨hk.1.2.2.2.1, ⟨hk.1.2.2.2.2.1, ⟨hk.1.2.2.2.2.2, ⟨hk.1.1, ⟨hk.1.2.1, hk.1.2.2.1⟩⟩⟩⟩⟩)⟩
      have n3_ : Aside0 (Kd.Q (Kd.slice 3 (Kd.int .i64)) 43 (w239.setCell ⟨gb371, 0, none⟩ (.slice Ao240 t367.length co240)) w.heap.size (fun k_ => some k_ ≠ (.slice Ao10 t339.length co10 : Value).ownBlock ∧ some k_ ≠ (.slice Ao13 t342.length co13 : Value).ownBlock ∧ some k_ ≠ (.slice Ao17 t347.length co17 : Value).ownBlock ∧ some k_ ≠ (.slice Ao227 t359.length co227 : Value).ownBlock ∧ some k_ ≠ (v365 : Value).ownBlock ∧ some k_ ≠ (.slice Ao240 t367.length co240 : Value).ownBlock) (.slice Ao25 t352.length co25) t352) := ⟨by (with_reducible repeat (first | apply Kd.Q_alloc | apply Kd.Q_drewN | apply Kd.Q_drew)); exact Kd.Q_mono (Kd.Q_far (p := ⟨gb371, 0, none⟩) (Kd.Q_types HO_357000.out BK371.out (by decide)) (fun _ hk => hk.2) (.slice Ao240 t367.length co240)) (fun _ hk => ⟨hk.1.2.2.2.1, ⟨hk.1.2.2.2.2.1, ⟨hk.1.2.2.2.2.2, ⟨hk.1.1, ⟨hk.1.2.1, hk.1.2.2.1⟩⟩⟩⟩⟩)⟩
      have n4_ : Aside0 (Kd.S (Kd.slice 3 (Kd.int .i64)) 43 (w239.setCell ⟨gb371, 0, none⟩ (.slice Ao240 t367.length co240)) w.heap.size (fun k_ => some k_ ≠ (.slice Ao10 t339.length co10 : Value).ownBlock ∧ some k_ ≠ (.slice Ao13 t342.length co13 : Value).ownBlock ∧ some k_ ≠ (.slice Ao17 t347.length co17 : Value).ownBlock ∧ some k_ ≠ (.slice Ao25 t352.length co25 : Value).ownBlock ∧ some k_ ≠ (v365 : Value).ownBlock ∧ some k_ ≠ (.slice Ao240 t367.length co240 : Value).ownBlock) (.slice Ao227 t359.length co227) t359) := ⟨by (with_reducible repeat (first | apply Kd.S_alloc | apply Kd.S_drewN | apply Kd.S_drew)); exact Kd.S_mono (Kd.S_far (p := ⟨gb371, 0, none⟩) (Kd.S_types HO361.out BK371.out (by decide)) (fun _ hk => hk.2) (.slice Ao240 t367.length co240)) (fun _ hk => ⟨hk.1.2.2.1, ⟨hk.1.2.2.2.1, ⟨hk.1.2.2.2.2.1, ⟨hk.1.2.2.2.2.2, ⟨hk.1.1, hk.1.2.1⟩⟩⟩⟩⟩)⟩
      have n5_ : Aside0 (Kd.S (Kd.slice 3 (Kd.int .i64)) 43 (w239.setCell ⟨gb371, 0, none⟩ (.slice Ao240 t367.length co240)) w.heap.size (fun k_ => some k_ ≠ (.slice Ao10 t339.length co10 : Value).ownBlock ∧ some k_ ≠ (.slice Ao13 t342.length co13 : Value).ownBlock ∧ some k_ ≠ (.slice Ao17 t347.length co17 : Value).ownBlock ∧ some k_ ≠ (.slice Ao25 t352.length co25 : Value).ownBlock ∧ some k_ ≠ (.slice Ao227 t359.length co227 : Value).ownBlock ∧ some k_ ≠ (.slice Ao240 t367.length co240 : Value).ownBlock) v365 t364) := ⟨by (with_reducible repeat (first | apply Kd.S_alloc | apply Kd.S_drewN | apply Kd.S_drew)); exact Kd.S_mono (Kd.S_far (p := ⟨gb371, 0, none⟩) (Kd.S_types HO366.out BK371.out (by decide)) (fun _ hk => hk.2) (.slice Ao240 t367.length co240)) (fun _ hk => ⟨hk.1.2.2.1, ⟨hk.1.2.2.2.1, ⟨hk.1.2.2.2.2.1, ⟨hk.1.2.2.2.2.2, ⟨hk.1.1, hk.1.2.1⟩⟩⟩⟩⟩)⟩
      have n6_ : Aside0 (Kd.S (Kd.slice 3 (Kd.int .i64)) 43 (w239.setCell ⟨gb371, 0, none⟩ (.slice Ao240 t367.length co240)) w.heap.size (fun k_ => some k_ ≠ (.slice Ao10 t339.length co10 : Value).ownBlock ∧ some k_ ≠ (.slice Ao13 t342.length co13 : Value).ownBlock ∧ some k_ ≠ (.slice Ao17 t347.length co17 : Value).ownBlock ∧ some k_ ≠ (.slice Ao25 t352.length co25 : Value).ownBlock ∧ some k_ ≠ (.slice Ao227 t359.length co227 : Value).ownBlock ∧ some k_ ≠ (v365 : Value).ownBlock) (.slice Ao240 t367.length co240) t367) := ⟨by (with_reducible repeat (first | apply Kd.S_alloc | apply Kd.S_drewN | apply Kd.S_drew)); exact Kd.S_mono (Kd.S_far (p := ⟨gb371, 0, none⟩) (Kd.S_types HO369.out BK371.out (by decide)) (fun _ hk => hk.2) (.slice Ao240 t367.length co240)) (fun _ hk => ⟨hk.1.2.2.1, ⟨hk.1.2.2.2.1, ⟨hk.1.2.2.2.2.1, ⟨hk.1.2.2.2.2.2, ⟨hk.1.1, hk.1.2.1⟩⟩⟩⟩⟩)⟩
      have n7_ : Aside0 ((w239.setCell ⟨gb371, 0, none⟩ (.slice Ao240 t367.length co240)).heap[gb345]? = some (.cells #[.slice Ao10 t339.length co10] 25 (0, 0))) := ⟨by (with_reducible repeat (first | refine blk_drewN ?_ _ | refine blk_drew ?_ | refine blk_alloc ?_ _)); refine blk_far ?_ NB345_371.out _; (with_reducible repeat (first | refine blk_drewN ?_ _ | refine blk_drew ?_ | refine blk_alloc ?_ _)); exact BK345.out⟩
      have n8_ : Aside0 ((w239.setCell ⟨gb371, 0, none⟩ (.slice Ao240 t367.length co240)).heap[gb346]? = some (.cells #[.slice Ao13 t342.length co13] 25 (0, 0))) := ⟨by (with_reducible repeat (first | refine blk_drewN ?_ _ | refine blk_drew ?_ | refine blk_alloc ?_ _)); refine blk_far ?_ NB346_371.out _; (with_reducible repeat (first | refine blk_drewN ?_ _ | refine blk_drew ?_ | refine blk_alloc ?_ _)); exact BK346.out⟩
      have n9_ : Aside0 ((w239.setCell ⟨gb371, 0, none⟩ (.slice Ao240 t367.length co240)).heap[gb351]? = some (.cells #[.slice Ao17 t347.length co17] 25 (0, 0))) := ⟨by (with_reducible repeat (first | refine blk_drewN ?_ _ | refine blk_drew ?_ | refine blk_alloc ?_ _)); refine blk_far ?_ NB351_371.out _; (with_reducible repeat (first | refine blk_drewN ?_ _ | refine blk_drew ?_ | refine blk_alloc ?_ _)); exact BK351.out⟩
      have n10_ : Aside0 ((w239.setCell ⟨gb371, 0, none⟩ (.slice Ao240 t367.length co240)).heap[gb356]? = some (.cells #[.slice Ao25 t352.length co25] 25 (0, 0))) := ⟨by (with_reducible repeat (first | refine blk_drewN ?_ _ | refine blk_drew ?_ | refine blk_alloc ?_ _)); refine blk_far ?_ NB356_371.out _; (with_reducible repeat (first | refine blk_drewN ?_ _ | refine blk_drew ?_ | refine blk_alloc ?_ _)); exact BK356.out⟩
      have n11_ : Aside0 ((w239.setCell ⟨gb371, 0, none⟩ (.slice Ao240 t367.length co240)).heap[gb363]? = some (.cells #[.slice Ao227 t359.length co227] 25 (0, 0))) := ⟨by (with_reducible repeat (first | refine blk_drewN ?_ _ | refine blk_drew ?_ | refine blk_alloc ?_ _)); refine blk_far ?_ NB363_371.out _; (with_reducible repeat (first | refine blk_drewN ?_ _ | refine blk_drew ?_ | refine blk_alloc ?_ _)); exact BK363.out⟩
      have n12_ : Aside0 ((w239.setCell ⟨gb371, 0, none⟩ (.slice Ao240 t367.length co240)).heap[gb371]? = some (.cells #[.slice Ao240 t367.length co240] 25 (0, 0))) := ⟨by (with_reducible repeat (first | refine blk_drewN ?_ _ | refine blk_drew ?_ | refine blk_alloc ?_ _)); refine blk_put (cs := #[.slice none 0 0]) ?_ 0 _ rfl; (with_reducible repeat (first | refine blk_drewN ?_ _ | refine blk_drew ?_ | refine blk_alloc ?_ _)); exact BK371.out⟩
      have n13_ : Aside0 (Below w.heap.size w (w239.setCell ⟨gb371, 0, none⟩ (.slice Ao240 t367.length co240))) := ⟨q4_0⟩
      (try clear HO_346000);(try clear HO_347000);(try clear HO_352000);(try clear HO_357000);(try clear HO361);(try clear HO366);(try clear HO369);(try clear BK345);(try clear BK346);(try clear BK351);(try clear BK356);(try clear BK363);(try clear BK371);(try clear HB)
      generalize (w239.setCell ⟨gb371, 0, none⟩ (.slice Ao240 t367.length co240)) = w242 at n0_ n1_ n2_ n3_ n4_ n5_ n6_ n7_ n8_ n9_ n10_ n11_ n12_ n13_ ⊢
      have HO_346000 := n0_;have HO_347000 := n1_;have HO_352000 := n2_;have HO_357000 := n3_;have HO361 := n4_;have HO366 := n5_;have HO369 := n6_;have BK345 := n7_;have BK346 := n8_;have BK351 := n9_;have BK356 := n10_;have BK363 := n11_;have BK371 := n12_;have HB := n13_;clear n0_ n1_ n2_ n3_ n4_ n5_ n6_ n7_ n8_ n9_ n10_ n11_ n12_ n13_;have n0_ := Aside0.mk (Kd.Q_drew HO_346000.out);have n1_ := Aside0.mk (Kd.Q_drew HO_347000.out);have n2_ := Aside0.mk (Kd.Q_drew HO_352000.out);have n3_ := Aside0.mk (Kd.Q_drew HO_357000.out);have n4_ := Aside0.mk (Kd.S_drew HO361.out);have n5_ := Aside0.mk (Kd.S_drew HO366.out);have n6_ := Aside0.mk (Kd.S_drew HO369.out);have n7_ := Aside0.mk (blk_drew BK345.out);have n8_ := Aside0.mk (blk_drew BK346.out);have n9_ := Aside0.mk (blk_drew BK351.out);have n10_ := Aside0.mk (blk_drew BK356.out);have n11_ := Aside0.mk (blk_drew BK363.out);have n12_ := Aside0.mk (blk_drew BK371.out);have n13_ := Aside0.mk (below_drew1 HB.out);clear HO_346000 HO_347000 HO_352000 HO_357000 HO361 HO366 HO369 BK345 BK346 BK351 BK356 BK363 BK371 HB;have HO_346000 := n0_;have HO_347000 := n1_;have HO_352000 := n2_;have HO_357000 := n3_;have HO361 := n4_;have HO366 := n5_;have HO369 := n6_;have BK345 := n7_;have BK346 := n8_;have BK351 := n9_;have BK356 := n10_;have BK363 := n11_;have BK371 := n12_;have HB := n13_;clear n0_ n1_ n2_ n3_ n4_ n5_ n6_ n7_ n8_ n9_ n10_ n11_ n12_ n13_;refine start_ (n := 29) (S := fun w' => w'.cell? ⟨gb356, 0, none⟩ = some (.slice Ao25 t352.length co25)) (ds := []) laws_FnRoughJoin.D0 (by kernel_rfl) rfl rfl ((blk_cell BK356.out 0).trans rfl) (fun hHeld => ?_); refine with_tabW laws_FnRoughJoin.tab10 laws_FnRoughJoin.bits10 (fun HT_ HW_ => ?_)
      generalize w242.drew = w243 at HO_346000 HO_347000 HO_352000 HO_357000 HO361 HO366 HO369 BK345 BK346 BK351 BK356 BK363 BK371 HB hHeld ⊢
      refine take_ (i := 0) (N := some 66) (v := ?_) (a' := ?_) laws_FnRoughJoin.D1 rfl rfl (take_ofW HT_.out HW_.out (by kernel_rfl)) (fun _ _ _ h => h) (Or.inl ⟨by rfl, ?_⟩) hHeld ?_ ?_;rotate_left
      ·
       intro w' s0
       go_simp
       with_reducible rfl
      rotate_left
      ·
       simp only [Act.put, List.setIfInBounds_toArray, List.set_cons_zero, List.set_cons_succ, i64_w, i32_w]
       rfl
      refine one_ (i := 1) (N := some 67) laws_FnRoughJoin.D2 rfl rfl (one_of HT_.out (by kernel_rfl)) (by decide) (fun K hK => ?_);refine goes_ Try.func17 (by kernel_rfl) rfl #[.agg #[.slice Ao25 t352.length co25]] (by rfl) rfl rfl q4_11 ?_
      with_reducible refine (impl_RoughOk.calls kj5 _ _ t352 false _ ?side1 ?side2 A63.out).mono ?_
      (case side1 => exact q4_16);(case side2 => exact (Kd.Q_reads' HO_357000.out).2.1);rintro e w244 ⟨rfl, hb⟩;refine ⟨_, rfl, ?_⟩;have n0_ := Aside0.mk (Kd.Q_below q4_7 hb);have n1_ := Aside0.mk (Kd.Q_below q4_8 hb);have n2_ := Aside0.mk (Kd.Q_below q4_9 hb);have n3_ := Aside0.mk (Kd.Q_below q4_10 hb);have n4_ := Aside0.mk (Kd.S_below q4_13 hb);have n5_ := Aside0.mk (Kd.S_below q4_15 hb);have n6_ := Aside0.mk (Kd.S_below q4_17 hb);have n7_ := Aside0.mk (blk_below (g := gb345) (o := .cells #[.slice Ao10 t339.length co10] 25 (0, 0)) q4_1 hb);have n8_ := Aside0.mk (blk_below (g := gb346) (o := .cells #[.slice Ao13 t342.length co13] 25 (0, 0)) q4_2 hb);have n9_ := Aside0.mk (blk_below (g := gb351) (o := .cells #[.slice Ao17 t347.length co17] 25 (0, 0)) q4_3 hb);have n10_ := Aside0.mk (blk_below (g := gb356) (o := .cells #[.slice Ao25 t352.length co25] 25 (0, 0)) q4_4 hb);have n11_ := Aside0.mk (blk_below (g := gb363) (o := .cells #[.slice Ao227 t359.length co227] 25 (0, 0)) q4_6 hb);have n12_ := Aside0.mk (blk_below (g := gb371) (o := .cells #[.slice Ao240 t367.length co240] 25 (0, 0)) q4_14 hb);have n13_ := Aside0.mk (below_step q4_0 hb);clear HO_346000 HO_347000 HO_352000 HO_357000 HO361 HO366 HO369 BK345 BK346 BK351 BK356 BK363 BK371 HB;have HO_346000 := n0_;have HO_347000 := n1_;have HO_352000 := n2_;have HO_357000 := n3_;have HO361 := n4_;have HO366 := n5_;have HO369 := n6_;have BK345 := n7_;have BK346 := n8_;have BK351 := n9_;have BK356 := n10_;have BK363 := n11_;have BK371 := n12_;have HB := n13_;clear n0_ n1_ n2_ n3_ n4_ n5_ n6_ n7_ n8_ n9_ n10_ n11_ n12_ n13_;(try clear hb);(try clear hb2);(try clear hk);(try clear hi);refine hK.out _ _ ((blk_cell BK356.out 0).trans rfl) (fun hHeld => ?_);clear hK K;refine norm_ (a' := ?_) ?_ ?_;rotate_left
      ·
       show Act.put _ (some 67) _ = _
       simp only [Act.put, List.setIfInBounds_toArray, List.set_cons_zero, List.set_cons_succ, i64_w, i32_w]
       rfl
      refine pure_ (i := 2) (N := some 68) (v := ?_) (a' := ?_) laws_FnRoughJoin.D3 rfl rfl (any_of HT_.out (by kernel_rfl)) (fun _ _ _ h => h) (Or.inl ⟨by rfl, ?_⟩) ?_ ?_;rotate_left
      ·
       intro w'
       go_simp
       with_reducible rfl
      rotate_left
      ·
       simp only [Act.put, List.setIfInBounds_toArray, List.set_cons_zero, List.set_cons_succ, i64_w, i32_w]
       rfl
      refine pure_ (i := 3) (N := some 69) (v := undef) (a' := ?_) laws_FnRoughJoin.D4 rfl rfl (any_of HT_.out (by kernel_rfl)) (fun _ _ _ h => h) (Or.inr ⟨by rfl, rfl⟩) ?_ ?_;rotate_left
      ·
       simp only [Act.put, List.setIfInBounds_toArray, List.set_cons_zero, List.set_cons_succ, i64_w, i32_w]
       rfl
      refine pure_ (i := 4) (N := some 70) (v := ?_) (a' := ?_) laws_FnRoughJoin.D5 rfl rfl (any_of HT_.out (by kernel_rfl)) (fun _ _ _ h => h) (Or.inl ⟨by rfl, ?_⟩) ?_ ?_;rotate_left
      ·
       intro w'
       go_simp
       with_reducible rfl
      rotate_left
      ·
       simp only [Act.put, List.setIfInBounds_toArray, List.set_cons_zero, List.set_cons_succ, i64_w, i32_w]
       rfl
      refine pure_ (i := 5) (N := some 71) (v := ?_) (a' := ?_) laws_FnRoughJoin.D6 rfl rfl (any_of HT_.out (by kernel_rfl)) (fun _ _ _ h => h) (Or.inl ⟨by rfl, ?_⟩) ?_ ?_;rotate_left
      ·
       intro w'
       go_simp
       with_reducible rfl
      rotate_left
      ·
       simp only [Act.put, List.setIfInBounds_toArray, List.set_cons_zero, List.set_cons_succ, i64_w, i32_w]
       rfl
      refine pure_ (i := 6) (N := some 72) (v := undef) (a' := ?_) laws_FnRoughJoin.D7 rfl rfl (any_of HT_.out (by kernel_rfl)) (fun _ _ _ h => h) (Or.inr ⟨by rfl, rfl⟩) ?_ ?_;rotate_left
      ·
       simp only [Act.put, List.setIfInBounds_toArray, List.set_cons_zero, List.set_cons_succ, i64_w, i32_w]
       rfl
      refine pure_ (i := 7) (N := some 73) (v := undef) (a' := ?_) laws_FnRoughJoin.D8 rfl rfl (any_of HT_.out (by kernel_rfl)) (fun _ _ _ h => h) (Or.inr ⟨by rfl, rfl⟩) ?_ ?_;rotate_left
      ·
       simp only [Act.put, List.setIfInBounds_toArray, List.set_cons_zero, List.set_cons_succ, i64_w, i32_w]
       rfl
      refine pure_ (i := 8) (N := some 74) (v := undef) (a' := ?_) laws_FnRoughJoin.D9 rfl rfl (any_of HT_.out (by kernel_rfl)) (fun _ _ _ h => h) (Or.inr ⟨by rfl, rfl⟩) ?_ ?_;rotate_left
      ·
       simp only [Act.put, List.setIfInBounds_toArray, List.set_cons_zero, List.set_cons_succ, i64_w, i32_w]
       rfl
      refine pure_ (i := 9) (N := some 75) (v := ?_) (a' := ?_) laws_FnRoughJoin.D10 rfl rfl (any_of HT_.out (by kernel_rfl)) (fun _ _ _ h => h) (Or.inl ⟨by rfl, ?_⟩) ?_ ?_;rotate_left
      ·
       intro w'
       go_simp
       with_reducible rfl
      rotate_left
      ·
       simp only [Act.put, List.setIfInBounds_toArray, List.set_cons_zero, List.set_cons_succ, i64_w, i32_w]
       rfl
      refine pure_ (i := 10) (N := some 76) (v := ?_) (a' := ?_) laws_FnRoughJoin.D11 rfl rfl (any_of HT_.out (by kernel_rfl)) (fun _ _ _ h => h) (Or.inl ⟨by rfl, ?_⟩) ?_ ?_;rotate_left
      ·
       intro w'
       go_simp
       with_reducible rfl
      rotate_left
      ·
       simp only [Act.put, List.setIfInBounds_toArray, List.set_cons_zero, List.set_cons_succ, i64_w, i32_w]
       rfl
      refine pure_ (i := 11) (N := some 77) (v := undef) (a' := ?_) laws_FnRoughJoin.D12 rfl rfl (any_of HT_.out (by kernel_rfl)) (fun _ _ _ h => h) (Or.inr ⟨by rfl, rfl⟩) ?_ ?_;rotate_left
      ·
       simp only [Act.put, List.setIfInBounds_toArray, List.set_cons_zero, List.set_cons_succ, i64_w, i32_w]
       rfl
      refine pure_ (i := 12) (N := some 78) (v := ?_) (a' := ?_) laws_FnRoughJoin.D13 rfl rfl (any_of HT_.out (by kernel_rfl)) (fun _ _ _ h => h) (Or.inl ⟨by rfl, ?_⟩) ?_ ?_;rotate_left
      ·
       intro w'
       go_simp
       with_reducible rfl
      rotate_left
      ·
       simp only [Act.put, List.setIfInBounds_toArray, List.set_cons_zero, List.set_cons_succ, i64_w, i32_w]
       rfl
      refine pure_ (i := 13) (N := some 79) (v := ?_) (a' := ?_) laws_FnRoughJoin.D14 rfl rfl (any_of HT_.out (by kernel_rfl)) (fun _ _ _ h => h) (Or.inl ⟨by rfl, ?_⟩) ?_ ?_;rotate_left
      ·
       intro w'
       go_simp
       with_reducible rfl
      rotate_left
      ·
       simp only [Act.put, List.setIfInBounds_toArray, List.set_cons_zero, List.set_cons_succ, i64_w, i32_w]
       rfl
      refine pure_ (i := 14) (N := some 80) (v := undef) (a' := ?_) laws_FnRoughJoin.D15 rfl rfl (any_of HT_.out (by kernel_rfl)) (fun _ _ _ h => h) (Or.inr ⟨by rfl, rfl⟩) ?_ ?_;rotate_left
      ·
       simp only [Act.put, List.setIfInBounds_toArray, List.set_cons_zero, List.set_cons_succ, i64_w, i32_w]
       rfl
      refine pure_ (i := 15) (N := some 81) (v := undef) (a' := ?_) laws_FnRoughJoin.D16 rfl rfl (any_of HT_.out (by kernel_rfl)) (fun _ _ _ h => h) (Or.inr ⟨by rfl, rfl⟩) ?_ ?_;rotate_left
      ·
       simp only [Act.put, List.setIfInBounds_toArray, List.set_cons_zero, List.set_cons_succ, i64_w, i32_w]
       rfl
      refine pure_ (i := 16) (N := some 82) (v := undef) (a' := ?_) laws_FnRoughJoin.D17 rfl rfl (any_of HT_.out (by kernel_rfl)) (fun _ _ _ h => h) (Or.inr ⟨by rfl, rfl⟩) ?_ ?_;rotate_left
      ·
       simp only [Act.put, List.setIfInBounds_toArray, List.set_cons_zero, List.set_cons_succ, i64_w, i32_w]
       rfl
      refine pure_ (i := 17) (N := some 83) (v := ?_) (a' := ?_) laws_FnRoughJoin.D18 rfl rfl (any_of HT_.out (by kernel_rfl)) (fun _ _ _ h => h) (Or.inl ⟨by rfl, ?_⟩) ?_ ?_;rotate_left
      ·
       intro w'
       go_simp
       with_reducible rfl
      rotate_left
      ·
       simp only [Act.put, List.setIfInBounds_toArray, List.set_cons_zero, List.set_cons_succ, i64_w, i32_w]
       rfl
      refine pure_ (i := 18) (N := some 84) (v := ?_) (a' := ?_) laws_FnRoughJoin.D19 rfl rfl (any_of HT_.out (by kernel_rfl)) (fun _ _ _ h => h) (Or.inl ⟨by rfl, ?_⟩) ?_ ?_;rotate_left
      ·
       intro w'
       go_simp
       with_reducible rfl
      rotate_left
      ·
       simp only [Act.put, List.setIfInBounds_toArray, List.set_cons_zero, List.set_cons_succ, i64_w, i32_w]
       rfl
      refine pure_ (i := 19) (N := some 85) (v := undef) (a' := ?_) laws_FnRoughJoin.D20 rfl rfl (any_of HT_.out (by kernel_rfl)) (fun _ _ _ h => h) (Or.inr ⟨by rfl, rfl⟩) ?_ ?_;rotate_left
      ·
       simp only [Act.put, List.setIfInBounds_toArray, List.set_cons_zero, List.set_cons_succ, i64_w, i32_w]
       rfl
      refine pure_ (i := 20) (N := some 86) (v := undef) (a' := ?_) laws_FnRoughJoin.D30 rfl rfl (any_of HT_.out (by kernel_rfl)) (fun _ _ _ h => h) (Or.inr ⟨by rfl, rfl⟩) ?_ ?_;rotate_left
      ·
       simp only [Act.put, List.setIfInBounds_toArray, List.set_cons_zero, List.set_cons_succ, i64_w, i32_w]
       rfl
      refine pure_ (i := 21) (N := some 87) (v := undef) (a' := ?_) laws_FnRoughJoin.D31 rfl rfl (any_of HT_.out (by kernel_rfl)) (fun _ _ _ h => h) (Or.inr ⟨by rfl, rfl⟩) ?_ ?_;rotate_left
      ·
       simp only [Act.put, List.setIfInBounds_toArray, List.set_cons_zero, List.set_cons_succ, i64_w, i32_w]
       rfl
      refine pure_ (i := 22) (N := some 88) (v := undef) (a' := ?_) laws_FnRoughJoin.D32 rfl rfl (any_of HT_.out (by kernel_rfl)) (fun _ _ _ h => h) (Or.inr ⟨by rfl, rfl⟩) ?_ ?_;rotate_left
      ·
       simp only [Act.put, List.setIfInBounds_toArray, List.set_cons_zero, List.set_cons_succ, i64_w, i32_w]
       rfl
      refine pure_ (i := 23) (N := some 89) (v := undef) (a' := ?_) laws_FnRoughJoin.D24 rfl rfl (any_of HT_.out (by kernel_rfl)) (fun _ _ _ h => h) (Or.inr ⟨by rfl, rfl⟩) ?_ ?_;rotate_left
      ·
       simp only [Act.put, List.setIfInBounds_toArray, List.set_cons_zero, List.set_cons_succ, i64_w, i32_w]
       rfl
      refine pure_ (i := 24) (N := some 90) (v := undef) (a' := ?_) laws_FnRoughJoin.D25 rfl rfl (any_of HT_.out (by kernel_rfl)) (fun _ _ _ h => h) (Or.inr ⟨by rfl, rfl⟩) ?_ ?_;rotate_left
      ·
       simp only [Act.put, List.setIfInBounds_toArray, List.set_cons_zero, List.set_cons_succ, i64_w, i32_w]
       rfl
      refine pure_ (i := 25) (N := some 91) (v := undef) (a' := ?_) laws_FnRoughJoin.D26 rfl rfl (any_of HT_.out (by kernel_rfl)) (fun _ _ _ h => h) (Or.inr ⟨by rfl, rfl⟩) ?_ ?_;rotate_left
      ·
       simp only [Act.put, List.setIfInBounds_toArray, List.set_cons_zero, List.set_cons_succ, i64_w, i32_w]
       rfl
      refine pure_ (i := 26) (N := some 92) (v := undef) (a' := ?_) laws_FnRoughJoin.D27 rfl rfl (any_of HT_.out (by kernel_rfl)) (fun _ _ _ h => h) (Or.inr ⟨by rfl, rfl⟩) ?_ ?_;rotate_left
      ·
       simp only [Act.put, List.setIfInBounds_toArray, List.set_cons_zero, List.set_cons_succ, i64_w, i32_w]
       rfl
      refine pure_ (i := 27) (N := some 93) (v := ?_) (a' := ?_) laws_FnRoughJoin.D28 rfl rfl (any_of HT_.out (by kernel_rfl)) (fun _ _ _ h => h) (Or.inl ⟨by rfl, ?_⟩) ?_ ?_;rotate_left
      ·
       intro w'
       go_simp
       with_reducible rfl
      rotate_left
      ·
       simp only [Act.put, List.setIfInBounds_toArray, List.set_cons_zero, List.set_cons_succ, i64_w, i32_w]
       rfl
      refine pure_ (i := 28) (N := some 2) (v := ?_) (a' := ?_) laws_FnRoughJoin.D29 rfl rfl (any_of HT_.out (by kernel_rfl)) (fun _ _ _ h => h) (Or.inl ⟨by rfl, ?_⟩) ?_ ?_;rotate_left
      ·
       intro w'
       go_simp
       with_reducible rfl
      rotate_left
      ·
       simp only [Act.put, List.setIfInBounds_toArray, List.set_cons_zero, List.set_cons_succ, i64_w, i32_w]
       rfl
      refine done_ (done_of HT_.out (by kernel_rfl)) ?_
      try go_wp2
      go_ret
      exact ⟨q4_26, q4_0⟩

/-- THE ONE PURE STATEMENT of laws_FnRoughJoin: yours. -/
def laws_FnRoughJoin.Pure : Prop := ∀ (l0 : List Int), l0.length ≤ maxLen → l0.length * 1 ≤ 140737488351232 → (∀ x ∈ l0, (Lit.int .u8 x).wf = true) → ∃ k, laws_FnRoughJoin.f k l0 = some true
theorem laws_FnRoughJoin.walk (P : laws_FnRoughJoin.Pure) (a0 : Option Addr) (len0 cap0 : Nat) (z0 : List Int) (w : World) (w0 : (a0 = none ∧ len0 = 0 ∧ cap0 = 0 ∧ z0 = []) ∨ ∃ x, a0 = some x ∧ len0 ≤ cap0 ∧ cap0 ≤ maxLen ∧ z0.length = cap0 ∧ (∀ i, i < z0.length → w.cell? (x.add i) = some (.int .u8 (z0.getD i 0))) ∧ ∀ n ∈ z0, (Lit.int .u8 n).wf = true) (y0 : len0 * 1 ≤ 140737488351232) :
    Calls Try.prog 4 #[.slice a0 len0 cap0] w fun e w' => e = .returned (.bool true) ∧ Below w.heap.size w w' := by
 obtain ⟨l0, rfl, hr0, hm0, hw0, hc0⟩ := ReadsInt.ofRowC w0;obtain ⟨k, h⟩ := P l0 hm0 y0 hw0;refine (laws_FnRoughJoin.calls k _ _ l0 true w (Kd.C_of_reads (d := (0 : Int)) (h1 := fun _ => rfl) hr0) hc0 h).mono ?_;rintro e w' ⟨rfl, hd⟩
 exact ⟨rfl, hd⟩

end Go.Proofs.Ytojhkhpgahhacaa.PA
