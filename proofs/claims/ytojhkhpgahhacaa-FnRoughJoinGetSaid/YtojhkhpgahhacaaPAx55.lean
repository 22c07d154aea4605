-- Made by a program of this session (wip/tools/pr2.sh) out of the translation, by way of the printer: shared by the seat's laws.
import Derived.Test.YtojhkhpgahhacaaPAx0
import Derived.Test.YtojhkhpgahhacaaPAx11
import Derived.Test.YtojhkhpgahhacaaPAx12
import Derived.Test.YtojhkhpgahhacaaPAx15
import Derived.Test.YtojhkhpgahhacaaPAx21
import Derived.Test.YtojhkhpgahhacaaPAx23
import Derived.Test.YtojhkhpgahhacaaPAx28
import Derived.Test.YtojhkhpgahhacaaPAx31
namespace Go.Proofs.Ytojhkhpgahhacaa.PA
open Go.RowKit Go.Proofs.YtojhkhpgahhacaaW.PrintWords Go.Proofs.YtojhkhpgahhacaaW.PrintLast Go.Proofs.YtojhkhpgahhacaaW.PrintMore
attribute [local go_sem] max2_int min2_int max_two min_two max_three min_three max_four min_four   -- for this text's walks alone
set_option linter.unusedVariables false
set_option linter.unusedSimpArgs false

/-! ### laws_FnRoughJoinGet: function 10 -/
mutual
def laws_FnRoughJoinGet.j0 : Nat → List Int → List Int → Bool → Option (Bool)
  | 0, _, _, _ => none
  | k + 1, x0, x1, x21 => if x21 = true then (some true) else ((spec_DrawRoughJoin.f k x0).bind fun bt651 => ((spec_DrawRoughGet.f k x1).bind fun bt659 => ((spec_RoughJoin.f k bt651.1 bt651.2).bind fun bt664 => ((impl_RoughJoin.f k bt651.1 bt651.2).bind fun bt669 => (if (bt669.2 != bt664.2) = true then (laws_FnRoughJoinGet.j1 k bt659.2 bt664.2 bt669.2 true bt651.1 bt651.2 bt664.1 bt669.1) else ((laws_lkRough.f k bt669.1 bt664.1).bind fun t674 => (if t674 = true then (if bt669.2 = true then (if bt659.2 < 0 then (laws_FnRoughJoinGet.j1 k bt659.2 bt664.2 bt669.2 true bt651.1 bt651.2 bt664.1 bt669.1) else (laws_FnRoughJoinGet.j1 k bt659.2 bt664.2 bt669.2 (decide (bt659.2 ≥ 64)) bt651.1 bt651.2 bt664.1 bt669.1)) else (laws_FnRoughJoinGet.j1 k bt659.2 bt664.2 bt669.2 true bt651.1 bt651.2 bt664.1 bt669.1)) else (laws_FnRoughJoinGet.j1 k bt659.2 bt664.2 bt669.2 true bt651.1 bt651.2 bt664.1 bt669.1))))))))
def laws_FnRoughJoinGet.j1 : Nat → Int → Bool → Bool → Bool → List (List Int) → List (List Int) → List (List Int) → List (List Int) → Option (Bool)
  | 0, _, _, _, _, _, _, _, _ => none
  | k + 1, x8, x10, x12, x64, x658000, x659000, x669000, x674000 => if x64 = true then (if (x12 == x10) = true then ((laws_lkRough.f k x674000 x669000).bind fun t675 => (some t675)) else (some false)) else ((impl_RoughGet.f k x674000 x8).bind fun t676 => ((impl_RoughGet.f k x658000 x8).bind fun t677 => ((impl_RoughGet.f k x659000 x8).bind fun t678 => (if t676 ≥ (wrap64 (t677 + t678)) then ((impl_RoughGet.f k x658000 x8).bind fun t679 => ((impl_RoughAll.f k x659000).bind fun t680 => (some (decide (t676 ≤ (wrap64 (t679 + t680))))))) else (some false)))))
end
def laws_FnRoughJoinGet.f (k : Nat) (l0 : List Int) (l1 : List Int) : Option (Bool) := if (l0.length : Int) > 1048576 then (laws_FnRoughJoinGet.j0 k l0 l1 true) else (laws_FnRoughJoinGet.j0 k l0 l1 (decide ((l1.length : Int) > 1048576)))
theorem laws_FnRoughJoinGet.mono_l : ∀ k, (∀ y0 y1 y2, LeO (laws_FnRoughJoinGet.j0 k y0 y1 y2) (laws_FnRoughJoinGet.j0 (k + 1) y0 y1 y2)) ∧ (∀ y0 y1 y2 y3 y4 y5 y6 y7, LeO (laws_FnRoughJoinGet.j1 k y0 y1 y2 y3 y4 y5 y6 y7) (laws_FnRoughJoinGet.j1 (k + 1) y0 y1 y2 y3 y4 y5 y6 y7))
  | 0 => ⟨fun _ _ _ r h => by simp [laws_FnRoughJoinGet.j0] at h, fun _ _ _ _ _ _ _ _ r h => by simp [laws_FnRoughJoinGet.j1] at h⟩
  | k + 1 => by
    obtain ⟨ih0, ih1⟩ := laws_FnRoughJoinGet.mono_l k
    refine ⟨?_, ?_⟩
    · intro y0 y1 y2
      unfold laws_FnRoughJoinGet.j0
      repeat' first
      | (with_reducible exact ih0 _ _ _)
      | (with_reducible exact ih1 _ _ _ _ _ _ _ _)
      | (with_reducible exact impl_RoughAll.mono _ _)
      | (with_reducible exact impl_RoughGet.mono _ _ _)
      | (with_reducible exact impl_RoughJoin.mono _ _ _)
      | (with_reducible exact laws_lkRough.mono _ _ _)
      | (with_reducible exact spec_DrawRoughGet.mono _ _)
      | (with_reducible exact spec_DrawRoughJoin.mono _ _)
      | (with_reducible exact spec_RoughJoin.mono _ _ _)
      | (with_reducible exact LeO.refl _)
      | (with_reducible exact LeO.none _)
      | (with_reducible refine LeO.ite ?_ ?_)
      | (with_reducible refine LeO.bind ?_ (fun _ => ?_))
      | exact ih0 _ _ _
      | exact ih1 _ _ _ _ _ _ _ _
      | exact impl_RoughAll.mono _ _
      | exact impl_RoughGet.mono _ _ _
      | exact impl_RoughJoin.mono _ _ _
      | exact laws_lkRough.mono _ _ _
      | exact spec_DrawRoughGet.mono _ _
      | exact spec_DrawRoughJoin.mono _ _
      | exact spec_RoughJoin.mono _ _ _
      | exact LeO.none _
      | refine LeO.ite ?_ ?_
      | refine LeO.bind ?_ (fun _ => ?_)
    · intro y0 y1 y2 y3 y4 y5 y6 y7
      unfold laws_FnRoughJoinGet.j1
      repeat' first
      | (with_reducible exact ih0 _ _ _)
      | (with_reducible exact ih1 _ _ _ _ _ _ _ _)
      | (with_reducible exact impl_RoughAll.mono _ _)
      | (with_reducible exact impl_RoughGet.mono _ _ _)
      | (with_reducible exact impl_RoughJoin.mono _ _ _)
      | (with_reducible exact laws_lkRough.mono _ _ _)
      | (with_reducible exact spec_DrawRoughGet.mono _ _)
      | (with_reducible exact spec_DrawRoughJoin.mono _ _)
      | (with_reducible exact spec_RoughJoin.mono _ _ _)
      | (with_reducible exact LeO.refl _)
      | (with_reducible exact LeO.none _)
      | (with_reducible refine LeO.ite ?_ ?_)
      | (with_reducible refine LeO.bind ?_ (fun _ => ?_))
      | exact ih0 _ _ _
      | exact ih1 _ _ _ _ _ _ _ _
      | exact impl_RoughAll.mono _ _
      | exact impl_RoughGet.mono _ _ _
      | exact impl_RoughJoin.mono _ _ _
      | exact laws_lkRough.mono _ _ _
      | exact spec_DrawRoughGet.mono _ _
      | exact spec_DrawRoughJoin.mono _ _
      | exact spec_RoughJoin.mono _ _ _
      | exact LeO.none _
      | refine LeO.ite ?_ ?_
      | refine LeO.bind ?_ (fun _ => ?_)
theorem laws_FnRoughJoinGet.mono : ∀ a0 a1 k, LeO (laws_FnRoughJoinGet.f k a0 a1) (laws_FnRoughJoinGet.f (k + 1) a0 a1) := by
  intro a0 a1 k
  obtain ⟨ih0, ih1⟩ := laws_FnRoughJoinGet.mono_l k
  unfold laws_FnRoughJoinGet.f
  repeat' first
      | (with_reducible exact ih0 _ _ _)
      | (with_reducible exact ih1 _ _ _ _ _ _ _ _)
      | (with_reducible exact impl_RoughAll.mono _ _)
      | (with_reducible exact impl_RoughGet.mono _ _ _)
      | (with_reducible exact impl_RoughJoin.mono _ _ _)
      | (with_reducible exact laws_lkRough.mono _ _ _)
      | (with_reducible exact spec_DrawRoughGet.mono _ _)
      | (with_reducible exact spec_DrawRoughJoin.mono _ _)
      | (with_reducible exact spec_RoughJoin.mono _ _ _)
      | (with_reducible exact LeO.refl _)
      | (with_reducible exact LeO.none _)
      | (with_reducible refine LeO.ite ?_ ?_)
      | (with_reducible refine LeO.bind ?_ (fun _ => ?_))
      | exact ih0 _ _ _
      | exact ih1 _ _ _ _ _ _ _ _
      | exact impl_RoughAll.mono _ _
      | exact impl_RoughGet.mono _ _ _
      | exact impl_RoughJoin.mono _ _ _
      | exact laws_lkRough.mono _ _ _
      | exact spec_DrawRoughGet.mono _ _
      | exact spec_DrawRoughJoin.mono _ _
      | exact spec_RoughJoin.mono _ _ _
      | exact LeO.none _
      | refine LeO.ite ?_ ?_
      | refine LeO.bind ?_ (fun _ => ?_)
def laws_FnRoughJoinGet.T10 : Bool × List (List Nat × List Nat) := (true, [([], []), ([], []), ([], []), ([1, 2], [1, 2]), ([], []), ([], []), ([4, 5, 3], [4, 5]), ([3, 6], [3, 6]), ([0, 7], [0, 7]), ([8, 6], [8]), ([9], [9]), ([9], [9]), ([9], [9]), ([11, 12, 9, 9], [9, 11, 12]), ([9], [9]), ([14, 13, 9], [9, 14]), ([13, 15, 9], [9, 13, 15]), ([10, 16, 9], [9, 10, 16]), ([9, 17], [9, 17]), ([18, 15, 0, 1, 2, 3, 4, 5, 6, 7, 8, 9, 10, 11, 12, 13, 14, 15, 16, 17, 18], [18])])
def laws_FnRoughJoinGet.B10 : List Nat := [0, 0, 0, 6, 0, 0, 62, 126, 255, 511, 1023, 1023, 1023, 7167, 1023, 31743, 64511, 131071, 262143, 524287]
theorem laws_FnRoughJoinGet.tab10 : rtab .any (opsOf Try.f10 10) = laws_FnRoughJoinGet.T10 := by kernel_rfl
theorem laws_FnRoughJoinGet.bits10 : waitsOk laws_FnRoughJoinGet.T10.2 laws_FnRoughJoinGet.B10 = true := by kernel_rfl
theorem q10_0 {p : Prop} (h : p := by repeat (first | (with_reducible first | exact HB.out | apply below_alloc | apply pw_below_drewN | apply below_drew1 | refine below_set ?_ GE657.out | refine below_set ?_ GE658.out | refine below_set ?_ GE663.out | refine below_set ?_ GE668.out | refine below_set ?_ GE673.out) | exact HB.out)) : p := h
theorem q10_1 {p : Prop} (h : p := by (with_reducible repeat (first | refine blk_drewN ?_ _ | refine blk_drew ?_ | refine blk_alloc ?_ _)); exact BK657.out) : p := h
theorem q10_2 {p : Prop} (h : p := by refine (Kd.S_reads' (e := 43) (base := w.heap.size) (ok := fun k_ => ((((True ∧ some k_ ≠ (.slice Ao14 t651.length co14 : Value).ownBlock) ∧ some k_ ≠ (.slice Ao17 t654.length co17 : Value).ownBlock) ∧ some k_ ≠ (.slice Ao21 t659.length co21 : Value).ownBlock) ∧ some k_ ≠ (.slice Ao29 t664.length co29 : Value).ownBlock)) (n := t669.length) (c := co38) ?_).2.2; exact (by (with_reducible repeat (first | apply Kd.S_alloc | apply Kd.S_drewN | apply Kd.S_drew)); exact (Kd.S_mono (Kd.S_far (p := ⟨gb673, 0, none⟩) (Kd.S_types HO671.out BK673.out (by decide)) (fun _ hk => hk.2) (.slice Ao38 t669.length co38)) (fun _ h_ => h_.1)))) : p := h
theorem q10_3 {p : Prop} (h : p := by refine (Kd.S_reads' (e := 43) (base := w.heap.size) (ok := fun k_ => ((((True ∧ some k_ ≠ (.slice Ao14 t651.length co14 : Value).ownBlock) ∧ some k_ ≠ (.slice Ao17 t654.length co17 : Value).ownBlock) ∧ some k_ ≠ (.slice Ao21 t659.length co21 : Value).ownBlock) ∧ some k_ ≠ (.slice Ao38 t669.length co38 : Value).ownBlock)) (n := t664.length) (c := co29) ?_).2.2; exact (by (with_reducible repeat (first | apply Kd.S_alloc | apply Kd.S_drewN | apply Kd.S_drew)); exact (Kd.S_mono (Kd.S_far (p := ⟨gb673, 0, none⟩) (Kd.S_types HO666.out BK673.out (by decide)) (fun _ hk => hk.2) (.slice Ao38 t669.length co38)) (fun _ h_ => h_.1)))) : p := h
theorem q10_4 {p : Prop} (h : p := by (with_reducible repeat (first | refine blk_drewN ?_ _ | refine blk_drew ?_ | refine blk_alloc ?_ _)); exact BK658.out) : p := h
theorem q10_5 {p : Prop} (h : p := by (with_reducible repeat (first | refine blk_drewN ?_ _ | refine blk_drew ?_ | refine blk_alloc ?_ _)); exact BK663.out) : p := h
theorem q10_6 {p : Prop} (h : p := by (try simp only [List.map_toArray, List.map_cons, List.map_nil]); first | done | rfl | (simp only [List.length_drop, List.length_take]; rfl)) : p := h
theorem q10_7 {p : Prop} (h : p := by (with_reducible repeat (first | refine blk_drewN ?_ _ | refine blk_drew ?_ | refine blk_alloc ?_ _)); exact BK668.out) : p := h
theorem q10_8 {p : Prop} (h : p := by repeat (first | (with_reducible first | exact HB.out | apply below_alloc | apply pw_below_drewN | apply below_drew1 | refine below_set ?_ GE657.out | refine below_set ?_ GE658.out | refine below_set ?_ GE663.out | refine below_set ?_ GE668.out) | exact HB.out)) : p := h
theorem q10_9 {p : Prop} (h : p := by repeat (first | (with_reducible first | exact HB.out | apply below_alloc | apply pw_below_drewN | apply below_drew1) | exact HB.out)) : p := h
theorem q10_10 {p : Prop} (h : p := by repeat (first | (with_reducible first | exact HB.out | apply below_alloc | apply pw_below_drewN | apply below_drew1 | refine below_set ?_ GE657.out | refine below_set ?_ GE658.out) | exact HB.out)) : p := h
theorem q10_11 {p : Prop} (h : p := by repeat (first | (with_reducible first | exact HB.out | apply below_alloc | apply pw_below_drewN | apply below_drew1 | refine below_set ?_ GE657.out | refine below_set ?_ GE658.out | refine below_set ?_ GE663.out) | exact HB.out)) : p := h
theorem q10_12 {p : Prop} (h : p := by (with_reducible repeat (first | refine blk_drewN ?_ _ | refine blk_drew ?_ | refine blk_alloc ?_ _)); exact BK673.out) : p := h
theorem q10_13 {p : Prop} (h : p := by (with_reducible repeat (first | apply Kd.Q_alloc | apply Kd.Q_drewN | apply Kd.Q_drew)); exact HO_658000.out) : p := h
theorem q10_14 {p : Prop} (h : p := by (with_reducible repeat (first | apply Kd.Q_alloc | apply Kd.Q_drewN | apply Kd.Q_drew)); exact HO_659000.out) : p := h
theorem q10_15 {p : Prop} (h : p := by (with_reducible repeat (first | apply Kd.Q_alloc | apply Kd.Q_drewN | apply Kd.Q_drew)); exact HO_664000.out) : p := h
theorem q10_16 {p : Prop} (h : p := by (with_reducible repeat (first | apply Kd.Q_alloc | apply Kd.Q_drewN | apply Kd.Q_drew)); exact HO_669000.out) : p := h
theorem q10_17 {p : Prop} (h : p := by (with_reducible repeat (first | apply Kd.Q_alloc | apply Kd.Q_drewN | apply Kd.Q_drew)); exact HO_674000.out) : p := h
theorem q10_18 {p : Prop} (h : p := by (with_reducible repeat (first | refine blk_drewN ?_ _ | refine blk_drew ?_ | refine blk_alloc ?_ _)); refine blk_put (cs := #[.slice none 0 0]) ?_ 0 _ rfl; (with_reducible repeat (first | refine blk_drewN ?_ _ | refine blk_drew ?_ | refine blk_alloc ?_ _)); exact BK673.out) : p := h
theorem q10_19 {p : Prop} (h : p := by (with_reducible repeat (first | apply Kd.Q_alloc | apply Kd.Q_drewN | apply Kd.Q_drew)); exact (Kd.Q_mono (Kd.Q_far (p := ⟨gb673, 0, none⟩) (Kd.Q_types HO653.out BK673.out (by decide)) (fun _ hk => hk.2) (.slice Ao38 t669.length co38)) (fun _ h_ => h_.1))) : p := h
theorem q10_20 {p : Prop} (h : p := by (with_reducible repeat (first | apply Kd.Q_alloc | apply Kd.Q_drewN | apply Kd.Q_drew)); exact (Kd.Q_mono (Kd.Q_far (p := ⟨gb673, 0, none⟩) (Kd.Q_types HO656.out BK673.out (by decide)) (fun _ hk => hk.2) (.slice Ao38 t669.length co38)) (fun _ h_ => h_.1))) : p := h
theorem q10_21 {p : Prop} (h : p := by (with_reducible repeat (first | apply Kd.Q_alloc | apply Kd.Q_drewN | apply Kd.Q_drew)); exact (Kd.Q_mono (Kd.Q_far (p := ⟨gb673, 0, none⟩) (Kd.Q_types HO661.out BK673.out (by decide)) (fun _ hk => hk.2) (.slice Ao38 t669.length co38)) (fun _ h_ => h_.1))) : p := h
theorem q10_22 {p : Prop} (h : p := by (with_reducible repeat (first | apply Kd.S_alloc | apply Kd.S_drewN | apply Kd.S_drew)); exact (Kd.S_mono (Kd.S_far (p := ⟨gb673, 0, none⟩) (Kd.S_types HO666.out BK673.out (by decide)) (fun _ hk => hk.2) (.slice Ao38 t669.length co38)) (fun _ h_ => h_.1))) : p := h
theorem q10_23 {p : Prop} (h : p := by (with_reducible repeat (first | apply Kd.S_alloc | apply Kd.S_drewN | apply Kd.S_drew)); exact (Kd.S_mono (Kd.S_far (p := ⟨gb673, 0, none⟩) (Kd.S_types HO671.out BK673.out (by decide)) (fun _ hk => hk.2) (.slice Ao38 t669.length co38)) (fun _ h_ => h_.1))) : p := h
theorem q10_24 {p : Prop} (h : p := by (with_reducible repeat (first | refine blk_drewN ?_ _ | refine blk_drew ?_ | refine blk_alloc ?_ _)); refine blk_far ?_ NB657_673.out _; (with_reducible repeat (first | refine blk_drewN ?_ _ | refine blk_drew ?_ | refine blk_alloc ?_ _)); exact BK657.out) : p := h
theorem q10_25 {p : Prop} (h : p := by (with_reducible repeat (first | refine blk_drewN ?_ _ | refine blk_drew ?_ | refine blk_alloc ?_ _)); refine blk_far ?_ NB658_673.out _; (with_reducible repeat (first | refine blk_drewN ?_ _ | refine blk_drew ?_ | refine blk_alloc ?_ _)); exact BK658.out) : p := h
theorem q10_26 {p : Prop} (h : p := by (with_reducible repeat (first | refine blk_drewN ?_ _ | refine blk_drew ?_ | refine blk_alloc ?_ _)); refine blk_far ?_ NB663_673.out _; (with_reducible repeat (first | refine blk_drewN ?_ _ | refine blk_drew ?_ | refine blk_alloc ?_ _)); exact BK663.out) : p := h
theorem q10_27 {p : Prop} (h : p := by (with_reducible repeat (first | refine blk_drewN ?_ _ | refine blk_drew ?_ | refine blk_alloc ?_ _)); refine blk_far ?_ NB668_673.out _; (with_reducible repeat (first | refine blk_drewN ?_ _ | refine blk_drew ?_ | refine blk_alloc ?_ _)); exact BK668.out) : p := h
theorem q10_28 {p : Prop} (h : p := by (with_reducible repeat (first | apply Kd.S_alloc | apply Kd.S_drewN | apply Kd.S_drew)); exact Kd.S_mono HO666.out (fun _ hk => ⟨hk.1.1.1.2, ⟨hk.1.1.2, ⟨hk.1.2, hk.2⟩⟩⟩)) : p := h
theorem q10_29 {p : Prop} (h : p := by (with_reducible repeat (first | apply Kd.S_alloc | apply Kd.S_drewN | apply Kd.S_drew)); exact Kd.S_mono HO671.out (fun _ hk => ⟨hk.1.1.1.2, ⟨hk.1.1.2, ⟨hk.1.2, hk.2⟩⟩⟩)) : p := h
theorem q10_30 {p : Prop} (h : p := by (with_reducible repeat (first | apply Kd.Q_alloc | apply Kd.Q_drewN | apply Kd.Q_drew)); exact (Kd.Q_mono (Kd.Q_far (p := ⟨gb663, 0, none⟩) (Kd.Q_types HO653.out BK663.out (by decide)) (fun _ hk => hk.2) (.slice Ao21 t659.length co21)) (fun _ h_ => h_.1))) : p := h
theorem q10_31 {p : Prop} (h : p := by (with_reducible repeat (first | apply Kd.Q_alloc | apply Kd.Q_drewN | apply Kd.Q_drew)); exact (Kd.Q_mono (Kd.Q_far (p := ⟨gb663, 0, none⟩) (Kd.Q_types HO656.out BK663.out (by decide)) (fun _ hk => hk.2) (.slice Ao21 t659.length co21)) (fun _ h_ => h_.1))) : p := h
theorem q10_32 {p : Prop} (h : p := by (with_reducible repeat (first | apply Kd.Q_alloc | apply Kd.Q_drewN | apply Kd.Q_drew)); exact (Kd.Q_mono (Kd.Q_far (p := ⟨gb668, 0, none⟩) (Kd.Q_types HO653.out BK668.out (by decide)) (fun _ hk => hk.2) (.slice Ao29 t664.length co29)) (fun _ h_ => h_.1))) : p := h
theorem q10_33 {p : Prop} (h : p := by (with_reducible repeat (first | apply Kd.Q_alloc | apply Kd.Q_drewN | apply Kd.Q_drew)); exact (Kd.Q_mono (Kd.Q_far (p := ⟨gb668, 0, none⟩) (Kd.Q_types HO656.out BK668.out (by decide)) (fun _ hk => hk.2) (.slice Ao29 t664.length co29)) (fun _ h_ => h_.1))) : p := h
theorem q10_34 {p : Prop} (h : p := by (with_reducible repeat (first | apply Kd.Q_alloc | apply Kd.Q_drewN | apply Kd.Q_drew)); exact (Kd.Q_mono (Kd.Q_mono (Kd.Q_far (p := ⟨gb658, 0, none⟩) (Kd.Q_far (p := ⟨gb657, 0, none⟩) (Kd.Q_types (Kd.Q_types HO653.out BK657.out (by decide)) BK658.out (by decide)) (fun _ hk => hk.1.2) (.slice Ao14 t651.length co14)) (fun _ hk => hk.2) (.slice Ao17 t654.length co17)) (fun _ h_ => h_.1)) (fun _ h_ => h_.1))) : p := h
theorem q10_35 {p : Prop} (h : p := by (with_reducible repeat (first | apply Kd.Q_alloc | apply Kd.Q_drewN | apply Kd.Q_drew)); exact (Kd.Q_mono (Kd.Q_mono (Kd.Q_far (p := ⟨gb658, 0, none⟩) (Kd.Q_far (p := ⟨gb657, 0, none⟩) (Kd.Q_types (Kd.Q_types HO656.out BK657.out (by decide)) BK658.out (by decide)) (fun _ hk => hk.1.2) (.slice Ao14 t651.length co14)) (fun _ hk => hk.2) (.slice Ao17 t654.length co17)) (fun _ h_ => h_.1)) (fun _ h_ => h_.1))) : p := h
theorem q10_36 {p : Prop} (h : p := by (with_reducible repeat (first | apply Kd.Q_alloc | apply Kd.Q_drewN | apply Kd.Q_drew)); exact HO653.out) : p := h
theorem q10_37 {p : Prop} (h : p := by (with_reducible repeat (first | apply Kd.Q_alloc | apply Kd.Q_drewN | apply Kd.Q_drew)); exact HO656.out) : p := h
theorem q10_38 {p : Prop} (h : p := by first | rfl | (simp [errW_none, errW_some] <;> rfl) | (simp [*, errW_none, errW_some] <;> rfl)) : p := h
theorem q10_39 {p : Prop} (h : p := by repeat (first | exact (Kd.Q_reads' HO_674000.out).2.2 | (with_reducible refine Kd.C_alloc ?_ _) | (with_reducible refine Kd.C_drewN ?_ _) | (with_reducible refine Kd.C_drew ?_))) : p := h
theorem q10_40 {p : Prop} (h : p := by repeat (first | exact (Kd.Q_reads' HO_658000.out).2.2 | (with_reducible refine Kd.C_alloc ?_ _) | (with_reducible refine Kd.C_drewN ?_ _) | (with_reducible refine Kd.C_drew ?_))) : p := h
theorem q10_41 {p : Prop} (h : p := by repeat (first | exact (Kd.Q_reads' HO_659000.out).2.2 | (with_reducible refine Kd.C_alloc ?_ _) | (with_reducible refine Kd.C_drewN ?_ _) | (with_reducible refine Kd.C_drew ?_))) : p := h
theorem q10_42 {p : Prop} (h : p := by repeat (first | (with_reducible first | exact HB.out | apply below_alloc | apply pw_below_drewN | apply below_drew1 | refine below_set ?_ GE657.out) | exact HB.out)) : p := h
theorem q10_43 {p : Prop} (h : p := by (with_reducible repeat (first | apply Kd.Q_alloc | apply Kd.Q_drewN | apply Kd.Q_drew)); exact (Kd.Q_mono (Kd.Q_far (p := ⟨gb663, 0, none⟩) (Kd.Q_types HO661.out BK663.out (by decide)) (fun _ hk => hk.2) (.slice Ao21 t659.length co21)) (fun _ h_ => h_.1))) : p := h
theorem q10_44 {p : Prop} (h : p := by (with_reducible repeat (first | apply Kd.Q_alloc | apply Kd.Q_drewN | apply Kd.Q_drew)); exact (Kd.Q_mono (Kd.Q_far (p := ⟨gb668, 0, none⟩) (Kd.Q_types HO661.out BK668.out (by decide)) (fun _ hk => hk.2) (.slice Ao29 t664.length co29)) (fun _ h_ => h_.1))) : p := h
theorem q10_45 {p : Prop} (h : p := by (with_reducible repeat (first | apply Kd.S_alloc | apply Kd.S_drewN | apply Kd.S_drew)); exact (Kd.S_mono (Kd.S_far (p := ⟨gb668, 0, none⟩) (Kd.S_types HO666.out BK668.out (by decide)) (fun _ hk => hk.2) (.slice Ao29 t664.length co29)) (fun _ h_ => h_.1))) : p := h
theorem q10_46 {p : Prop} (h : p := by first | rfl | (simp; done) | (simp [*]; done)) : p := h
theorem q10_47 {p : Prop} (h : p := by rw [hg]; exact Nat.ne_of_lt (blk_lt (g := gb657) (o := .cells #[.slice Ao14 t651.length co14] 25 (0, 0)) q10_1)) : p := h
theorem q10_48 {p : Prop} (h : p := by rw [hg]; exact Nat.ne_of_gt (blk_lt (g := gb657) (o := .cells #[.slice Ao14 t651.length co14] 25 (0, 0)) q10_1)) : p := h
theorem q10_49 {p : Prop} (h : p := by rw [hg]; exact Nat.ne_of_lt (blk_lt (g := gb658) (o := .cells #[.slice Ao17 t654.length co17] 25 (0, 0)) q10_4)) : p := h
theorem q10_50 {p : Prop} (h : p := by rw [hg]; exact Nat.ne_of_gt (blk_lt (g := gb658) (o := .cells #[.slice Ao17 t654.length co17] 25 (0, 0)) q10_4)) : p := h
theorem q10_51 {p : Prop} (h : p := by (with_reducible repeat (first | apply Kd.Q_alloc | apply Kd.Q_drewN | apply Kd.Q_drew)); exact HO661.out) : p := h
theorem q10_52 {p : Prop} (h : p := by first | (go_simp; done) | (go_simp; rfl)) : p := h
theorem q10_53 {p : Prop} (h : p := by rw [hg]; exact Nat.ne_of_lt (blk_lt (g := gb663) (o := .cells #[.slice Ao21 t659.length co21] 25 (0, 0)) q10_5)) : p := h
theorem q10_54 {p : Prop} (h : p := by rw [hg]; exact Nat.ne_of_gt (blk_lt (g := gb663) (o := .cells #[.slice Ao21 t659.length co21] 25 (0, 0)) q10_5)) : p := h
theorem q10_55 {p : Prop} (h : p := by (with_reducible repeat (first | apply Kd.S_alloc | apply Kd.S_drewN | apply Kd.S_drew)); exact HO666.out) : p := h
set_option maxHeartbeats 8000000 in
set_option maxRecDepth 100000 in
theorem laws_FnRoughJoinGet.calls (k : Nat) (A0 : Option Addr) (c0 : Nat) (l0 : List Int) (A1 : Option Addr) (c1 : Nat) (l1 : List Int) (r : Bool) (w : World) (hr0 : Kd.C (Kd.int .u8) w A0 l0.length l0) (hc0 : l0.length ≤ c0) (hr1 : Kd.C (Kd.int .u8) w A1 l1.length l1) (hc1 : l1.length ≤ c1) (h : laws_FnRoughJoinGet.f k l0 l1 = some r) :
    Calls Try.prog 10 #[.slice A0 l0.length c0, .slice A1 l1.length c1] w fun e w' => e = .returned (.bool r) ∧ Below w.heap.size w w' := by
  have hu25 := Try.underlying25
  have HR0 := Aside0.mk hr0
  have HC0 := Aside0.mk hc0
  clear hr0 hc0
  have HR1 := Aside0.mk hr1
  have HC1 := Aside0.mk hc1
  clear hr1 hc1
  have HB := Aside0.mk (Below.refl w.heap.size w)
  have H : (if (l0.length : Int) > 1048576 then (laws_FnRoughJoinGet.j0 k l0 l1 true) else (laws_FnRoughJoinGet.j0 k l0 l1 (decide ((l1.length : Int) > 1048576)))) = some r := h
  clear h
  have HC3 := Aside0.mk H
  clear H
  go_enter Try.func10, Try.ntmps10
  go_upto_region 1 with (fail)
  go_cut [21] (fun v21 wc => ∃ (kq : Nat) (x21_2 : Bool), v21 = .bool x21_2 ∧ Aside0 (laws_FnRoughJoinGet.j0 kq l0 l1 x21_2 = some r) ∧ Aside0 (kq ≤ k) ∧ Aside0 (Below w.heap.size w wc))
  case first =>
    have H := HC3.out
    clear HC3
    by_cases c4 : (l0.length : Int) > 1048576
    · rw [if_pos c4] at H
      have c4b0 : decide (1048576 < (l0.length : Int)) = true := decide_eq_true c4
      have c4b1 : decide (1048576 < l0.length) = true := decide_eq_true (by omega)
      clear c4
      (first | rw [c4b0] | (simp only [i64_w, i32_w]; rw [c4b0]) | skip)
      have H' := Aside0.mk H
      clear H
      go_wp2
      go_meet
      case rel => exact ⟨_, (true), q10_46, H', ⟨by first | omega | exact Nat.le_refl _⟩, ⟨q10_9⟩⟩
    · rw [if_neg c4] at H
      have c4b0 : decide (1048576 < (l0.length : Int)) = false := decide_eq_false c4
      have c4b1 : decide (1048576 < l0.length) = false := decide_eq_false (by omega)
      clear c4
      (first | rw [c4b0] | (simp only [i64_w, i32_w]; rw [c4b0]) | skip)
      have H' := Aside0.mk H
      clear H
      go_wp2
      go_meet
      case rel => exact ⟨_, (decide ((l1.length : Int) > 1048576)), q10_46, H', ⟨by first | omega | exact Nat.le_refl _⟩, ⟨q10_9⟩⟩
  case rest =>
    clear HC3
    try clear c1
    try clear p2
    try clear c4
    try clear c4b0
    try clear c4b1
    obtain ⟨kq, x21_2, rfl, HA, HJ2, HB⟩ := hcut
    cases kq with
    | zero => exact absurd HA.out (by simp [laws_FnRoughJoinGet.j0])
    | succ kj2 =>
      have H := HA.out
      clear HA
      simp only [laws_FnRoughJoinGet.j0] at H
      by_cases c5 : x21_2 = true
      · subst c5
        have H1 : (some true) = some r := by rw [if_pos rfl] at H; exact H
        clear H
        have H := H1
        clear H1
        obtain rfl := Option.some.inj H
        go_wp2
        go_ret
        exact ⟨q10_38, q10_9⟩
      · replace c5 := Bool.eq_false_iff.mpr c5
        subst c5
        have H1 : ((spec_DrawRoughJoin.f kj2 l0).bind fun bt651 => ((spec_DrawRoughGet.f kj2 l1).bind fun bt659 => ((spec_RoughJoin.f kj2 bt651.1 bt651.2).bind fun bt664 => ((impl_RoughJoin.f kj2 bt651.1 bt651.2).bind fun bt669 => (if (bt669.2 != bt664.2) = true then (laws_FnRoughJoinGet.j1 kj2 bt659.2 bt664.2 bt669.2 true bt651.1 bt651.2 bt664.1 bt669.1) else ((laws_lkRough.f kj2 bt669.1 bt664.1).bind fun t674 => (if t674 = true then (if bt669.2 = true then (if bt659.2 < 0 then (laws_FnRoughJoinGet.j1 kj2 bt659.2 bt664.2 bt669.2 true bt651.1 bt651.2 bt664.1 bt669.1) else (laws_FnRoughJoinGet.j1 kj2 bt659.2 bt664.2 bt669.2 (decide (bt659.2 ≥ 64)) bt651.1 bt651.2 bt664.1 bt669.1)) else (laws_FnRoughJoinGet.j1 kj2 bt659.2 bt664.2 bt669.2 true bt651.1 bt651.2 bt664.1 bt669.1)) else (laws_FnRoughJoinGet.j1 kj2 bt659.2 bt664.2 bt669.2 true bt651.1 bt651.2 bt664.1 bt669.1)))))))) = some r := by rw [if_neg (show ¬ (false = true) by decide)] at H; exact H
        clear H
        have H := H1
        clear H1
        replace H := Option.bind_eq_some_iff.mp H
        obtain ⟨⟨t651, t654⟩, A60, H⟩ := H
        replace H : ((spec_DrawRoughGet.f kj2 l1).bind fun bt659 => ((spec_RoughJoin.f kj2 t651 t654).bind fun bt664 => ((impl_RoughJoin.f kj2 t651 t654).bind fun bt669 => (if (bt669.2 != bt664.2) = true then (laws_FnRoughJoinGet.j1 kj2 bt659.2 bt664.2 bt669.2 true t651 t654 bt664.1 bt669.1) else ((laws_lkRough.f kj2 bt669.1 bt664.1).bind fun t674 => (if t674 = true then (if bt669.2 = true then (if bt659.2 < 0 then (laws_FnRoughJoinGet.j1 kj2 bt659.2 bt664.2 bt669.2 true t651 t654 bt664.1 bt669.1) else (laws_FnRoughJoinGet.j1 kj2 bt659.2 bt664.2 bt669.2 (decide (bt659.2 ≥ 64)) t651 t654 bt664.1 bt669.1)) else (laws_FnRoughJoinGet.j1 kj2 bt659.2 bt664.2 bt669.2 true t651 t654 bt664.1 bt669.1)) else (laws_FnRoughJoinGet.j1 kj2 bt659.2 bt664.2 bt669.2 true t651 t654 bt664.1 bt669.1))))))) = some r := H
        have A6 := Aside0.mk A60
        clear A60
        replace H := Option.bind_eq_some_iff.mp H
        obtain ⟨⟨t659, t662⟩, A70, H⟩ := H
        replace H : ((spec_RoughJoin.f kj2 t651 t654).bind fun bt664 => ((impl_RoughJoin.f kj2 t651 t654).bind fun bt669 => (if (bt669.2 != bt664.2) = true then (laws_FnRoughJoinGet.j1 kj2 t662 bt664.2 bt669.2 true t651 t654 bt664.1 bt669.1) else ((laws_lkRough.f kj2 bt669.1 bt664.1).bind fun t674 => (if t674 = true then (if bt669.2 = true then (if t662 < 0 then (laws_FnRoughJoinGet.j1 kj2 t662 bt664.2 bt669.2 true t651 t654 bt664.1 bt669.1) else (laws_FnRoughJoinGet.j1 kj2 t662 bt664.2 bt669.2 (decide (t662 ≥ 64)) t651 t654 bt664.1 bt669.1)) else (laws_FnRoughJoinGet.j1 kj2 t662 bt664.2 bt669.2 true t651 t654 bt664.1 bt669.1)) else (laws_FnRoughJoinGet.j1 kj2 t662 bt664.2 bt669.2 true t651 t654 bt664.1 bt669.1)))))) = some r := H
        have A7 := Aside0.mk A70
        clear A70
        replace H := Option.bind_eq_some_iff.mp H
        obtain ⟨⟨t664, t667⟩, A80, H⟩ := H
        replace H : ((impl_RoughJoin.f kj2 t651 t654).bind fun bt669 => (if (bt669.2 != t667) = true then (laws_FnRoughJoinGet.j1 kj2 t662 t667 bt669.2 true t651 t654 t664 bt669.1) else ((laws_lkRough.f kj2 bt669.1 t664).bind fun t674 => (if t674 = true then (if bt669.2 = true then (if t662 < 0 then (laws_FnRoughJoinGet.j1 kj2 t662 t667 bt669.2 true t651 t654 t664 bt669.1) else (laws_FnRoughJoinGet.j1 kj2 t662 t667 bt669.2 (decide (t662 ≥ 64)) t651 t654 t664 bt669.1)) else (laws_FnRoughJoinGet.j1 kj2 t662 t667 bt669.2 true t651 t654 t664 bt669.1)) else (laws_FnRoughJoinGet.j1 kj2 t662 t667 bt669.2 true t651 t654 t664 bt669.1))))) = some r := H
        have A8 := Aside0.mk A80
        clear A80
        replace H := Option.bind_eq_some_iff.mp H
        obtain ⟨⟨t669, t672⟩, A90, H⟩ := H
        replace H : (if (t672 != t667) = true then (laws_FnRoughJoinGet.j1 kj2 t662 t667 t672 true t651 t654 t664 t669) else ((laws_lkRough.f kj2 t669 t664).bind fun t674 => (if t674 = true then (if t672 = true then (if t662 < 0 then (laws_FnRoughJoinGet.j1 kj2 t662 t667 t672 true t651 t654 t664 t669) else (laws_FnRoughJoinGet.j1 kj2 t662 t667 t672 (decide (t662 ≥ 64)) t651 t654 t664 t669)) else (laws_FnRoughJoinGet.j1 kj2 t662 t667 t672 true t651 t654 t664 t669)) else (laws_FnRoughJoinGet.j1 kj2 t662 t667 t672 true t651 t654 t664 t669)))) = some r := H
        have A9 := Aside0.mk A90
        clear A90
        have HC10 := Aside0.mk H
        clear H
        go_upto_region 7 with (first | ((with_reducible refine gate_callee (f := 12) rfl ?_); refine goesL_ (some 24) rfl rfl Try.func12 (by kernel_rfl) rfl #[.slice A0 l0.length c0] rfl q10_6 ?_; (with_reducible refine (spec_DrawRoughJoin.calls kj2 _ _ l0 t651 t654 _ ?side1 ?side2 A6.out).mono ?_); (case side1 => repeat (first | exact (Kd.C_below HR0.out HB.out) | (with_reducible refine Kd.C_alloc ?_ _) | (with_reducible refine Kd.C_drewN ?_ _) | (with_reducible refine Kd.C_drew ?_))); (case side2 => exact HC0.out); rintro e w11 ⟨v652, v655, rfl, ho0, ho1, hb⟩; refine ⟨_, rfl, ?_⟩; have n0_ := Aside0.mk (Kd.Q_lower ho0 (below_size q10_9)); have n1_ := Aside0.mk (Kd.Q_lower ho1 (below_size q10_9)); have n2_ := Aside0.mk (below_step q10_9 hb); clear HB; have HO653 := n0_; have HO656 := n1_; have HB := n2_; clear n0_ n1_ n2_; (try clear hb); (try clear hb2); (try clear hk); (try clear hi); (try clear ho0); (try clear ho1)) | ((with_reducible refine gate_dst (N := 5) rfl ?_); (try (refine gate_guard (by rfl) ?_; dsimp only)); refine box_event ?hg (N := 5) ?hd (cs := #[.slice none 0 0]) (t := 25) ?hr ?_; (case hd => rfl); (case hg => rfl); (case hr => exact q10_52); intro gb657 hg w12 hbox hb; have n0_ := Aside0.mk (Kd.Q_below q10_36 hb); have n1_ := Aside0.mk (Kd.Q_below q10_37 hb); have n2_ := Aside0.mk (below_step q10_9 hb); have n3_ := Aside0.mk (hbox); have n4_ := Aside0.mk ((by rw [hg]; exact (below_size q10_9) : w.heap.size ≤ gb657)); have n5_ := Aside0.mk ((by rw [hg]; exact (below_size q10_9) : w.heap.size ≤ gb657)); clear HO653; clear HO656; clear HB; have HO653 := n0_; have HO656 := n1_; have HB := n2_; have BK657 := n3_; have GW657 := n4_; have GE657 := n5_; clear n0_ n1_ n2_ n3_ n4_ n5_; clear hb hbox hg) | ((with_reducible refine gate_dst (N := 6) rfl ?_); (try (refine gate_guard (by rfl) ?_; dsimp only)); refine box_event ?hg (N := 6) ?hd (cs := #[.slice none 0 0]) (t := 25) ?hr ?_; (case hd => rfl); (case hg => rfl); (case hr => exact q10_52); intro gb658 hg w13 hbox hb; have n0_ := Aside0.mk (Kd.Q_below q10_36 hb); have n1_ := Aside0.mk (Kd.Q_below q10_37 hb); have n2_ := Aside0.mk (blk_below (g := gb657) (o := .cells #[.slice none 0 0] 25 (0, 0)) q10_1 hb); have n3_ := Aside0.mk (below_step q10_42 hb); have n4_ := Aside0.mk (hbox); have n5_ := Aside0.mk ((by rw [hg]; exact (below_size q10_42) : w.heap.size ≤ gb658)); have n6_ := Aside0.mk ((by rw [hg]; exact (below_size q10_42) : w.heap.size ≤ gb658)); have n7_ := Aside0.mk ((by rw [hg]; exact Nat.ne_of_lt (blk_lt (g := gb657) (o := .cells #[.slice none 0 0] 25 (0, 0)) q10_1) : gb657 ≠ gb658)); have n8_ := Aside0.mk ((by rw [hg]; exact Nat.ne_of_gt (blk_lt (g := gb657) (o := .cells #[.slice none 0 0] 25 (0, 0)) q10_1) : gb658 ≠ gb657)); clear HO653; clear HO656; clear BK657; clear HB; have HO653 := n0_; have HO656 := n1_; have BK657 := n2_; have HB := n3_; have BK658 := n4_; have GW658 := n5_; have GE658 := n6_; have NB657_658 := n7_; have NB658_657 := n8_; clear n0_ n1_ n2_ n3_ n4_ n5_ n6_ n7_ n8_; clear hb hbox hg; obtain ⟨Ao14, co14, eo14, _⟩ := Kd.Q_slice HO653.out; subst eo14; have hnb15 := NB657_658.out; have hnc15 := NB658_657.out; have hcz16_0 : w13.cell? ⟨gb657, 0, none⟩ = some (.slice none 0 0) := (blk_cell BK657.out 0).trans rfl; have hfz16_0 := blk_frozen BK657.out 0; obtain ⟨Ao17, co17, eo17, _⟩ := Kd.Q_slice HO656.out; subst eo17; have hcz18_0 : w13.cell? ⟨gb658, 0, none⟩ = some (.slice none 0 0) := (blk_cell BK658.out 0).trans rfl; have hfz18_0 := blk_frozen BK658.out 0) | ((with_reducible refine gate_callee (f := 19) rfl ?_); refine goesL_ (some 29) rfl rfl Try.func19 (by kernel_rfl) rfl #[.slice A1 l1.length c1] rfl q10_6 ?_; (with_reducible refine (spec_DrawRoughGet.calls kj2 _ _ l1 t659 t662 _ ?side1 ?side2 A7.out).mono ?_); (case side1 => exact Kd.C_below HR1.out q10_10); (case side2 => exact HC1.out); rintro e w19 ⟨v660, rfl, ho0, hb⟩; refine ⟨_, rfl, ?_⟩; have n0_ := Aside0.mk (Kd.Q_elder' q10_34 (Kd.Q_base ho0) hb); have n1_ := Aside0.mk (Kd.Q_elder' q10_35 (Kd.Q_base ho0) hb); have n2_ := Aside0.mk (Kd.Q_lower (Kd.Q_new' (Kd.Q_new' ho0 (Kd.Q_lt q10_34)) (Kd.Q_lt q10_35)) (below_size q10_10)); have n3_ := Aside0.mk (blk_below (g := gb657) (o := .cells #[.slice Ao14 t651.length co14] 25 (0, 0)) (by (with_reducible repeat (first | refine blk_drewN ?_ _ | refine blk_drew ?_ | refine blk_alloc ?_ _)); refine blk_far ?_ NB657_658.out _; (with_reducible repeat (first | refine blk_drewN ?_ _ | refine blk_drew ?_ | refine blk_alloc ?_ _)); refine blk_put (cs := #[.slice none 0 0]) ?_ 0 _ rfl; (with_reducible repeat (first | refine blk_drewN ?_ _ | refine blk_drew ?_ | refine blk_alloc ?_ _)); exact BK657.out) hb); have n4_ := Aside0.mk (blk_below (g := gb658) (o := .cells #[.slice Ao17 t654.length co17] 25 (0, 0)) (by (with_reducible repeat (first | refine blk_drewN ?_ _ | refine blk_drew ?_ | refine blk_alloc ?_ _)); refine blk_put (cs := #[.slice none 0 0]) ?_ 0 _ rfl; (with_reducible repeat (first | refine blk_drewN ?_ _ | refine blk_drew ?_ | refine blk_alloc ?_ _)); refine blk_far ?_ NB658_657.out _; (with_reducible repeat (first | refine blk_drewN ?_ _ | refine blk_drew ?_ | refine blk_alloc ?_ _)); exact BK658.out) hb); have n5_ := Aside0.mk (below_step q10_10 hb); clear HO653; clear HO656; clear BK657; clear BK658; clear HB; have HO653 := n0_; have HO656 := n1_; have HO661 := n2_; have BK657 := n3_; have BK658 := n4_; have HB := n5_; clear n0_ n1_ n2_ n3_ n4_ n5_; (try clear hb); (try clear hb2); (try clear hk); (try clear hi); (try clear ho0)) | ((with_reducible refine gate_dst (N := 7) rfl ?_); (try (refine gate_guard (by rfl) ?_; dsimp only)); refine box_event ?hg (N := 7) ?hd (cs := #[.slice none 0 0]) (t := 25) ?hr ?_; (case hd => rfl); (case hg => rfl); (case hr => exact q10_52); intro gb663 hg w20 hbox hb; have n0_ := Aside0.mk (Kd.Q_below q10_36 hb); have n1_ := Aside0.mk (Kd.Q_below q10_37 hb); have n2_ := Aside0.mk (Kd.Q_below q10_51 hb); have n3_ := Aside0.mk (blk_below (g := gb657) (o := .cells #[.slice Ao14 t651.length co14] 25 (0, 0)) q10_1 hb); have n4_ := Aside0.mk (blk_below (g := gb658) (o := .cells #[.slice Ao17 t654.length co17] 25 (0, 0)) q10_4 hb); have n5_ := Aside0.mk (below_step q10_10 hb); have n6_ := Aside0.mk (hbox); have n7_ := Aside0.mk ((by rw [hg]; exact (below_size q10_10) : w.heap.size ≤ gb663)); have n8_ := Aside0.mk ((by rw [hg]; exact (below_size q10_10) : w.heap.size ≤ gb663)); have n9_ := Aside0.mk ((q10_47 : gb657 ≠ gb663)); have n10_ := Aside0.mk ((q10_48 : gb663 ≠ gb657)); have n11_ := Aside0.mk ((q10_49 : gb658 ≠ gb663)); have n12_ := Aside0.mk ((q10_50 : gb663 ≠ gb658)); clear HO653; clear HO656; clear HO661; clear BK657; clear BK658; clear HB; have HO653 := n0_; have HO656 := n1_; have HO661 := n2_; have BK657 := n3_; have BK658 := n4_; have HB := n5_; have BK663 := n6_; have GW663 := n7_; have GE663 := n8_; have NB657_663 := n9_; have NB663_657 := n10_; have NB658_663 := n11_; have NB663_658 := n12_; clear n0_ n1_ n2_ n3_ n4_ n5_ n6_ n7_ n8_ n9_ n10_ n11_ n12_; clear hb hbox hg; obtain ⟨Ao21, co21, eo21, _⟩ := Kd.Q_slice HO661.out; subst eo21; have hnb22 := NB663_657.out; have hnc22 := NB657_663.out; have hnb23 := NB663_658.out; have hnc23 := NB658_663.out; have hcz24_0 : w20.cell? ⟨gb663, 0, none⟩ = some (.slice none 0 0) := (blk_cell BK663.out 0).trans rfl; have hfz24_0 := blk_frozen BK663.out 0; have hcz25_0 : w20.cell? ⟨gb657, 0, none⟩ = some (.slice Ao14 t651.length co14) := (blk_cell BK657.out 0).trans rfl; have hfz25_0 := blk_frozen BK657.out 0; have hcz26_0 : w20.cell? ⟨gb658, 0, none⟩ = some (.slice Ao17 t654.length co17) := (blk_cell BK658.out 0).trans rfl; have hfz26_0 := blk_frozen BK658.out 0) | ((with_reducible refine gate_callee (f := 13) rfl ?_); refine goesL_ (some 35) rfl rfl Try.func13 (by kernel_rfl) rfl #[.agg #[.slice Ao14 t651.length co14], .agg #[.slice Ao17 t654.length co17]] rfl q10_6 ?_; (with_reducible refine (spec_RoughJoin.calls kj2 _ _ t651 _ _ t654 t664 t667 _ ?side1 ?side2 ?side3 ?side4 A8.out).mono ?_); (case side1 => refine (Kd.Q_reads' (e := 43) (base := w.heap.size) (ok := fun k_ => (some k_ ≠ (.slice Ao17 t654.length co17 : Value).ownBlock ∧ some k_ ≠ (.slice Ao21 t659.length co21 : Value).ownBlock)) (n := t651.length) (c := co14) ?_).2.2; exact q10_30); (case side2 => exact (Kd.Q_reads' HO653.out).2.1); (case side3 => refine (Kd.Q_reads' (e := 43) (base := w.heap.size) (ok := fun k_ => (some k_ ≠ (.slice Ao14 t651.length co14 : Value).ownBlock ∧ some k_ ≠ (.slice Ao21 t659.length co21 : Value).ownBlock)) (n := t654.length) (c := co17) ?_).2.2; exact q10_31); (case side4 => exact (Kd.Q_reads' HO656.out).2.1); rintro e w27 ⟨v665, rfl, ho0, hb⟩; refine ⟨_, rfl, ?_⟩; have n0_ := Aside0.mk (Kd.Q_elder' q10_30 (Kd.S_base ho0) hb); have n1_ := Aside0.mk (Kd.Q_elder' q10_31 (Kd.S_base ho0) hb); have n2_ := Aside0.mk (Kd.Q_elder' q10_43 (Kd.S_base ho0) hb); have n3_ := Aside0.mk (Kd.S_lower (Kd.S_new' (Kd.S_new' (Kd.S_new' ho0 (Kd.Q_lt q10_30)) (Kd.Q_lt q10_31)) (Kd.Q_lt q10_43)) (below_size q10_11)); have n4_ := Aside0.mk (blk_below (g := gb657) (o := .cells #[.slice Ao14 t651.length co14] 25 (0, 0)) (by (with_reducible repeat (first | refine blk_drewN ?_ _ | refine blk_drew ?_ | refine blk_alloc ?_ _)); refine blk_far ?_ NB657_663.out _; (with_reducible repeat (first | refine blk_drewN ?_ _ | refine blk_drew ?_ | refine blk_alloc ?_ _)); exact BK657.out) hb); have n5_ := Aside0.mk (blk_below (g := gb658) (o := .cells #[.slice Ao17 t654.length co17] 25 (0, 0)) (by (with_reducible repeat (first | refine blk_drewN ?_ _ | refine blk_drew ?_ | refine blk_alloc ?_ _)); refine blk_far ?_ NB658_663.out _; (with_reducible repeat (first | refine blk_drewN ?_ _ | refine blk_drew ?_ | refine blk_alloc ?_ _)); exact BK658.out) hb); have n6_ := Aside0.mk (blk_below (g := gb663) (o := .cells #[.slice Ao21 t659.length co21] 25 (0, 0)) (by (with_reducible repeat (first | refine blk_drewN ?_ _ | refine blk_drew ?_ | refine blk_alloc ?_ _)); refine blk_put (cs := #[.slice none 0 0]) ?_ 0 _ rfl; (with_reducible repeat (first | refine blk_drewN ?_ _ | refine blk_drew ?_ | refine blk_alloc ?_ _)); exact BK663.out) hb); have n7_ := Aside0.mk (below_step q10_11 hb); clear HO653; clear HO656; clear HO661; clear BK657; clear BK658; clear BK663; clear HB; have HO653 := n0_; have HO656 := n1_; have HO661 := n2_; have HO666 := n3_; have BK657 := n4_; have BK658 := n5_; have BK663 := n6_; have HB := n7_; clear n0_ n1_ n2_ n3_ n4_ n5_ n6_ n7_; (try clear hb); (try clear hb2); (try clear hk); (try clear hi); (try clear ho0)) | ((with_reducible refine gate_dst (N := 9) rfl ?_); (try (refine gate_guard (by rfl) ?_; dsimp only)); refine box_event ?hg (N := 9) ?hd (cs := #[.slice none 0 0]) (t := 25) ?hr ?_; (case hd => rfl); (case hg => rfl); (case hr => exact q10_52); intro gb668 hg w28 hbox hb; have n0_ := Aside0.mk (Kd.Q_below q10_36 hb); have n1_ := Aside0.mk (Kd.Q_below q10_37 hb); have n2_ := Aside0.mk (Kd.Q_below q10_51 hb); have n3_ := Aside0.mk (Kd.S_below q10_55 hb); have n4_ := Aside0.mk (blk_below (g := gb657) (o := .cells #[.slice Ao14 t651.length co14] 25 (0, 0)) q10_1 hb); have n5_ := Aside0.mk (blk_below (g := gb658) (o := .cells #[.slice Ao17 t654.length co17] 25 (0, 0)) q10_4 hb); have n6_ := Aside0.mk (blk_below (g := gb663) (o := .cells #[.slice Ao21 t659.length co21] 25 (0, 0)) q10_5 hb); have n7_ := Aside0.mk (below_step q10_11 hb); have n8_ := Aside0.mk (hbox); have n9_ := Aside0.mk ((by rw [hg]; exact (below_size q10_11) : w.heap.size ≤ gb668)); have n10_ := Aside0.mk ((by rw [hg]; exact (below_size q10_11) : w.heap.size ≤ gb668)); have n11_ := Aside0.mk ((q10_47 : gb657 ≠ gb668)); have n12_ := Aside0.mk ((q10_48 : gb668 ≠ gb657)); have n13_ := Aside0.mk ((q10_49 : gb658 ≠ gb668)); have n14_ := Aside0.mk ((q10_50 : gb668 ≠ gb658)); have n15_ := Aside0.mk ((q10_53 : gb663 ≠ gb668)); have n16_ := Aside0.mk ((q10_54 : gb668 ≠ gb663)); clear HO653; clear HO656; clear HO661; clear HO666; clear BK657; clear BK658; clear BK663; clear HB; have HO653 := n0_; have HO656 := n1_; have HO661 := n2_; have HO666 := n3_; have BK657 := n4_; have BK658 := n5_; have BK663 := n6_; have HB := n7_; have BK668 := n8_; have GW668 := n9_; have GE668 := n10_; have NB657_668 := n11_; have NB668_657 := n12_; have NB658_668 := n13_; have NB668_658 := n14_; have NB663_668 := n15_; have NB668_663 := n16_; clear n0_ n1_ n2_ n3_ n4_ n5_ n6_ n7_ n8_ n9_ n10_ n11_ n12_ n13_ n14_ n15_ n16_; clear hb hbox hg; obtain ⟨Ao29, co29, eo29⟩ := Kd.S_slice HO666.out; subst eo29; have hnb30 := NB668_657.out; have hnc30 := NB657_668.out; have hnb31 := NB668_658.out; have hnc31 := NB658_668.out; have hnb32 := NB668_663.out; have hnc32 := NB663_668.out; have hcz33_0 : w28.cell? ⟨gb668, 0, none⟩ = some (.slice none 0 0) := (blk_cell BK668.out 0).trans rfl; have hfz33_0 := blk_frozen BK668.out 0; have hcz34_0 : w28.cell? ⟨gb657, 0, none⟩ = some (.slice Ao14 t651.length co14) := (blk_cell BK657.out 0).trans rfl; have hfz34_0 := blk_frozen BK657.out 0; have hcz35_0 : w28.cell? ⟨gb658, 0, none⟩ = some (.slice Ao17 t654.length co17) := (blk_cell BK658.out 0).trans rfl; have hfz35_0 := blk_frozen BK658.out 0) | ((with_reducible refine gate_callee (f := 14) rfl ?_); refine goesL_ (some 41) rfl rfl Try.func14 (by kernel_rfl) rfl #[.agg #[.slice Ao14 t651.length co14], .agg #[.slice Ao17 t654.length co17]] rfl q10_6 ?_; (with_reducible refine (impl_RoughJoin.calls kj2 _ _ t651 _ _ t654 t669 t672 _ ?side1 ?side2 ?side3 ?side4 A9.out).mono ?_); (case side1 => refine (Kd.Q_reads' (e := 43) (base := w.heap.size) (ok := fun k_ => ((some k_ ≠ (.slice Ao17 t654.length co17 : Value).ownBlock ∧ some k_ ≠ (.slice Ao21 t659.length co21 : Value).ownBlock) ∧ some k_ ≠ (.slice Ao29 t664.length co29 : Value).ownBlock)) (n := t651.length) (c := co14) ?_).2.2; exact q10_32); (case side2 => exact (Kd.Q_reads' HO653.out).2.1); (case side3 => refine (Kd.Q_reads' (e := 43) (base := w.heap.size) (ok := fun k_ => ((some k_ ≠ (.slice Ao14 t651.length co14 : Value).ownBlock ∧ some k_ ≠ (.slice Ao21 t659.length co21 : Value).ownBlock) ∧ some k_ ≠ (.slice Ao29 t664.length co29 : Value).ownBlock)) (n := t654.length) (c := co17) ?_).2.2; exact q10_33); (case side4 => exact (Kd.Q_reads' HO656.out).2.1); rintro e w36 ⟨v670, rfl, ho0, hb⟩; refine ⟨_, rfl, ?_⟩; have n0_ := Aside0.mk (Kd.Q_elder' q10_32 (Kd.S_base ho0) hb); have n1_ := Aside0.mk (Kd.Q_elder' q10_33 (Kd.S_base ho0) hb); have n2_ := Aside0.mk (Kd.Q_elder' q10_44 (Kd.S_base ho0) hb); have n3_ := Aside0.mk (Kd.S_elder' q10_45 (Kd.S_base ho0) hb); have n4_ := Aside0.mk (Kd.S_lower (Kd.S_new' (Kd.S_new' (Kd.S_new' (Kd.S_new' ho0 (Kd.Q_lt q10_32)) (Kd.Q_lt q10_33)) (Kd.Q_lt q10_44)) (Kd.S_lt q10_45)) (below_size q10_8)); have n5_ := Aside0.mk (blk_below (g := gb657) (o := .cells #[.slice Ao14 t651.length co14] 25 (0, 0)) (by (with_reducible repeat (first | refine blk_drewN ?_ _ | refine blk_drew ?_ | refine blk_alloc ?_ _)); refine blk_far ?_ NB657_668.out _; (with_reducible repeat (first | refine blk_drewN ?_ _ | refine blk_drew ?_ | refine blk_alloc ?_ _)); exact BK657.out) hb); have n6_ := Aside0.mk (blk_below (g := gb658) (o := .cells #[.slice Ao17 t654.length co17] 25 (0, 0)) (by (with_reducible repeat (first | refine blk_drewN ?_ _ | refine blk_drew ?_ | refine blk_alloc ?_ _)); refine blk_far ?_ NB658_668.out _; (with_reducible repeat (first | refine blk_drewN ?_ _ | refine blk_drew ?_ | refine blk_alloc ?_ _)); exact BK658.out) hb); have n7_ := Aside0.mk (blk_below (g := gb663) (o := .cells #[.slice Ao21 t659.length co21] 25 (0, 0)) (by (with_reducible repeat (first | refine blk_drewN ?_ _ | refine blk_drew ?_ | refine blk_alloc ?_ _)); refine blk_far ?_ NB663_668.out _; (with_reducible repeat (first | refine blk_drewN ?_ _ | refine blk_drew ?_ | refine blk_alloc ?_ _)); exact BK663.out) hb); have n8_ := Aside0.mk (blk_below (g := gb668) (o := .cells #[.slice Ao29 t664.length co29] 25 (0, 0)) (by (with_reducible repeat (first | refine blk_drewN ?_ _ | refine blk_drew ?_ | refine blk_alloc ?_ _)); refine blk_put (cs := #[.slice none 0 0]) ?_ 0 _ rfl; (with_reducible repeat (first | refine blk_drewN ?_ _ | refine blk_drew ?_ | refine blk_alloc ?_ _)); exact BK668.out) hb); have n9_ := Aside0.mk (below_step q10_8 hb); clear HO653; clear HO656; clear HO661; clear HO666; clear BK657; clear BK658; clear BK663; clear BK668; clear HB; have HO653 := n0_; have HO656 := n1_; have HO661 := n2_; have HO666 := n3_; have HO671 := n4_; have BK657 := n5_; have BK658 := n6_; have BK663 := n7_; have BK668 := n8_; have HB := n9_; clear n0_ n1_ n2_ n3_ n4_ n5_ n6_ n7_ n8_ n9_; (try clear hb); (try clear hb2); (try clear hk); (try clear hi); (try clear ho0)) | ((with_reducible refine gate_dst (N := 11) rfl ?_); (try (refine gate_guard (by rfl) ?_; dsimp only)); refine box_event ?hg (N := 11) ?hd (cs := #[.slice none 0 0]) (t := 25) ?hr ?_; (case hd => rfl); (case hg => rfl); (case hr => exact q10_52); intro gb673 hg w37 hbox hb; have n0_ := Aside0.mk (Kd.Q_below q10_36 hb); have n1_ := Aside0.mk (Kd.Q_below q10_37 hb); have n2_ := Aside0.mk (Kd.Q_below q10_51 hb); have n3_ := Aside0.mk (Kd.S_below q10_55 hb); have n4_ := Aside0.mk (Kd.S_below (by (with_reducible repeat (first | apply Kd.S_alloc | apply Kd.S_drewN | apply Kd.S_drew)); exact HO671.out) hb); have n5_ := Aside0.mk (blk_below (g := gb657) (o := .cells #[.slice Ao14 t651.length co14] 25 (0, 0)) q10_1 hb); have n6_ := Aside0.mk (blk_below (g := gb658) (o := .cells #[.slice Ao17 t654.length co17] 25 (0, 0)) q10_4 hb); have n7_ := Aside0.mk (blk_below (g := gb663) (o := .cells #[.slice Ao21 t659.length co21] 25 (0, 0)) q10_5 hb); have n8_ := Aside0.mk (blk_below (g := gb668) (o := .cells #[.slice Ao29 t664.length co29] 25 (0, 0)) q10_7 hb); have n9_ := Aside0.mk (below_step q10_8 hb); have n10_ := Aside0.mk (hbox); have n11_ := Aside0.mk ((by rw [hg]; exact (below_size q10_8) : w.heap.size ≤ gb673)); have n12_ := Aside0.mk ((by rw [hg]; exact (below_size q10_8) : w.heap.size ≤ gb673)); have n13_ := Aside0.mk ((q10_47 : gb657 ≠ gb673)); have n14_ := Aside0.mk ((q10_48 : gb673 ≠ gb657)); have n15_ := Aside0.mk ((q10_49 : gb658 ≠ gb673)); have n16_ := Aside0.mk ((q10_50 : gb673 ≠ gb658)); have n17_ := Aside0.mk ((q10_53 : gb663 ≠ gb673)); have n18_ := Aside0.mk ((q10_54 : gb673 ≠ gb663)); have n19_ := Aside0.mk ((by rw [hg]; exact Nat.ne_of_lt (blk_lt (g := gb668) (o := .cells #[.slice Ao29 t664.length co29] 25 (0, 0)) q10_7) : gb668 ≠ gb673)); have n20_ := Aside0.mk ((by rw [hg]; exact Nat.ne_of_gt (blk_lt (g := gb668) (o := .cells #[.slice Ao29 t664.length co29] 25 (0, 0)) q10_7) : gb673 ≠ gb668)); clear HO653; clear HO656; clear HO661; clear HO666; clear HO671; clear BK657; clear BK658; clear BK663; clear BK668; clear HB; have HO653 := n0_; have HO656 := n1_; have HO661 := n2_; have HO666 := n3_; have HO671 := n4_; have BK657 := n5_; have BK658 := n6_; have BK663 := n7_; have BK668 := n8_; have HB := n9_; have BK673 := n10_; have GW673 := n11_; have GE673 := n12_; have NB657_673 := n13_; have NB673_657 := n14_; have NB658_673 := n15_; have NB673_658 := n16_; have NB663_673 := n17_; have NB673_663 := n18_; have NB668_673 := n19_; have NB673_668 := n20_; clear n0_ n1_ n2_ n3_ n4_ n5_ n6_ n7_ n8_ n9_ n10_ n11_ n12_ n13_ n14_ n15_ n16_ n17_ n18_ n19_ n20_; clear hb hbox hg; obtain ⟨Ao38, co38, eo38⟩ := Kd.S_slice HO671.out; subst eo38; have hnb39 := NB673_657.out; have hnc39 := NB657_673.out; have hnb40 := NB673_658.out; have hnc40 := NB658_673.out; have hnb41 := NB673_663.out; have hnc41 := NB663_673.out; have hnb42 := NB673_668.out; have hnc42 := NB668_673.out; have hcz43_0 : w37.cell? ⟨gb673, 0, none⟩ = some (.slice none 0 0) := (blk_cell BK673.out 0).trans rfl; have hfz43_0 := blk_frozen BK673.out 0))
        (try simp only [Act.put, List.setIfInBounds_toArray, List.set_cons_zero, List.set_cons_succ])
        go_cut [64] (fun v64 wc => ∃ (kq : Nat) (x64_9 : Bool), v64 = .bool x64_9 ∧ Aside0 (laws_FnRoughJoinGet.j1 kq t662 t667 t672 x64_9 t651 t654 t664 t669 = some r) ∧ Aside0 (kq ≤ kj2) ∧ Aside0 (Kd.Q (Kd.slice 3 (Kd.int .i64)) 43 wc w.heap.size (fun k_ => some k_ ≠ ((.slice Ao17 t654.length co17) : Value).ownBlock ∧ some k_ ≠ ((.slice Ao21 t659.length co21) : Value).ownBlock ∧ some k_ ≠ ((.slice Ao29 t664.length co29) : Value).ownBlock ∧ some k_ ≠ ((.slice Ao38 t669.length co38) : Value).ownBlock) (.slice Ao14 t651.length co14) t651) ∧ Aside0 (Kd.Q (Kd.slice 3 (Kd.int .i64)) 43 wc w.heap.size (fun k_ => some k_ ≠ ((.slice Ao14 t651.length co14) : Value).ownBlock ∧ some k_ ≠ ((.slice Ao21 t659.length co21) : Value).ownBlock ∧ some k_ ≠ ((.slice Ao29 t664.length co29) : Value).ownBlock ∧ some k_ ≠ ((.slice Ao38 t669.length co38) : Value).ownBlock) (.slice Ao17 t654.length co17) t654) ∧ Aside0 (Kd.Q (Kd.slice 3 (Kd.int .i64)) 43 wc w.heap.size (fun k_ => some k_ ≠ ((.slice Ao14 t651.length co14) : Value).ownBlock ∧ some k_ ≠ ((.slice Ao17 t654.length co17) : Value).ownBlock ∧ some k_ ≠ ((.slice Ao29 t664.length co29) : Value).ownBlock ∧ some k_ ≠ ((.slice Ao38 t669.length co38) : Value).ownBlock) (.slice Ao21 t659.length co21) t659) ∧ Aside0 (Kd.Q (Kd.slice 3 (Kd.int .i64)) 43 wc w.heap.size (fun k_ => some k_ ≠ ((.slice Ao14 t651.length co14) : Value).ownBlock ∧ some k_ ≠ ((.slice Ao17 t654.length co17) : Value).ownBlock ∧ some k_ ≠ ((.slice Ao21 t659.length co21) : Value).ownBlock ∧ some k_ ≠ ((.slice Ao38 t669.length co38) : Value).ownBlock) (.slice Ao29 t664.length co29) t664) ∧ Aside0 (Kd.Q (Kd.slice 3 (Kd.int .i64)) 43 wc w.heap.size (fun k_ => some k_ ≠ ((.slice Ao14 t651.length co14) : Value).ownBlock ∧ some k_ ≠ ((.slice Ao17 t654.length co17) : Value).ownBlock ∧ some k_ ≠ ((.slice Ao21 t659.length co21) : Value).ownBlock ∧ some k_ ≠ ((.slice Ao29 t664.length co29) : Value).ownBlock) (.slice Ao38 t669.length co38) t669) ∧ Aside0 (wc.heap[gb657]? = some (.cells #[(.slice Ao14 t651.length co14)] 25 (0, 0))) ∧ Aside0 (wc.heap[gb658]? = some (.cells #[(.slice Ao17 t654.length co17)] 25 (0, 0))) ∧ Aside0 (wc.heap[gb663]? = some (.cells #[(.slice Ao21 t659.length co21)] 25 (0, 0))) ∧ Aside0 (wc.heap[gb668]? = some (.cells #[(.slice Ao29 t664.length co29)] 25 (0, 0))) ∧ Aside0 (wc.heap[gb673]? = some (.cells #[(.slice Ao38 t669.length co38)] 25 (0, 0))) ∧ Aside0 (Below w.heap.size w wc))
        case first =>
          have H := HC10.out
          clear HC10
          by_cases c44 : (t672 != t667) = true
          · rw [if_pos c44] at H
            have c44b0 : (t672 != t667) = true := c44
            (try (have c44b1 : decide (t672 = t667) = false := by simpa using c44))
            (try (have c44b2 : (t672 == t667) = false := by simpa using c44))
            (try (have c44b3 : ¬ (t672 = t667) := by simpa using c44))
            clear c44
            (first | rw [c44b0] | (simp only [i64_w, i32_w]; rw [c44b0]) | skip)
            have H' := Aside0.mk H
            clear H
            go_wp2
            go_meet
            case rel => exact ⟨_, (true), q10_46, H', ⟨by have := HJ2.out; first | omega | exact Nat.le_refl _⟩, ⟨by (with_reducible repeat (first | apply Kd.Q_alloc | apply Kd.Q_drewN | apply Kd.Q_drew)); exact Kd.Q_mono (Kd.Q_far (p := ⟨gb673, 0, none⟩) (Kd.Q_types HO653.out BK673.out (by decide)) (fun _ hk => hk.2) (.slice Ao38 t669.length co38)) (fun _ hk => ⟨hk.1.1.1.1, ⟨hk.1.1.1.2, ⟨hk.1.1.2, hk.1.2⟩⟩⟩)⟩, ⟨by (with_reducible repeat (first | apply Kd.Q_alloc | apply Kd.Q_drewN | apply Kd.Q_drew)); exact Kd.Q_mono (Kd.Q_far (p := ⟨gb673, 0, none⟩) (Kd.Q_types HO656.out BK673.out (by decide)) (fun _ hk => hk.2) (.slice Ao38 t669.length co38)) (fun _ hk => ⟨hk.1.1.1.1, ⟨hk.1.1.1.2, ⟨hk.1.1.2, hk.1.2⟩⟩⟩)⟩, ⟨by (with_reducible repeat (first | apply Kd.Q_alloc | apply Kd.Q_drewN | apply Kd.Q_drew)); exact Kd.Q_mono (Kd.Q_far (p := ⟨gb673, 0, none⟩) (Kd.Q_types HO661.out BK673.out (by decide)) (fun _ hk => hk.2) (.slice Ao38 t669.length co38)) (fun _ hk => ⟨hk.1.1.1.1.2, ⟨hk.1.1.1.2, ⟨hk.1.1.2, hk.1.2⟩⟩⟩)⟩, ⟨Kd.Q_of_R ((Kd.S_R (by (with_reducible repeat (first | apply Kd.S_alloc | apply Kd.S_drewN | apply Kd.S_drew)); exact Kd.S_mono (Kd.S_far (p := ⟨gb673, 0, none⟩) (Kd.S_types HO666.out BK673.out (by decide)) (fun _ hk => hk.2) (.slice Ao38 t669.length co38)) (fun _ hk => ⟨hk.1.1.1.1.2, ⟨hk.1.1.1.2, ⟨hk.1.1.2, hk.1.2⟩⟩⟩))))⟩, ⟨Kd.Q_of_R ((Kd.S_R (by (with_reducible repeat (first | apply Kd.S_alloc | apply Kd.S_drewN | apply Kd.S_drew)); exact Kd.S_mono (Kd.S_far (p := ⟨gb673, 0, none⟩) (Kd.S_types HO671.out BK673.out (by decide)) (fun _ hk => hk.2) (.slice Ao38 t669.length co38)) (fun _ hk => ⟨hk.1.1.1.1.2, ⟨hk.1.1.1.2, ⟨hk.1.1.2, hk.1.2⟩⟩⟩))))⟩, ⟨by (with_reducible repeat (first | refine blk_drewN ?_ _ | refine blk_drew ?_ | refine blk_alloc ?_ _)); refine blk_far ?_ NB657_673.out _; (with_reducible repeat (first | refine blk_drewN ?_ _ | refine blk_drew ?_ | refine blk_alloc ?_ _)); exact BK657.out⟩, ⟨by (with_reducible repeat (first | refine blk_drewN ?_ _ | refine blk_drew ?_ | refine blk_alloc ?_ _)); refine blk_far ?_ NB658_673.out _; (with_reducible repeat (first | refine blk_drewN ?_ _ | refine blk_drew ?_ | refine blk_alloc ?_ _)); exact BK658.out⟩, ⟨by (with_reducible repeat (first | refine blk_drewN ?_ _ | refine blk_drew ?_ | refine blk_alloc ?_ _)); refine blk_far ?_ NB663_673.out _; (with_reducible repeat (first | refine blk_drewN ?_ _ | refine blk_drew ?_ | refine blk_alloc ?_ _)); exact BK663.out⟩, ⟨by (with_reducible repeat (first | refine blk_drewN ?_ _ | refine blk_drew ?_ | refine blk_alloc ?_ _)); refine blk_far ?_ NB668_673.out _; (with_reducible repeat (first | refine blk_drewN ?_ _ | refine blk_drew ?_ | refine blk_alloc ?_ _)); exact BK668.out⟩, ⟨by (with_reducible repeat (first | refine blk_drewN ?_ _ | refine blk_drew ?_ | refine blk_alloc ?_ _)); refine blk_put (cs := #[.slice none 0 0]) ?_ 0 _ rfl; (with_reducible repeat (first | refine blk_drewN ?_ _ | refine blk_drew ?_ | refine blk_alloc ?_ _)); exact BK673.out⟩, ⟨q10_0⟩⟩
          · rw [if_neg c44] at H
            have c44b0 : (t672 != t667) = false := by simpa using c44
            (try (have c44b1 : decide (t672 = t667) = true := by simpa using c44))
            (try (have c44b2 : (t672 == t667) = true := by simpa using c44))
            clear c44
            (first | rw [c44b0] | (simp only [i64_w, i32_w]; rw [c44b0]) | skip)
            replace H := Option.bind_eq_some_iff.mp H
            obtain ⟨t674, A450, H⟩ := H
            replace H : (if t674 = true then (if t672 = true then (if t662 < 0 then (laws_FnRoughJoinGet.j1 kj2 t662 t667 t672 true t651 t654 t664 t669) else (laws_FnRoughJoinGet.j1 kj2 t662 t667 t672 (decide (t662 ≥ 64)) t651 t654 t664 t669)) else (laws_FnRoughJoinGet.j1 kj2 t662 t667 t672 true t651 t654 t664 t669)) else (laws_FnRoughJoinGet.j1 kj2 t662 t667 t672 true t651 t654 t664 t669)) = some r := H
            have A45 := Aside0.mk A450
            clear A450
            by_cases c46 : t674 = true
            · subst c46
              have H1 : (if t672 = true then (if t662 < 0 then (laws_FnRoughJoinGet.j1 kj2 t662 t667 t672 true t651 t654 t664 t669) else (laws_FnRoughJoinGet.j1 kj2 t662 t667 t672 (decide (t662 ≥ 64)) t651 t654 t664 t669)) else (laws_FnRoughJoinGet.j1 kj2 t662 t667 t672 true t651 t654 t664 t669)) = some r := by rw [if_pos rfl] at H; exact H
              clear H
              have H := H1
              clear H1
              by_cases c47 : t672 = true
              · subst c47
                have H1 : (if t662 < 0 then (laws_FnRoughJoinGet.j1 kj2 t662 t667 true true t651 t654 t664 t669) else (laws_FnRoughJoinGet.j1 kj2 t662 t667 true (decide (t662 ≥ 64)) t651 t654 t664 t669)) = some r := by rw [if_pos rfl] at H; exact H
                clear H
                have H := H1
                clear H1
                by_cases c48 : t662 < 0
                · rw [if_pos c48] at H
                  have c48b0 : decide (t662 < 0) = true := decide_eq_true c48
                  clear c48
                  have H' := Aside0.mk H
                  clear H
                  have hnb49 := NB673_657.out
                  have hnc49 := NB657_673.out
                  have hnb50 := NB673_658.out
                  have hnc50 := NB658_673.out
                  have hnb51 := NB673_663.out
                  have hnc51 := NB663_673.out
                  have hnb52 := NB673_668.out
                  have hnc52 := NB668_673.out
                  have hcz53_0 : w37.cell? ⟨gb673, 0, none⟩ = some (.slice none 0 0) := (blk_cell BK673.out 0).trans rfl
                  have hfz53_0 := blk_frozen BK673.out 0
                  have hnb54 := NB668_657.out
                  have hnc54 := NB657_668.out
                  have hnb55 := NB668_658.out
                  have hnc55 := NB658_668.out
                  have hnb56 := NB668_663.out
                  have hnc56 := NB663_668.out
                  have hcz57_0 : w37.cell? ⟨gb668, 0, none⟩ = some (.slice Ao29 t664.length co29) := (blk_cell BK668.out 0).trans rfl
                  have hfz57_0 := blk_frozen BK668.out 0
                  go_wp2_with (first | (go_at_call 15; (with_reducible refine (laws_lkRough.calls kj2 _ _ t669 _ _ t664 true _ ?side1 ?side2 ?side3 ?side4 A45.out).mono ?_); (case side1 => exact q10_2); (case side2 => exact (Kd.S_reads' HO671.out).2.1); (case side3 => exact q10_3); (case side4 => exact (Kd.S_reads' HO666.out).2.1); rintro e w58 ⟨rfl, hb⟩; have n0_ := Aside0.mk (Kd.Q_below q10_19 hb); have n1_ := Aside0.mk (Kd.Q_below q10_20 hb); have n2_ := Aside0.mk (Kd.Q_below q10_21 hb); have n3_ := Aside0.mk (Kd.S_below q10_22 hb); have n4_ := Aside0.mk (Kd.S_below q10_23 hb); have n5_ := Aside0.mk (blk_below (g := gb657) (o := .cells #[.slice Ao14 t651.length co14] 25 (0, 0)) q10_24 hb); have n6_ := Aside0.mk (blk_below (g := gb658) (o := .cells #[.slice Ao17 t654.length co17] 25 (0, 0)) q10_25 hb); have n7_ := Aside0.mk (blk_below (g := gb663) (o := .cells #[.slice Ao21 t659.length co21] 25 (0, 0)) q10_26 hb); have n8_ := Aside0.mk (blk_below (g := gb668) (o := .cells #[.slice Ao29 t664.length co29] 25 (0, 0)) q10_27 hb); have n9_ := Aside0.mk (blk_below (g := gb673) (o := .cells #[.slice Ao38 t669.length co38] 25 (0, 0)) q10_18 hb); have n10_ := Aside0.mk (below_step q10_0 hb); clear HO653; clear HO656; clear HO661; clear HO666; clear HO671; clear BK657; clear BK658; clear BK663; clear BK668; clear BK673; clear HB; have HO653 := n0_; have HO656 := n1_; have HO661 := n2_; have HO666 := n3_; have HO671 := n4_; have BK657 := n5_; have BK658 := n6_; have BK663 := n7_; have BK668 := n8_; have BK673 := n9_; have HB := n10_; clear n0_ n1_ n2_ n3_ n4_ n5_ n6_ n7_ n8_ n9_ n10_; (try clear hb); (try clear hb2); (try clear hk); (try clear hi)))
                  go_meet
                  case rel => exact ⟨_, (true), q10_46, H', ⟨by have := HJ2.out; first | omega | exact Nat.le_refl _⟩, ⟨by (with_reducible repeat (first | apply Kd.Q_alloc | apply Kd.Q_drewN | apply Kd.Q_drew)); exact Kd.Q_mono HO653.out (fun _ hk => ⟨hk.1.1.1, ⟨hk.1.1.2, ⟨hk.1.2, hk.2⟩⟩⟩)⟩, ⟨by (with_reducible repeat (first | apply Kd.Q_alloc | apply Kd.Q_drewN | apply Kd.Q_drew)); exact Kd.Q_mono HO656.out (fun _ hk => ⟨hk.1.1.1, ⟨hk.1.1.2, ⟨hk.1.2, hk.2⟩⟩⟩)⟩, ⟨by (with_reducible repeat (first | apply Kd.Q_alloc | apply Kd.Q_drewN | apply Kd.Q_drew)); exact Kd.Q_mono HO661.out (fun _ hk => ⟨hk.1.1.1.2, ⟨hk.1.1.2, ⟨hk.1.2, hk.2⟩⟩⟩)⟩, ⟨Kd.Q_of_R ((Kd.S_R q10_28))⟩, ⟨Kd.Q_of_R ((Kd.S_R q10_29))⟩, ⟨by (with_reducible repeat (first | refine blk_drewN ?_ _ | refine blk_drew ?_ | refine blk_alloc ?_ _)); exact BK657.out⟩, ⟨by (with_reducible repeat (first | refine blk_drewN ?_ _ | refine blk_drew ?_ | refine blk_alloc ?_ _)); exact BK658.out⟩, ⟨by (with_reducible repeat (first | refine blk_drewN ?_ _ | refine blk_drew ?_ | refine blk_alloc ?_ _)); exact BK663.out⟩, ⟨by (with_reducible repeat (first | refine blk_drewN ?_ _ | refine blk_drew ?_ | refine blk_alloc ?_ _)); exact BK668.out⟩, ⟨by (with_reducible repeat (first | refine blk_drewN ?_ _ | refine blk_drew ?_ | refine blk_alloc ?_ _)); exact BK673.out⟩, ⟨q10_0⟩⟩
                · rw [if_neg c48] at H
                  have c48b0 : decide (t662 < 0) = false := decide_eq_false c48
                  clear c48
                  have H' := Aside0.mk H
                  clear H
                  have hnb59 := NB673_657.out
                  have hnc59 := NB657_673.out
                  have hnb60 := NB673_658.out
                  have hnc60 := NB658_673.out
                  have hnb61 := NB673_663.out
                  have hnc61 := NB663_673.out
                  have hnb62 := NB673_668.out
                  have hnc62 := NB668_673.out
                  have hcz63_0 : w37.cell? ⟨gb673, 0, none⟩ = some (.slice none 0 0) := (blk_cell BK673.out 0).trans rfl
                  have hfz63_0 := blk_frozen BK673.out 0
                  have hnb64 := NB668_657.out
                  have hnc64 := NB657_668.out
                  have hnb65 := NB668_658.out
                  have hnc65 := NB658_668.out
                  have hnb66 := NB668_663.out
                  have hnc66 := NB663_668.out
                  have hcz67_0 : w37.cell? ⟨gb668, 0, none⟩ = some (.slice Ao29 t664.length co29) := (blk_cell BK668.out 0).trans rfl
                  have hfz67_0 := blk_frozen BK668.out 0
                  go_wp2_with (first | (go_at_call 15; (with_reducible refine (laws_lkRough.calls kj2 _ _ t669 _ _ t664 true _ ?side1 ?side2 ?side3 ?side4 A45.out).mono ?_); (case side1 => exact q10_2); (case side2 => exact (Kd.S_reads' HO671.out).2.1); (case side3 => exact q10_3); (case side4 => exact (Kd.S_reads' HO666.out).2.1); rintro e w68 ⟨rfl, hb⟩; have n0_ := Aside0.mk (Kd.Q_below q10_19 hb); have n1_ := Aside0.mk (Kd.Q_below q10_20 hb); have n2_ := Aside0.mk (Kd.Q_below q10_21 hb); have n3_ := Aside0.mk (Kd.S_below q10_22 hb); have n4_ := Aside0.mk (Kd.S_below q10_23 hb); have n5_ := Aside0.mk (blk_below (g := gb657) (o := .cells #[.slice Ao14 t651.length co14] 25 (0, 0)) q10_24 hb); have n6_ := Aside0.mk (blk_below (g := gb658) (o := .cells #[.slice Ao17 t654.length co17] 25 (0, 0)) q10_25 hb); have n7_ := Aside0.mk (blk_below (g := gb663) (o := .cells #[.slice Ao21 t659.length co21] 25 (0, 0)) q10_26 hb); have n8_ := Aside0.mk (blk_below (g := gb668) (o := .cells #[.slice Ao29 t664.length co29] 25 (0, 0)) q10_27 hb); have n9_ := Aside0.mk (blk_below (g := gb673) (o := .cells #[.slice Ao38 t669.length co38] 25 (0, 0)) q10_18 hb); have n10_ := Aside0.mk (below_step q10_0 hb); clear HO653; clear HO656; clear HO661; clear HO666; clear HO671; clear BK657; clear BK658; clear BK663; clear BK668; clear BK673; clear HB; have HO653 := n0_; have HO656 := n1_; have HO661 := n2_; have HO666 := n3_; have HO671 := n4_; have BK657 := n5_; have BK658 := n6_; have BK663 := n7_; have BK668 := n8_; have BK673 := n9_; have HB := n10_; clear n0_ n1_ n2_ n3_ n4_ n5_ n6_ n7_ n8_ n9_ n10_; (try clear hb); (try clear hb2); (try clear hk); (try clear hi)))
                  go_meet
                  case rel => exact ⟨_, (decide (t662 ≥ 64)), q10_46, H', ⟨by have := HJ2.out; first | omega | exact Nat.le_refl _⟩, ⟨by (with_reducible repeat (first | apply Kd.Q_alloc | apply Kd.Q_drewN | apply Kd.Q_drew)); exact Kd.Q_mono HO653.out (fun _ hk => ⟨hk.1.1.1, ⟨hk.1.1.2, ⟨hk.1.2, hk.2⟩⟩⟩)⟩, ⟨by (with_reducible repeat (first | apply Kd.Q_alloc | apply Kd.Q_drewN | apply Kd.Q_drew)); exact Kd.Q_mono HO656.out (fun _ hk => ⟨hk.1.1.1, ⟨hk.1.1.2, ⟨hk.1.2, hk.2⟩⟩⟩)⟩, ⟨by (with_reducible repeat (first | apply Kd.Q_alloc | apply Kd.Q_drewN | apply Kd.Q_drew)); exact Kd.Q_mono HO661.out (fun _ hk => ⟨hk.1.1.1.2, ⟨hk.1.1.2, ⟨hk.1.2, hk.2⟩⟩⟩)⟩, ⟨Kd.Q_of_R ((Kd.S_R q10_28))⟩, ⟨Kd.Q_of_R ((Kd.S_R q10_29))⟩, ⟨by (with_reducible repeat (first | refine blk_drewN ?_ _ | refine blk_drew ?_ | refine blk_alloc ?_ _)); exact BK657.out⟩, ⟨by (with_reducible repeat (first | refine blk_drewN ?_ _ | refine blk_drew ?_ | refine blk_alloc ?_ _)); exact BK658.out⟩, ⟨by (with_reducible repeat (first | refine blk_drewN ?_ _ | refine blk_drew ?_ | refine blk_alloc ?_ _)); exact BK663.out⟩, ⟨by (with_reducible repeat (first | refine blk_drewN ?_ _ | refine blk_drew ?_ | refine blk_alloc ?_ _)); exact BK668.out⟩, ⟨by (with_reducible repeat (first | refine blk_drewN ?_ _ | refine blk_drew ?_ | refine blk_alloc ?_ _)); exact BK673.out⟩, ⟨q10_0⟩⟩
              · replace c47 := Bool.eq_false_iff.mpr c47
                subst c47
                have H1 : (laws_FnRoughJoinGet.j1 kj2 t662 t667 false true t651 t654 t664 t669) = some r := by rw [if_neg (show ¬ (false = true) by decide)] at H; exact H
                clear H
                have H := H1
                clear H1
                have H' := Aside0.mk H
                clear H
                have hnb69 := NB673_657.out
                have hnc69 := NB657_673.out
                have hnb70 := NB673_658.out
                have hnc70 := NB658_673.out
                have hnb71 := NB673_663.out
                have hnc71 := NB663_673.out
                have hnb72 := NB673_668.out
                have hnc72 := NB668_673.out
                have hcz73_0 : w37.cell? ⟨gb673, 0, none⟩ = some (.slice none 0 0) := (blk_cell BK673.out 0).trans rfl
                have hfz73_0 := blk_frozen BK673.out 0
                have hnb74 := NB668_657.out
                have hnc74 := NB657_668.out
                have hnb75 := NB668_658.out
                have hnc75 := NB658_668.out
                have hnb76 := NB668_663.out
                have hnc76 := NB663_668.out
                have hcz77_0 : w37.cell? ⟨gb668, 0, none⟩ = some (.slice Ao29 t664.length co29) := (blk_cell BK668.out 0).trans rfl
                have hfz77_0 := blk_frozen BK668.out 0
                go_wp2_with (first | (go_at_call 15; (with_reducible refine (laws_lkRough.calls kj2 _ _ t669 _ _ t664 true _ ?side1 ?side2 ?side3 ?side4 A45.out).mono ?_); (case side1 => exact q10_2); (case side2 => exact (Kd.S_reads' HO671.out).2.1); (case side3 => exact q10_3); (case side4 => exact (Kd.S_reads' HO666.out).2.1); rintro e w78 ⟨rfl, hb⟩; have n0_ := Aside0.mk (Kd.Q_below q10_19 hb); have n1_ := Aside0.mk (Kd.Q_below q10_20 hb); have n2_ := Aside0.mk (Kd.Q_below q10_21 hb); have n3_ := Aside0.mk (Kd.S_below q10_22 hb); have n4_ := Aside0.mk (Kd.S_below q10_23 hb); have n5_ := Aside0.mk (blk_below (g := gb657) (o := .cells #[.slice Ao14 t651.length co14] 25 (0, 0)) q10_24 hb); have n6_ := Aside0.mk (blk_below (g := gb658) (o := .cells #[.slice Ao17 t654.length co17] 25 (0, 0)) q10_25 hb); have n7_ := Aside0.mk (blk_below (g := gb663) (o := .cells #[.slice Ao21 t659.length co21] 25 (0, 0)) q10_26 hb); have n8_ := Aside0.mk (blk_below (g := gb668) (o := .cells #[.slice Ao29 t664.length co29] 25 (0, 0)) q10_27 hb); have n9_ := Aside0.mk (blk_below (g := gb673) (o := .cells #[.slice Ao38 t669.length co38] 25 (0, 0)) q10_18 hb); have n10_ := Aside0.mk (below_step q10_0 hb); clear HO653; clear HO656; clear HO661; clear HO666; clear HO671; clear BK657; clear BK658; clear BK663; clear BK668; clear BK673; clear HB; have HO653 := n0_; have HO656 := n1_; have HO661 := n2_; have HO666 := n3_; have HO671 := n4_; have BK657 := n5_; have BK658 := n6_; have BK663 := n7_; have BK668 := n8_; have BK673 := n9_; have HB := n10_; clear n0_ n1_ n2_ n3_ n4_ n5_ n6_ n7_ n8_ n9_ n10_; (try clear hb); (try clear hb2); (try clear hk); (try clear hi)))
                go_meet
                case rel => exact ⟨_, (true), q10_46, H', ⟨by have := HJ2.out; first | omega | exact Nat.le_refl _⟩, ⟨by (with_reducible repeat (first | apply Kd.Q_alloc | apply Kd.Q_drewN | apply Kd.Q_drew)); exact Kd.Q_mono HO653.out (fun _ hk => ⟨hk.1.1.1, ⟨hk.1.1.2, ⟨hk.1.2, hk.2⟩⟩⟩)⟩, ⟨by (with_reducible repeat (first | apply Kd.Q_alloc | apply Kd.Q_drewN | apply Kd.Q_drew)); exact Kd.Q_mono HO656.out (fun _ hk => ⟨hk.1.1.1, ⟨hk.1.1.2, ⟨hk.1.2, hk.2⟩⟩⟩)⟩, ⟨by (with_reducible repeat (first | apply Kd.Q_alloc | apply Kd.Q_drewN | apply Kd.Q_drew)); exact Kd.Q_mono HO661.out (fun _ hk => ⟨hk.1.1.1.2, ⟨hk.1.1.2, ⟨hk.1.2, hk.2⟩⟩⟩)⟩, ⟨Kd.Q_of_R ((Kd.S_R q10_28))⟩, ⟨Kd.Q_of_R ((Kd.S_R q10_29))⟩, ⟨by (with_reducible repeat (first | refine blk_drewN ?_ _ | refine blk_drew ?_ | refine blk_alloc ?_ _)); exact BK657.out⟩, ⟨by (with_reducible repeat (first | refine blk_drewN ?_ _ | refine blk_drew ?_ | refine blk_alloc ?_ _)); exact BK658.out⟩, ⟨by (with_reducible repeat (first | refine blk_drewN ?_ _ | refine blk_drew ?_ | refine blk_alloc ?_ _)); exact BK663.out⟩, ⟨by (with_reducible repeat (first | refine blk_drewN ?_ _ | refine blk_drew ?_ | refine blk_alloc ?_ _)); exact BK668.out⟩, ⟨by (with_reducible repeat (first | refine blk_drewN ?_ _ | refine blk_drew ?_ | refine blk_alloc ?_ _)); exact BK673.out⟩, ⟨q10_0⟩⟩
            · replace c46 := Bool.eq_false_iff.mpr c46
              subst c46
              have H1 : (laws_FnRoughJoinGet.j1 kj2 t662 t667 t672 true t651 t654 t664 t669) = some r := by rw [if_neg (show ¬ (false = true) by decide)] at H; exact H
              clear H
              have H := H1
              clear H1
              have H' := Aside0.mk H
              clear H
              have hnb79 := NB673_657.out
              have hnc79 := NB657_673.out
              have hnb80 := NB673_658.out
              have hnc80 := NB658_673.out
              have hnb81 := NB673_663.out
              have hnc81 := NB663_673.out
              have hnb82 := NB673_668.out
              have hnc82 := NB668_673.out
              have hcz83_0 : w37.cell? ⟨gb673, 0, none⟩ = some (.slice none 0 0) := (blk_cell BK673.out 0).trans rfl
              have hfz83_0 := blk_frozen BK673.out 0
              have hnb84 := NB668_657.out
              have hnc84 := NB657_668.out
              have hnb85 := NB668_658.out
              have hnc85 := NB658_668.out
              have hnb86 := NB668_663.out
              have hnc86 := NB663_668.out
              have hcz87_0 : w37.cell? ⟨gb668, 0, none⟩ = some (.slice Ao29 t664.length co29) := (blk_cell BK668.out 0).trans rfl
              have hfz87_0 := blk_frozen BK668.out 0
              go_wp2_with (first | (go_at_call 15; (with_reducible refine (laws_lkRough.calls kj2 _ _ t669 _ _ t664 false _ ?side1 ?side2 ?side3 ?side4 A45.out).mono ?_); (case side1 => exact q10_2); (case side2 => exact (Kd.S_reads' HO671.out).2.1); (case side3 => exact q10_3); (case side4 => exact (Kd.S_reads' HO666.out).2.1); rintro e w88 ⟨rfl, hb⟩; have n0_ := Aside0.mk (Kd.Q_below q10_19 hb); have n1_ := Aside0.mk (Kd.Q_below q10_20 hb); have n2_ := Aside0.mk (Kd.Q_below q10_21 hb); have n3_ := Aside0.mk (Kd.S_below q10_22 hb); have n4_ := Aside0.mk (Kd.S_below q10_23 hb); have n5_ := Aside0.mk (blk_below (g := gb657) (o := .cells #[.slice Ao14 t651.length co14] 25 (0, 0)) q10_24 hb); have n6_ := Aside0.mk (blk_below (g := gb658) (o := .cells #[.slice Ao17 t654.length co17] 25 (0, 0)) q10_25 hb); have n7_ := Aside0.mk (blk_below (g := gb663) (o := .cells #[.slice Ao21 t659.length co21] 25 (0, 0)) q10_26 hb); have n8_ := Aside0.mk (blk_below (g := gb668) (o := .cells #[.slice Ao29 t664.length co29] 25 (0, 0)) q10_27 hb); have n9_ := Aside0.mk (blk_below (g := gb673) (o := .cells #[.slice Ao38 t669.length co38] 25 (0, 0)) q10_18 hb); have n10_ := Aside0.mk (below_step q10_0 hb); clear HO653; clear HO656; clear HO661; clear HO666; clear HO671; clear BK657; clear BK658; clear BK663; clear BK668; clear BK673; clear HB; have HO653 := n0_; have HO656 := n1_; have HO661 := n2_; have HO666 := n3_; have HO671 := n4_; have BK657 := n5_; have BK658 := n6_; have BK663 := n7_; have BK668 := n8_; have BK673 := n9_; have HB := n10_; clear n0_ n1_ n2_ n3_ n4_ n5_ n6_ n7_ n8_ n9_ n10_; (try clear hb); (try clear hb2); (try clear hk); (try clear hi)))
              go_meet
              case rel => exact ⟨_, (true), q10_46, H', ⟨by have := HJ2.out; first | omega | exact Nat.le_refl _⟩, ⟨by (with_reducible repeat (first | apply Kd.Q_alloc | apply Kd.Q_drewN | apply Kd.Q_drew)); exact Kd.Q_mono HO653.out (fun _ hk => ⟨hk.1.1.1, ⟨hk.1.1.2, ⟨hk.1.2, hk.2⟩⟩⟩)⟩, ⟨by (with_reducible repeat (first | apply Kd.Q_alloc | apply Kd.Q_drewN | apply Kd.Q_drew)); exact Kd.Q_mono HO656.out (fun _ hk => ⟨hk.1.1.1, ⟨hk.1.1.2, ⟨hk.1.2, hk.2⟩⟩⟩)⟩, ⟨by (with_reducible repeat (first | apply Kd.Q_alloc | apply Kd.Q_drewN | apply Kd.Q_drew)); exact Kd.Q_mono HO661.out (fun _ hk => ⟨hk.1.1.1.2, ⟨hk.1.1.2, ⟨hk.1.2, hk.2⟩⟩⟩)⟩, ⟨Kd.Q_of_R ((Kd.S_R q10_28))⟩, ⟨Kd.Q_of_R ((Kd.S_R q10_29))⟩, ⟨by (with_reducible repeat (first | refine blk_drewN ?_ _ | refine blk_drew ?_ | refine blk_alloc ?_ _)); exact BK657.out⟩, ⟨by (with_reducible repeat (first | refine blk_drewN ?_ _ | refine blk_drew ?_ | refine blk_alloc ?_ _)); exact BK658.out⟩, ⟨by (with_reducible repeat (first | refine blk_drewN ?_ _ | refine blk_drew ?_ | refine blk_alloc ?_ _)); exact BK663.out⟩, ⟨by (with_reducible repeat (first | refine blk_drewN ?_ _ | refine blk_drew ?_ | refine blk_alloc ?_ _)); exact BK668.out⟩, ⟨by (with_reducible repeat (first | refine blk_drewN ?_ _ | refine blk_drew ?_ | refine blk_alloc ?_ _)); exact BK673.out⟩, ⟨q10_0⟩⟩
        case rest =>
          clear HC10
          try clear c1
          try clear c2
          try clear p2
          try clear c3
          try clear c4
          try clear c4b0
          try clear c4b1
          try clear c5
          try clear c6
          try clear c7
          try clear c8
          try clear c10
          try clear c12
          try clear c13
          try clear c14
          try clear c15
          try clear c19
          try clear c22
          try clear c23
          try clear c30
          try clear c31
          try clear c32
          try clear c39
          try clear c40
          try clear c41
          try clear c42
          try clear c44
          try clear c44b0
          try clear c44b1
          try clear c44b2
          try clear c46
          try clear c47
          try clear c48
          try clear c48b0
          try clear c49
          try clear c50
          try clear c51
          try clear c52
          try clear c54
          try clear c55
          try clear c56
          try clear c59
          try clear c60
          try clear c61
          try clear c62
          try clear c64
          try clear c65
          try clear c66
          try clear c69
          try clear c70
          try clear c71
          try clear c72
          try clear c74
          try clear c75
          try clear c76
          try clear c79
          try clear c80
          try clear c81
          try clear c82
          try clear c84
          try clear c85
          try clear c86
          try clear hcz16_0
          try clear hcz18_0
          try clear hcz24_0
          try clear hcz25_0
          try clear hcz26_0
          try clear hcz33_0
          try clear hcz34_0
          try clear hcz35_0
          try clear hcz43_0
          try clear hcz53_0
          try clear hcz57_0
          try clear hcz63_0
          try clear hcz67_0
          try clear hcz73_0
          try clear hcz77_0
          try clear hcz83_0
          try clear hcz87_0
          try clear hfz16_0
          try clear hfz18_0
          try clear hfz24_0
          try clear hfz25_0
          try clear hfz26_0
          try clear hfz33_0
          try clear hfz34_0
          try clear hfz35_0
          try clear hfz43_0
          try clear hfz53_0
          try clear hfz57_0
          try clear hfz63_0
          try clear hfz67_0
          try clear hfz73_0
          try clear hfz77_0
          try clear hfz83_0
          try clear hfz87_0
          try clear p2
          obtain ⟨kq, x64_9, rfl, HA, HJ9, HO_658000, HO_659000, HO_664000, HO_669000, HO_674000, BK657, BK658, BK663, BK668, BK673, HB⟩ := hcut
          cases kq with
          | zero => exact absurd HA.out (by simp [laws_FnRoughJoinGet.j1])
          | succ kj9 =>
            have H := HA.out
            clear HA
            simp only [laws_FnRoughJoinGet.j1] at H
            by_cases c89 : x64_9 = true
            · subst c89
              have H1 : (if (t672 == t667) = true then ((laws_lkRough.f kj9 t669 t664).bind fun t675 => (some t675)) else (some false)) = some r := by rw [if_pos rfl] at H; exact H
              clear H
              have H := H1
              clear H1
              by_cases c90 : (t672 == t667) = true
              · rw [if_pos c90] at H
                have c90b0 : (t672 == t667) = true := c90
                (try (have c90b1 : decide (t672 = t667) = true := by simpa using c90))
                (try (have c90b2 : (t672 == t667) = true := by simpa using c90))
                clear c90
                replace H := Option.bind_eq_some_iff.mp H
                obtain ⟨t675, A910, H⟩ := H
                replace H : (some t675) = some r := H
                have A91 := Aside0.mk A910
                clear A910
                obtain rfl := Option.some.inj H
                have hnb92 := NB673_657.out
                have hnc92 := NB657_673.out
                have hnb93 := NB673_658.out
                have hnc93 := NB658_673.out
                have hnb94 := NB673_663.out
                have hnc94 := NB663_673.out
                have hnb95 := NB673_668.out
                have hnc95 := NB668_673.out
                have hcz96_0 : wc.cell? ⟨gb673, 0, none⟩ = some (.slice Ao38 t669.length co38) := (blk_cell BK673.out 0).trans rfl
                have hfz96_0 := blk_frozen BK673.out 0
                have hnb97 := NB668_657.out
                have hnc97 := NB657_668.out
                have hnb98 := NB668_658.out
                have hnc98 := NB658_668.out
                have hnb99 := NB668_663.out
                have hnc99 := NB663_668.out
                have hcz100_0 : wc.cell? ⟨gb668, 0, none⟩ = some (.slice Ao29 t664.length co29) := (blk_cell BK668.out 0).trans rfl
                have hfz100_0 := blk_frozen BK668.out 0
                go_wp2_with (first | (go_at_call 15; (with_reducible refine (laws_lkRough.calls kj9 _ _ t669 _ _ t664 t675 _ ?side1 ?side2 ?side3 ?side4 A91.out).mono ?_); (case side1 => exact q10_39); (case side2 => exact (Kd.Q_reads' HO_674000.out).2.1); (case side3 => repeat (first | exact (Kd.Q_reads' HO_669000.out).2.2 | (with_reducible refine Kd.C_alloc ?_ _) | (with_reducible refine Kd.C_drewN ?_ _) | (with_reducible refine Kd.C_drew ?_))); (case side4 => exact (Kd.Q_reads' HO_669000.out).2.1); rintro e w101 ⟨rfl, hb⟩; have n0_ := Aside0.mk (Kd.Q_below q10_13 hb); have n1_ := Aside0.mk (Kd.Q_below q10_14 hb); have n2_ := Aside0.mk (Kd.Q_below q10_15 hb); have n3_ := Aside0.mk (Kd.Q_below q10_16 hb); have n4_ := Aside0.mk (Kd.Q_below q10_17 hb); have n5_ := Aside0.mk (blk_below (g := gb657) (o := .cells #[.slice Ao14 t651.length co14] 25 (0, 0)) q10_1 hb); have n6_ := Aside0.mk (blk_below (g := gb658) (o := .cells #[.slice Ao17 t654.length co17] 25 (0, 0)) q10_4 hb); have n7_ := Aside0.mk (blk_below (g := gb663) (o := .cells #[.slice Ao21 t659.length co21] 25 (0, 0)) q10_5 hb); have n8_ := Aside0.mk (blk_below (g := gb668) (o := .cells #[.slice Ao29 t664.length co29] 25 (0, 0)) q10_7 hb); have n9_ := Aside0.mk (blk_below (g := gb673) (o := .cells #[.slice Ao38 t669.length co38] 25 (0, 0)) q10_12 hb); have n10_ := Aside0.mk (below_step q10_0 hb); clear HO_658000; clear HO_659000; clear HO_664000; clear HO_669000; clear HO_674000; clear BK657; clear BK658; clear BK663; clear BK668; clear BK673; clear HB; have HO_658000 := n0_; have HO_659000 := n1_; have HO_664000 := n2_; have HO_669000 := n3_; have HO_674000 := n4_; have BK657 := n5_; have BK658 := n6_; have BK663 := n7_; have BK668 := n8_; have BK673 := n9_; have HB := n10_; clear n0_ n1_ n2_ n3_ n4_ n5_ n6_ n7_ n8_ n9_ n10_; (try clear hb); (try clear hb2); (try clear hk); (try clear hi)))
                go_ret
                exact ⟨q10_38, q10_0⟩
              · rw [if_neg c90] at H
                have c90b0 : (t672 == t667) = false := by simpa using c90
                (try (have c90b1 : decide (t672 = t667) = false := by simpa using c90))
                (try (have c90b2 : (t672 == t667) = false := by simpa using c90))
                (try (have c90b3 : ¬ (t672 = t667) := by simpa using c90))
                clear c90
                obtain rfl := Option.some.inj H
                go_wp2
                go_ret
                exact ⟨q10_38, q10_0⟩
            · replace c89 := Bool.eq_false_iff.mpr c89
              subst c89
              have H1 : ((impl_RoughGet.f kj9 t669 t662).bind fun t676 => ((impl_RoughGet.f kj9 t651 t662).bind fun t677 => ((impl_RoughGet.f kj9 t654 t662).bind fun t678 => (if t676 ≥ (wrap64 (t677 + t678)) then ((impl_RoughGet.f kj9 t651 t662).bind fun t679 => ((impl_RoughAll.f kj9 t654).bind fun t680 => (some (decide (t676 ≤ (wrap64 (t679 + t680))))))) else (some false))))) = some r := by rw [if_neg (show ¬ (false = true) by decide)] at H; exact H
              clear H
              have H := H1
              clear H1
              replace H := Option.bind_eq_some_iff.mp H
              obtain ⟨t676, A1020, H⟩ := H
              replace H : ((impl_RoughGet.f kj9 t651 t662).bind fun t677 => ((impl_RoughGet.f kj9 t654 t662).bind fun t678 => (if t676 ≥ (wrap64 (t677 + t678)) then ((impl_RoughGet.f kj9 t651 t662).bind fun t679 => ((impl_RoughAll.f kj9 t654).bind fun t680 => (some (decide (t676 ≤ (wrap64 (t679 + t680))))))) else (some false)))) = some r := H
              have A102 := Aside0.mk A1020
              clear A1020
              replace H := Option.bind_eq_some_iff.mp H
              obtain ⟨t677, A1030, H⟩ := H
              replace H : ((impl_RoughGet.f kj9 t654 t662).bind fun t678 => (if t676 ≥ (wrap64 (t677 + t678)) then ((impl_RoughGet.f kj9 t651 t662).bind fun t679 => ((impl_RoughAll.f kj9 t654).bind fun t680 => (some (decide (t676 ≤ (wrap64 (t679 + t680))))))) else (some false))) = some r := H
              have A103 := Aside0.mk A1030
              clear A1030
              replace H := Option.bind_eq_some_iff.mp H
              obtain ⟨t678, A1040, H⟩ := H
              replace H : (if t676 ≥ (wrap64 (t677 + t678)) then ((impl_RoughGet.f kj9 t651 t662).bind fun t679 => ((impl_RoughAll.f kj9 t654).bind fun t680 => (some (decide (t676 ≤ (wrap64 (t679 + t680))))))) else (some false)) = some r := H
              have A104 := Aside0.mk A1040
              clear A1040
              by_cases c105 : t676 ≥ (wrap64 (t677 + t678))
              · rw [if_pos c105] at H
                have c105b0 : decide ((wrap64 (t677 + t678)) ≤ t676) = true := decide_eq_true c105
                clear c105
                replace H := Option.bind_eq_some_iff.mp H
                obtain ⟨t679, A1060, H⟩ := H
                replace H : ((impl_RoughAll.f kj9 t654).bind fun t680 => (some (decide (t676 ≤ (wrap64 (t679 + t680)))))) = some r := H
                have A106 := Aside0.mk A1060
                clear A1060
                replace H := Option.bind_eq_some_iff.mp H
                obtain ⟨t680, A1070, H⟩ := H
                replace H : (some (decide (t676 ≤ (wrap64 (t679 + t680))))) = some r := H
                have A107 := Aside0.mk A1070
                clear A1070
                obtain rfl := Option.some.inj H
                have hnb108 := NB673_657.out
                have hnc108 := NB657_673.out
                have hnb109 := NB673_658.out
                have hnc109 := NB658_673.out
                have hnb110 := NB673_663.out
                have hnc110 := NB663_673.out
                have hnb111 := NB673_668.out
                have hnc111 := NB668_673.out
                have hcz112_0 : wc.cell? ⟨gb673, 0, none⟩ = some (.slice Ao38 t669.length co38) := (blk_cell BK673.out 0).trans rfl
                have hfz112_0 := blk_frozen BK673.out 0
                try go_wp2_with (first | ((with_reducible refine gate_callee (f := 20) rfl ?_); refine goesL_ (some 75) rfl rfl Try.func20 (by kernel_rfl) rfl #[.agg #[.slice Ao38 t669.length co38], .int .i64 t662] rfl q10_6 ?_; (with_reducible refine (impl_RoughGet.calls kj9 _ _ t669 t662 t676 _ ?side1 ?side2 A102.out).mono ?_); (case side1 => exact q10_39); (case side2 => exact (Kd.Q_reads' HO_674000.out).2.1); rintro e w113 ⟨rfl, hb⟩; refine ⟨_, rfl, ?_⟩; have n0_ := Aside0.mk (Kd.Q_below q10_13 hb); have n1_ := Aside0.mk (Kd.Q_below q10_14 hb); have n2_ := Aside0.mk (Kd.Q_below q10_15 hb); have n3_ := Aside0.mk (Kd.Q_below q10_16 hb); have n4_ := Aside0.mk (Kd.Q_below q10_17 hb); have n5_ := Aside0.mk (blk_below (g := gb657) (o := .cells #[.slice Ao14 t651.length co14] 25 (0, 0)) q10_1 hb); have n6_ := Aside0.mk (blk_below (g := gb658) (o := .cells #[.slice Ao17 t654.length co17] 25 (0, 0)) q10_4 hb); have n7_ := Aside0.mk (blk_below (g := gb663) (o := .cells #[.slice Ao21 t659.length co21] 25 (0, 0)) q10_5 hb); have n8_ := Aside0.mk (blk_below (g := gb668) (o := .cells #[.slice Ao29 t664.length co29] 25 (0, 0)) q10_7 hb); have n9_ := Aside0.mk (blk_below (g := gb673) (o := .cells #[.slice Ao38 t669.length co38] 25 (0, 0)) q10_12 hb); have n10_ := Aside0.mk (below_step q10_0 hb); clear HO_658000; clear HO_659000; clear HO_664000; clear HO_669000; clear HO_674000; clear BK657; clear BK658; clear BK663; clear BK668; clear BK673; clear HB; have HO_658000 := n0_; have HO_659000 := n1_; have HO_664000 := n2_; have HO_669000 := n3_; have HO_674000 := n4_; have BK657 := n5_; have BK658 := n6_; have BK663 := n7_; have BK668 := n8_; have BK673 := n9_; have HB := n10_; clear n0_ n1_ n2_ n3_ n4_ n5_ n6_ n7_ n8_ n9_ n10_; (try clear hb); (try clear hb2); (try clear hk); (try clear hi)))
                have n0_ := Aside0.mk (Kd.Q_drew HO_658000.out)
                have n1_ := Aside0.mk (Kd.Q_drew HO_659000.out)
                have n2_ := Aside0.mk (Kd.Q_drew HO_664000.out)
                have n3_ := Aside0.mk (Kd.Q_drew HO_669000.out)
                have n4_ := Aside0.mk (Kd.Q_drew HO_674000.out)
                have n5_ := Aside0.mk (blk_drew BK657.out)
                have n6_ := Aside0.mk (blk_drew BK658.out)
                have n7_ := Aside0.mk (blk_drew BK663.out)
                have n8_ := Aside0.mk (blk_drew BK668.out)
                have n9_ := Aside0.mk (blk_drew BK673.out)
                have n10_ := Aside0.mk (below_drew1 HB.out)
                clear HO_658000
                clear HO_659000
                clear HO_664000
                clear HO_669000
                clear HO_674000
                clear BK657
                clear BK658
                clear BK663
                clear BK668
                clear BK673
                clear HB
                have HO_658000 := n0_
                have HO_659000 := n1_
                have HO_664000 := n2_
                have HO_669000 := n3_
                have HO_674000 := n4_
                have BK657 := n5_
                have BK658 := n6_
                have BK663 := n7_
                have BK668 := n8_
                have BK673 := n9_
                have HB := n10_
                clear n0_ n1_ n2_ n3_ n4_ n5_ n6_ n7_ n8_ n9_ n10_
                refine start_ (n := 20) (S := fun w' => w'.cell? ⟨gb657, 0, none⟩ = some (.slice Ao14 t651.length co14) ∧ w'.cell? ⟨gb658, 0, none⟩ = some (.slice Ao17 t654.length co17)) (ds := []) #[false, false, false, false, false, false, false, false, false, false, false, false, false, false, false, false, false, false, false, false] (by kernel_rfl) rfl rfl ⟨(blk_cell BK657.out 0).trans rfl, (blk_cell BK658.out 0).trans rfl⟩ (fun hHeld => ?_); refine with_tabW laws_FnRoughJoinGet.tab10 laws_FnRoughJoinGet.bits10 (fun HT_ HW_ => ?_)
                generalize w113.drew = w114 at HO_658000 HO_659000 HO_664000 HO_669000 HO_674000 BK657 BK658 BK663 BK668 BK673 HB hHeld ⊢
                refine pure_ (i := 0) (N := some 76) (v := ?_) (a' := ?_) #[true, false, false, false, false, false, false, false, false, false, false, false, false, false, false, false, false, false, false, false] rfl rfl (any_of HT_.out (by kernel_rfl)) (fun _ _ _ h => h) (Or.inl ⟨by rfl, ?_⟩) ?_ ?_
                rotate_left
                · intro w'
                  go_simp
                  with_reducible rfl
                rotate_left
                · simp only [Act.put, List.setIfInBounds_toArray, List.set_cons_zero, List.set_cons_succ, i64_w, i32_w]
                  rfl
                refine pure_ (i := 2) (N := some 78) (v := ?_) (a' := ?_) #[true, false, true, false, false, false, false, false, false, false, false, false, false, false, false, false, false, false, false, false] rfl rfl (any_of HT_.out (by kernel_rfl)) (fun _ _ _ h => h) (Or.inl ⟨by rfl, ?_⟩) ?_ ?_
                rotate_left
                · intro w'
                  go_simp
                  with_reducible rfl
                rotate_left
                · simp only [Act.put, List.setIfInBounds_toArray, List.set_cons_zero, List.set_cons_succ, i64_w, i32_w]
                  rfl
                refine pure_ (i := 5) (N := some 81) (v := ?_) (a' := ?_) #[true, false, true, false, false, true, false, false, false, false, false, false, false, false, false, false, false, false, false, false] rfl rfl (any_of HT_.out (by kernel_rfl)) (fun _ _ _ h => h) (Or.inl ⟨by rfl, ?_⟩) ?_ ?_
                rotate_left
                · intro w'
                  go_simp
                  with_reducible rfl
                rotate_left
                · simp only [Act.put, List.setIfInBounds_toArray, List.set_cons_zero, List.set_cons_succ, i64_w, i32_w]
                  rfl
                refine take_ (i := 1) (N := some 77) (v := ?_) (a' := ?_) #[true, true, true, false, false, true, false, false, false, false, false, false, false, false, false, false, false, false, false, false] rfl rfl (take_ofW HT_.out HW_.out (by kernel_rfl)) (fun _ _ _ h => h) (Or.inl ⟨by rfl, ?_⟩) hHeld ?_ ?_
                rotate_left
                · rintro w' ⟨s0, s1⟩
                  go_simp
                  with_reducible rfl
                rotate_left
                · simp only [Act.put, List.setIfInBounds_toArray, List.set_cons_zero, List.set_cons_succ, i64_w, i32_w]
                  rfl
                refine take_ (i := 4) (N := some 80) (v := ?_) (a' := ?_) #[true, true, true, false, true, true, false, false, false, false, false, false, false, false, false, false, false, false, false, false] rfl rfl (take_ofW HT_.out HW_.out (by kernel_rfl)) (fun _ _ _ h => h) (Or.inl ⟨by rfl, ?_⟩) hHeld ?_ ?_
                rotate_left
                · rintro w' ⟨s0, s1⟩
                  go_simp
                  with_reducible rfl
                rotate_left
                · simp only [Act.put, List.setIfInBounds_toArray, List.set_cons_zero, List.set_cons_succ, i64_w, i32_w]
                  rfl
                refine one_ (i := 3) (N := some 79) #[true, true, true, true, true, true, false, false, false, false, false, false, false, false, false, false, false, false, false, false] rfl rfl (one_of HT_.out (by kernel_rfl)) (by decide) (fun K hK => ?_)
                refine goes_ Try.func20 (by kernel_rfl) rfl #[.agg #[.slice Ao14 t651.length co14], .int .i64 t662] (by rfl) rfl rfl q10_6 ?_
                with_reducible refine (impl_RoughGet.calls kj9 _ _ t651 t662 t677 _ ?side1 ?side2 A103.out).mono ?_
                (case side1 => exact q10_40)
                (case side2 => exact (Kd.Q_reads' HO_658000.out).2.1)
                rintro e w115 ⟨rfl, hb⟩
                refine ⟨_, rfl, ?_⟩
                have n0_ := Aside0.mk (Kd.Q_below q10_13 hb)
                have n1_ := Aside0.mk (Kd.Q_below q10_14 hb)
                have n2_ := Aside0.mk (Kd.Q_below q10_15 hb)
                have n3_ := Aside0.mk (Kd.Q_below q10_16 hb)
                have n4_ := Aside0.mk (Kd.Q_below q10_17 hb)
                have n5_ := Aside0.mk (blk_below (g := gb657) (o := .cells #[.slice Ao14 t651.length co14] 25 (0, 0)) q10_1 hb)
                have n6_ := Aside0.mk (blk_below (g := gb658) (o := .cells #[.slice Ao17 t654.length co17] 25 (0, 0)) q10_4 hb)
                have n7_ := Aside0.mk (blk_below (g := gb663) (o := .cells #[.slice Ao21 t659.length co21] 25 (0, 0)) q10_5 hb)
                have n8_ := Aside0.mk (blk_below (g := gb668) (o := .cells #[.slice Ao29 t664.length co29] 25 (0, 0)) q10_7 hb)
                have n9_ := Aside0.mk (blk_below (g := gb673) (o := .cells #[.slice Ao38 t669.length co38] 25 (0, 0)) q10_12 hb)
                have n10_ := Aside0.mk (below_step q10_0 hb)
                clear HO_658000
                clear HO_659000
                clear HO_664000
                clear HO_669000
                clear HO_674000
                clear BK657
                clear BK658
                clear BK663
                clear BK668
                clear BK673
                clear HB
                have HO_658000 := n0_
                have HO_659000 := n1_
                have HO_664000 := n2_
                have HO_669000 := n3_
                have HO_674000 := n4_
                have BK657 := n5_
                have BK658 := n6_
                have BK663 := n7_
                have BK668 := n8_
                have BK673 := n9_
                have HB := n10_
                clear n0_ n1_ n2_ n3_ n4_ n5_ n6_ n7_ n8_ n9_ n10_
                (try clear hb)
                (try clear hb2)
                (try clear hk)
                (try clear hi)
                refine hK.out _ _ ⟨(blk_cell BK657.out 0).trans rfl, (blk_cell BK658.out 0).trans rfl⟩ (fun hHeld => ?_)
                clear hK K
                refine norm_ (a' := ?_) ?_ ?_
                rotate_left
                · show Act.put _ (some 79) _ = _
                  simp only [Act.put, List.setIfInBounds_toArray, List.set_cons_zero, List.set_cons_succ, i64_w, i32_w]
                  rfl
                refine one_ (i := 6) (N := some 82) #[true, true, true, true, true, true, true, false, false, false, false, false, false, false, false, false, false, false, false, false] rfl rfl (one_of HT_.out (by kernel_rfl)) (by decide) (fun K hK => ?_)
                refine goes_ Try.func20 (by kernel_rfl) rfl #[.agg #[.slice Ao17 t654.length co17], .int .i64 t662] (by rfl) rfl rfl q10_6 ?_
                with_reducible refine (impl_RoughGet.calls kj9 _ _ t654 t662 t678 _ ?side1 ?side2 A104.out).mono ?_
                (case side1 => exact q10_41)
                (case side2 => exact (Kd.Q_reads' HO_659000.out).2.1)
                rintro e w116 ⟨rfl, hb⟩
                refine ⟨_, rfl, ?_⟩
                have n0_ := Aside0.mk (Kd.Q_below q10_13 hb)
                have n1_ := Aside0.mk (Kd.Q_below q10_14 hb)
                have n2_ := Aside0.mk (Kd.Q_below q10_15 hb)
                have n3_ := Aside0.mk (Kd.Q_below q10_16 hb)
                have n4_ := Aside0.mk (Kd.Q_below q10_17 hb)
                have n5_ := Aside0.mk (blk_below (g := gb657) (o := .cells #[.slice Ao14 t651.length co14] 25 (0, 0)) q10_1 hb)
                have n6_ := Aside0.mk (blk_below (g := gb658) (o := .cells #[.slice Ao17 t654.length co17] 25 (0, 0)) q10_4 hb)
                have n7_ := Aside0.mk (blk_below (g := gb663) (o := .cells #[.slice Ao21 t659.length co21] 25 (0, 0)) q10_5 hb)
                have n8_ := Aside0.mk (blk_below (g := gb668) (o := .cells #[.slice Ao29 t664.length co29] 25 (0, 0)) q10_7 hb)
                have n9_ := Aside0.mk (blk_below (g := gb673) (o := .cells #[.slice Ao38 t669.length co38] 25 (0, 0)) q10_12 hb)
                have n10_ := Aside0.mk (below_step q10_0 hb)
                clear HO_658000
                clear HO_659000
                clear HO_664000
                clear HO_669000
                clear HO_674000
                clear BK657
                clear BK658
                clear BK663
                clear BK668
                clear BK673
                clear HB
                have HO_658000 := n0_
                have HO_659000 := n1_
                have HO_664000 := n2_
                have HO_669000 := n3_
                have HO_674000 := n4_
                have BK657 := n5_
                have BK658 := n6_
                have BK663 := n7_
                have BK668 := n8_
                have BK673 := n9_
                have HB := n10_
                clear n0_ n1_ n2_ n3_ n4_ n5_ n6_ n7_ n8_ n9_ n10_
                (try clear hb)
                (try clear hb2)
                (try clear hk)
                (try clear hi)
                refine hK.out _ _ ⟨(blk_cell BK657.out 0).trans rfl, (blk_cell BK658.out 0).trans rfl⟩ (fun hHeld => ?_)
                clear hK K
                refine norm_ (a' := ?_) ?_ ?_
                rotate_left
                · show Act.put _ (some 82) _ = _
                  simp only [Act.put, List.setIfInBounds_toArray, List.set_cons_zero, List.set_cons_succ, i64_w, i32_w]
                  rfl
                refine pure_ (i := 7) (N := some 83) (v := ?_) (a' := ?_) #[true, true, true, true, true, true, true, true, false, false, false, false, false, false, false, false, false, false, false, false] rfl rfl (any_of HT_.out (by kernel_rfl)) (fun _ _ _ h => h) (Or.inl ⟨by rfl, ?_⟩) ?_ ?_
                rotate_left
                · intro w'
                  go_simp
                  with_reducible rfl
                rotate_left
                · simp only [Act.put, List.setIfInBounds_toArray, List.set_cons_zero, List.set_cons_succ, i64_w, i32_w]
                  rfl
                refine pure_ (i := 8) (N := some 84) (v := ?_) (a' := ?_) #[true, true, true, true, true, true, true, true, true, false, false, false, false, false, false, false, false, false, false, false] rfl rfl (any_of HT_.out (by kernel_rfl)) (fun _ _ _ h => h) (Or.inl ⟨by rfl, ?_⟩) ?_ ?_
                rotate_left
                · intro w'
                  go_simp
                  with_reducible rfl
                rotate_left
                · simp only [Act.put, List.setIfInBounds_toArray, List.set_cons_zero, List.set_cons_succ, i64_w, i32_w]
                  rfl
                refine pure_ (i := 9) (N := some 85) (v := ?_) (a' := ?_) #[true, true, true, true, true, true, true, true, true, true, false, false, false, false, false, false, false, false, false, false] rfl rfl (any_of HT_.out (by kernel_rfl)) (fun _ _ _ h => h) (Or.inl ⟨by rfl, ?_⟩) ?_ ?_
                rotate_left
                · intro w'
                  go_simp
                  with_reducible rfl
                rotate_left
                · simp only [Act.put, List.setIfInBounds_toArray, List.set_cons_zero, List.set_cons_succ, i64_w, i32_w]
                  rfl
                refine pure_ (i := 10) (N := some 86) (v := ?_) (a' := ?_) #[true, true, true, true, true, true, true, true, true, true, true, false, false, false, false, false, false, false, false, false] rfl rfl (any_of HT_.out (by kernel_rfl)) (fun _ _ _ h => h) (Or.inl ⟨by rfl, ?_⟩) ?_ ?_
                rotate_left
                · intro w'
                  go_simp
                  with_reducible rfl
                rotate_left
                · simp only [Act.put, List.setIfInBounds_toArray, List.set_cons_zero, List.set_cons_succ, i64_w, i32_w]
                  rfl
                refine pure_ (i := 12) (N := some 88) (v := ?_) (a' := ?_) #[true, true, true, true, true, true, true, true, true, true, true, false, true, false, false, false, false, false, false, false] rfl rfl (any_of HT_.out (by kernel_rfl)) (fun _ _ _ h => h) (Or.inl ⟨by rfl, ?_⟩) ?_ ?_
                rotate_left
                · intro w'
                  go_simp
                  with_reducible rfl
                rotate_left
                · simp only [Act.put, List.setIfInBounds_toArray, List.set_cons_zero, List.set_cons_succ, i64_w, i32_w]
                  rfl
                refine take_ (i := 11) (N := some 87) (v := ?_) (a' := ?_) #[true, true, true, true, true, true, true, true, true, true, true, true, true, false, false, false, false, false, false, false] rfl rfl (take_ofW HT_.out HW_.out (by kernel_rfl)) (fun _ _ _ h => h) (Or.inl ⟨by rfl, ?_⟩) hHeld ?_ ?_
                rotate_left
                · rintro w' ⟨s0, s1⟩
                  go_simp
                  with_reducible rfl
                rotate_left
                · simp only [Act.put, List.setIfInBounds_toArray, List.set_cons_zero, List.set_cons_succ, i64_w, i32_w]
                  rfl
                refine take_ (i := 14) (N := some 90) (v := ?_) (a' := ?_) #[true, true, true, true, true, true, true, true, true, true, true, true, true, false, true, false, false, false, false, false] rfl rfl (take_ofW HT_.out HW_.out (by kernel_rfl)) (fun _ _ _ h => h) (Or.inl ⟨by rfl, ?_⟩) hHeld ?_ ?_
                rotate_left
                · rintro w' ⟨s0, s1⟩
                  go_simp
                  with_reducible rfl
                rotate_left
                · simp only [Act.put, List.setIfInBounds_toArray, List.set_cons_zero, List.set_cons_succ, i64_w, i32_w]
                  rfl
                refine one_ (i := 13) (N := some 89) #[true, true, true, true, true, true, true, true, true, true, true, true, true, true, true, false, false, false, false, false] rfl rfl (one_of HT_.out (by kernel_rfl)) (by decide) (fun K hK => ?_)
                refine goes_ Try.func20 (by kernel_rfl) rfl #[.agg #[.slice Ao14 t651.length co14], .int .i64 t662] (by rfl) rfl rfl q10_6 ?_
                with_reducible refine (impl_RoughGet.calls kj9 _ _ t651 t662 t679 _ ?side1 ?side2 A106.out).mono ?_
                (case side1 => exact q10_40)
                (case side2 => exact (Kd.Q_reads' HO_658000.out).2.1)
                rintro e w117 ⟨rfl, hb⟩
                refine ⟨_, rfl, ?_⟩
                have n0_ := Aside0.mk (Kd.Q_below q10_13 hb)
                have n1_ := Aside0.mk (Kd.Q_below q10_14 hb)
                have n2_ := Aside0.mk (Kd.Q_below q10_15 hb)
                have n3_ := Aside0.mk (Kd.Q_below q10_16 hb)
                have n4_ := Aside0.mk (Kd.Q_below q10_17 hb)
                have n5_ := Aside0.mk (blk_below (g := gb657) (o := .cells #[.slice Ao14 t651.length co14] 25 (0, 0)) q10_1 hb)
                have n6_ := Aside0.mk (blk_below (g := gb658) (o := .cells #[.slice Ao17 t654.length co17] 25 (0, 0)) q10_4 hb)
                have n7_ := Aside0.mk (blk_below (g := gb663) (o := .cells #[.slice Ao21 t659.length co21] 25 (0, 0)) q10_5 hb)
                have n8_ := Aside0.mk (blk_below (g := gb668) (o := .cells #[.slice Ao29 t664.length co29] 25 (0, 0)) q10_7 hb)
                have n9_ := Aside0.mk (blk_below (g := gb673) (o := .cells #[.slice Ao38 t669.length co38] 25 (0, 0)) q10_12 hb)
                have n10_ := Aside0.mk (below_step q10_0 hb)
                clear HO_658000
                clear HO_659000
                clear HO_664000
                clear HO_669000
                clear HO_674000
                clear BK657
                clear BK658
                clear BK663
                clear BK668
                clear BK673
                clear HB
                have HO_658000 := n0_
                have HO_659000 := n1_
                have HO_664000 := n2_
                have HO_669000 := n3_
                have HO_674000 := n4_
                have BK657 := n5_
                have BK658 := n6_
                have BK663 := n7_
                have BK668 := n8_
                have BK673 := n9_
                have HB := n10_
                clear n0_ n1_ n2_ n3_ n4_ n5_ n6_ n7_ n8_ n9_ n10_
                (try clear hb)
                (try clear hb2)
                (try clear hk)
                (try clear hi)
                refine hK.out _ _ ⟨(blk_cell BK657.out 0).trans rfl, (blk_cell BK658.out 0).trans rfl⟩ (fun hHeld => ?_)
                clear hK K
                refine norm_ (a' := ?_) ?_ ?_
                rotate_left
                · show Act.put _ (some 89) _ = _
                  simp only [Act.put, List.setIfInBounds_toArray, List.set_cons_zero, List.set_cons_succ, i64_w, i32_w]
                  rfl
                refine one_ (i := 15) (N := some 91) #[true, true, true, true, true, true, true, true, true, true, true, true, true, true, true, true, false, false, false, false] rfl rfl (one_of HT_.out (by kernel_rfl)) (by decide) (fun K hK => ?_)
                refine goes_ Try.func18 (by kernel_rfl) rfl #[.agg #[.slice Ao17 t654.length co17]] (by rfl) rfl rfl q10_6 ?_
                with_reducible refine (impl_RoughAll.calls kj9 _ _ t654 t680 _ ?side1 ?side2 A107.out).mono ?_
                (case side1 => exact q10_41)
                (case side2 => exact (Kd.Q_reads' HO_659000.out).2.1)
                rintro e w118 ⟨rfl, hb⟩
                refine ⟨_, rfl, ?_⟩
                have n0_ := Aside0.mk (Kd.Q_below q10_13 hb)
                have n1_ := Aside0.mk (Kd.Q_below q10_14 hb)
                have n2_ := Aside0.mk (Kd.Q_below q10_15 hb)
                have n3_ := Aside0.mk (Kd.Q_below q10_16 hb)
                have n4_ := Aside0.mk (Kd.Q_below q10_17 hb)
                have n5_ := Aside0.mk (blk_below (g := gb657) (o := .cells #[.slice Ao14 t651.length co14] 25 (0, 0)) q10_1 hb)
                have n6_ := Aside0.mk (blk_below (g := gb658) (o := .cells #[.slice Ao17 t654.length co17] 25 (0, 0)) q10_4 hb)
                have n7_ := Aside0.mk (blk_below (g := gb663) (o := .cells #[.slice Ao21 t659.length co21] 25 (0, 0)) q10_5 hb)
                have n8_ := Aside0.mk (blk_below (g := gb668) (o := .cells #[.slice Ao29 t664.length co29] 25 (0, 0)) q10_7 hb)
                have n9_ := Aside0.mk (blk_below (g := gb673) (o := .cells #[.slice Ao38 t669.length co38] 25 (0, 0)) q10_12 hb)
                have n10_ := Aside0.mk (below_step q10_0 hb)
                clear HO_658000
                clear HO_659000
                clear HO_664000
                clear HO_669000
                clear HO_674000
                clear BK657
                clear BK658
                clear BK663
                clear BK668
                clear BK673
                clear HB
                have HO_658000 := n0_
                have HO_659000 := n1_
                have HO_664000 := n2_
                have HO_669000 := n3_
                have HO_674000 := n4_
                have BK657 := n5_
                have BK658 := n6_
                have BK663 := n7_
                have BK668 := n8_
                have BK673 := n9_
                have HB := n10_
                clear n0_ n1_ n2_ n3_ n4_ n5_ n6_ n7_ n8_ n9_ n10_
                (try clear hb)
                (try clear hb2)
                (try clear hk)
                (try clear hi)
                refine hK.out _ _ ⟨(blk_cell BK657.out 0).trans rfl, (blk_cell BK658.out 0).trans rfl⟩ (fun hHeld => ?_)
                clear hK K
                refine norm_ (a' := ?_) ?_ ?_
                rotate_left
                · show Act.put _ (some 91) _ = _
                  simp only [Act.put, List.setIfInBounds_toArray, List.set_cons_zero, List.set_cons_succ, i64_w, i32_w]
                  rfl
                refine pure_ (i := 16) (N := some 92) (v := ?_) (a' := ?_) #[true, true, true, true, true, true, true, true, true, true, true, true, true, true, true, true, true, false, false, false] rfl rfl (any_of HT_.out (by kernel_rfl)) (fun _ _ _ h => h) (Or.inl ⟨by rfl, ?_⟩) ?_ ?_
                rotate_left
                · intro w'
                  go_simp
                  with_reducible rfl
                rotate_left
                · simp only [Act.put, List.setIfInBounds_toArray, List.set_cons_zero, List.set_cons_succ, i64_w, i32_w]
                  rfl
                refine pure_ (i := 17) (N := some 93) (v := ?_) (a' := ?_) #[true, true, true, true, true, true, true, true, true, true, true, true, true, true, true, true, true, true, false, false] rfl rfl (any_of HT_.out (by kernel_rfl)) (fun _ _ _ h => h) (Or.inl ⟨by rfl, ?_⟩) ?_ ?_
                rotate_left
                · intro w'
                  go_simp
                  with_reducible rfl
                rotate_left
                · simp only [Act.put, List.setIfInBounds_toArray, List.set_cons_zero, List.set_cons_succ, i64_w, i32_w]
                  rfl
                refine pure_ (i := 18) (N := some 94) (v := ?_) (a' := ?_) #[true, true, true, true, true, true, true, true, true, true, true, true, true, true, true, true, true, true, true, false] rfl rfl (any_of HT_.out (by kernel_rfl)) (fun _ _ _ h => h) (Or.inl ⟨by rfl, ?_⟩) ?_ ?_
                rotate_left
                · intro w'
                  go_simp
                  with_reducible rfl
                rotate_left
                · simp only [Act.put, List.setIfInBounds_toArray, List.set_cons_zero, List.set_cons_succ, i64_w, i32_w]
                  rfl
                refine pure_ (i := 19) (N := some 4) (v := ?_) (a' := ?_) #[true, true, true, true, true, true, true, true, true, true, true, true, true, true, true, true, true, true, true, true] rfl rfl (any_of HT_.out (by kernel_rfl)) (fun _ _ _ h => h) (Or.inl ⟨by rfl, ?_⟩) ?_ ?_
                rotate_left
                · intro w'
                  go_simp
                  with_reducible rfl
                rotate_left
                · simp only [Act.put, List.setIfInBounds_toArray, List.set_cons_zero, List.set_cons_succ, i64_w, i32_w]
                  rfl
                refine done_ (done_of HT_.out (by kernel_rfl)) ?_
                try go_wp2
                go_ret
                exact ⟨q10_38, q10_0⟩
              · rw [if_neg c105] at H
                have c105b0 : decide ((wrap64 (t677 + t678)) ≤ t676) = false := decide_eq_false c105
                clear c105
                obtain rfl := Option.some.inj H
                have hnb119 := NB673_657.out
                have hnc119 := NB657_673.out
                have hnb120 := NB673_658.out
                have hnc120 := NB658_673.out
                have hnb121 := NB673_663.out
                have hnc121 := NB663_673.out
                have hnb122 := NB673_668.out
                have hnc122 := NB668_673.out
                have hcz123_0 : wc.cell? ⟨gb673, 0, none⟩ = some (.slice Ao38 t669.length co38) := (blk_cell BK673.out 0).trans rfl
                have hfz123_0 := blk_frozen BK673.out 0
                try go_wp2_with (first | ((with_reducible refine gate_callee (f := 20) rfl ?_); refine goesL_ (some 75) rfl rfl Try.func20 (by kernel_rfl) rfl #[.agg #[.slice Ao38 t669.length co38], .int .i64 t662] rfl q10_6 ?_; (with_reducible refine (impl_RoughGet.calls kj9 _ _ t669 t662 t676 _ ?side1 ?side2 A102.out).mono ?_); (case side1 => exact q10_39); (case side2 => exact (Kd.Q_reads' HO_674000.out).2.1); rintro e w124 ⟨rfl, hb⟩; refine ⟨_, rfl, ?_⟩; have n0_ := Aside0.mk (Kd.Q_below q10_13 hb); have n1_ := Aside0.mk (Kd.Q_below q10_14 hb); have n2_ := Aside0.mk (Kd.Q_below q10_15 hb); have n3_ := Aside0.mk (Kd.Q_below q10_16 hb); have n4_ := Aside0.mk (Kd.Q_below q10_17 hb); have n5_ := Aside0.mk (blk_below (g := gb657) (o := .cells #[.slice Ao14 t651.length co14] 25 (0, 0)) q10_1 hb); have n6_ := Aside0.mk (blk_below (g := gb658) (o := .cells #[.slice Ao17 t654.length co17] 25 (0, 0)) q10_4 hb); have n7_ := Aside0.mk (blk_below (g := gb663) (o := .cells #[.slice Ao21 t659.length co21] 25 (0, 0)) q10_5 hb); have n8_ := Aside0.mk (blk_below (g := gb668) (o := .cells #[.slice Ao29 t664.length co29] 25 (0, 0)) q10_7 hb); have n9_ := Aside0.mk (blk_below (g := gb673) (o := .cells #[.slice Ao38 t669.length co38] 25 (0, 0)) q10_12 hb); have n10_ := Aside0.mk (below_step q10_0 hb); clear HO_658000; clear HO_659000; clear HO_664000; clear HO_669000; clear HO_674000; clear BK657; clear BK658; clear BK663; clear BK668; clear BK673; clear HB; have HO_658000 := n0_; have HO_659000 := n1_; have HO_664000 := n2_; have HO_669000 := n3_; have HO_674000 := n4_; have BK657 := n5_; have BK658 := n6_; have BK663 := n7_; have BK668 := n8_; have BK673 := n9_; have HB := n10_; clear n0_ n1_ n2_ n3_ n4_ n5_ n6_ n7_ n8_ n9_ n10_; (try clear hb); (try clear hb2); (try clear hk); (try clear hi)))
                have n0_ := Aside0.mk (Kd.Q_drew HO_658000.out)
                have n1_ := Aside0.mk (Kd.Q_drew HO_659000.out)
                have n2_ := Aside0.mk (Kd.Q_drew HO_664000.out)
                have n3_ := Aside0.mk (Kd.Q_drew HO_669000.out)
                have n4_ := Aside0.mk (Kd.Q_drew HO_674000.out)
                have n5_ := Aside0.mk (blk_drew BK657.out)
                have n6_ := Aside0.mk (blk_drew BK658.out)
                have n7_ := Aside0.mk (blk_drew BK663.out)
                have n8_ := Aside0.mk (blk_drew BK668.out)
                have n9_ := Aside0.mk (blk_drew BK673.out)
                have n10_ := Aside0.mk (below_drew1 HB.out)
                clear HO_658000
                clear HO_659000
                clear HO_664000
                clear HO_669000
                clear HO_674000
                clear BK657
                clear BK658
                clear BK663
                clear BK668
                clear BK673
                clear HB
                have HO_658000 := n0_
                have HO_659000 := n1_
                have HO_664000 := n2_
                have HO_669000 := n3_
                have HO_674000 := n4_
                have BK657 := n5_
                have BK658 := n6_
                have BK663 := n7_
                have BK668 := n8_
                have BK673 := n9_
                have HB := n10_
                clear n0_ n1_ n2_ n3_ n4_ n5_ n6_ n7_ n8_ n9_ n10_
                refine start_ (n := 20) (S := fun w' => w'.cell? ⟨gb657, 0, none⟩ = some (.slice Ao14 t651.length co14) ∧ w'.cell? ⟨gb658, 0, none⟩ = some (.slice Ao17 t654.length co17)) (ds := []) #[false, false, false, false, false, false, false, false, false, false, false, false, false, false, false, false, false, false, false, false] (by kernel_rfl) rfl rfl ⟨(blk_cell BK657.out 0).trans rfl, (blk_cell BK658.out 0).trans rfl⟩ (fun hHeld => ?_); refine with_tabW laws_FnRoughJoinGet.tab10 laws_FnRoughJoinGet.bits10 (fun HT_ HW_ => ?_)
                generalize w124.drew = w125 at HO_658000 HO_659000 HO_664000 HO_669000 HO_674000 BK657 BK658 BK663 BK668 BK673 HB hHeld ⊢
                refine pure_ (i := 0) (N := some 76) (v := ?_) (a' := ?_) #[true, false, false, false, false, false, false, false, false, false, false, false, false, false, false, false, false, false, false, false] rfl rfl (any_of HT_.out (by kernel_rfl)) (fun _ _ _ h => h) (Or.inl ⟨by rfl, ?_⟩) ?_ ?_
                rotate_left
                · intro w'
                  go_simp
                  with_reducible rfl
                rotate_left
                · simp only [Act.put, List.setIfInBounds_toArray, List.set_cons_zero, List.set_cons_succ, i64_w, i32_w]
                  rfl
                refine pure_ (i := 2) (N := some 78) (v := ?_) (a' := ?_) #[true, false, true, false, false, false, false, false, false, false, false, false, false, false, false, false, false, false, false, false] rfl rfl (any_of HT_.out (by kernel_rfl)) (fun _ _ _ h => h) (Or.inl ⟨by rfl, ?_⟩) ?_ ?_
                rotate_left
                · intro w'
                  go_simp
                  with_reducible rfl
                rotate_left
                · simp only [Act.put, List.setIfInBounds_toArray, List.set_cons_zero, List.set_cons_succ, i64_w, i32_w]
                  rfl
                refine pure_ (i := 5) (N := some 81) (v := ?_) (a' := ?_) #[true, false, true, false, false, true, false, false, false, false, false, false, false, false, false, false, false, false, false, false] rfl rfl (any_of HT_.out (by kernel_rfl)) (fun _ _ _ h => h) (Or.inl ⟨by rfl, ?_⟩) ?_ ?_
                rotate_left
                · intro w'
                  go_simp
                  with_reducible rfl
                rotate_left
                · simp only [Act.put, List.setIfInBounds_toArray, List.set_cons_zero, List.set_cons_succ, i64_w, i32_w]
                  rfl
                refine take_ (i := 1) (N := some 77) (v := ?_) (a' := ?_) #[true, true, true, false, false, true, false, false, false, false, false, false, false, false, false, false, false, false, false, false] rfl rfl (take_ofW HT_.out HW_.out (by kernel_rfl)) (fun _ _ _ h => h) (Or.inl ⟨by rfl, ?_⟩) hHeld ?_ ?_
                rotate_left
                · rintro w' ⟨s0, s1⟩
                  go_simp
                  with_reducible rfl
                rotate_left
                · simp only [Act.put, List.setIfInBounds_toArray, List.set_cons_zero, List.set_cons_succ, i64_w, i32_w]
                  rfl
                refine take_ (i := 4) (N := some 80) (v := ?_) (a' := ?_) #[true, true, true, false, true, true, false, false, false, false, false, false, false, false, false, false, false, false, false, false] rfl rfl (take_ofW HT_.out HW_.out (by kernel_rfl)) (fun _ _ _ h => h) (Or.inl ⟨by rfl, ?_⟩) hHeld ?_ ?_
                rotate_left
                · rintro w' ⟨s0, s1⟩
                  go_simp
                  with_reducible rfl
                rotate_left
                · simp only [Act.put, List.setIfInBounds_toArray, List.set_cons_zero, List.set_cons_succ, i64_w, i32_w]
                  rfl
                refine one_ (i := 3) (N := some 79) #[true, true, true, true, true, true, false, false, false, false, false, false, false, false, false, false, false, false, false, false] rfl rfl (one_of HT_.out (by kernel_rfl)) (by decide) (fun K hK => ?_)
                refine goes_ Try.func20 (by kernel_rfl) rfl #[.agg #[.slice Ao14 t651.length co14], .int .i64 t662] (by rfl) rfl rfl q10_6 ?_
                with_reducible refine (impl_RoughGet.calls kj9 _ _ t651 t662 t677 _ ?side1 ?side2 A103.out).mono ?_
                (case side1 => exact q10_40)
                (case side2 => exact (Kd.Q_reads' HO_658000.out).2.1)
                rintro e w126 ⟨rfl, hb⟩
                refine ⟨_, rfl, ?_⟩
                have n0_ := Aside0.mk (Kd.Q_below q10_13 hb)
                have n1_ := Aside0.mk (Kd.Q_below q10_14 hb)
                have n2_ := Aside0.mk (Kd.Q_below q10_15 hb)
                have n3_ := Aside0.mk (Kd.Q_below q10_16 hb)
                have n4_ := Aside0.mk (Kd.Q_below q10_17 hb)
                have n5_ := Aside0.mk (blk_below (g := gb657) (o := .cells #[.slice Ao14 t651.length co14] 25 (0, 0)) q10_1 hb)
                have n6_ := Aside0.mk (blk_below (g := gb658) (o := .cells #[.slice Ao17 t654.length co17] 25 (0, 0)) q10_4 hb)
                have n7_ := Aside0.mk (blk_below (g := gb663) (o := .cells #[.slice Ao21 t659.length co21] 25 (0, 0)) q10_5 hb)
                have n8_ := Aside0.mk (blk_below (g := gb668) (o := .cells #[.slice Ao29 t664.length co29] 25 (0, 0)) q10_7 hb)
                have n9_ := Aside0.mk (blk_below (g := gb673) (o := .cells #[.slice Ao38 t669.length co38] 25 (0, 0)) q10_12 hb)
                have n10_ := Aside0.mk (below_step q10_0 hb)
                clear HO_658000
                clear HO_659000
                clear HO_664000
                clear HO_669000
                clear HO_674000
                clear BK657
                clear BK658
                clear BK663
                clear BK668
                clear BK673
                clear HB
                have HO_658000 := n0_
                have HO_659000 := n1_
                have HO_664000 := n2_
                have HO_669000 := n3_
                have HO_674000 := n4_
                have BK657 := n5_
                have BK658 := n6_
                have BK663 := n7_
                have BK668 := n8_
                have BK673 := n9_
                have HB := n10_
                clear n0_ n1_ n2_ n3_ n4_ n5_ n6_ n7_ n8_ n9_ n10_
                (try clear hb)
                (try clear hb2)
                (try clear hk)
                (try clear hi)
                refine hK.out _ _ ⟨(blk_cell BK657.out 0).trans rfl, (blk_cell BK658.out 0).trans rfl⟩ (fun hHeld => ?_)
                clear hK K
                refine norm_ (a' := ?_) ?_ ?_
                rotate_left
                · show Act.put _ (some 79) _ = _
                  simp only [Act.put, List.setIfInBounds_toArray, List.set_cons_zero, List.set_cons_succ, i64_w, i32_w]
                  rfl
                refine one_ (i := 6) (N := some 82) #[true, true, true, true, true, true, true, false, false, false, false, false, false, false, false, false, false, false, false, false] rfl rfl (one_of HT_.out (by kernel_rfl)) (by decide) (fun K hK => ?_)
                refine goes_ Try.func20 (by kernel_rfl) rfl #[.agg #[.slice Ao17 t654.length co17], .int .i64 t662] (by rfl) rfl rfl q10_6 ?_
                with_reducible refine (impl_RoughGet.calls kj9 _ _ t654 t662 t678 _ ?side1 ?side2 A104.out).mono ?_
                (case side1 => exact q10_41)
                (case side2 => exact (Kd.Q_reads' HO_659000.out).2.1)
                rintro e w127 ⟨rfl, hb⟩
                refine ⟨_, rfl, ?_⟩
                have n0_ := Aside0.mk (Kd.Q_below q10_13 hb)
                have n1_ := Aside0.mk (Kd.Q_below q10_14 hb)
                have n2_ := Aside0.mk (Kd.Q_below q10_15 hb)
                have n3_ := Aside0.mk (Kd.Q_below q10_16 hb)
                have n4_ := Aside0.mk (Kd.Q_below q10_17 hb)
                have n5_ := Aside0.mk (blk_below (g := gb657) (o := .cells #[.slice Ao14 t651.length co14] 25 (0, 0)) q10_1 hb)
                have n6_ := Aside0.mk (blk_below (g := gb658) (o := .cells #[.slice Ao17 t654.length co17] 25 (0, 0)) q10_4 hb)
                have n7_ := Aside0.mk (blk_below (g := gb663) (o := .cells #[.slice Ao21 t659.length co21] 25 (0, 0)) q10_5 hb)
                have n8_ := Aside0.mk (blk_below (g := gb668) (o := .cells #[.slice Ao29 t664.length co29] 25 (0, 0)) q10_7 hb)
                have n9_ := Aside0.mk (blk_below (g := gb673) (o := .cells #[.slice Ao38 t669.length co38] 25 (0, 0)) q10_12 hb)
                have n10_ := Aside0.mk (below_step q10_0 hb)
                clear HO_658000
                clear HO_659000
                clear HO_664000
                clear HO_669000
                clear HO_674000
                clear BK657
                clear BK658
                clear BK663
                clear BK668
                clear BK673
                clear HB
                have HO_658000 := n0_
                have HO_659000 := n1_
                have HO_664000 := n2_
                have HO_669000 := n3_
                have HO_674000 := n4_
                have BK657 := n5_
                have BK658 := n6_
                have BK663 := n7_
                have BK668 := n8_
                have BK673 := n9_
                have HB := n10_
                clear n0_ n1_ n2_ n3_ n4_ n5_ n6_ n7_ n8_ n9_ n10_
                (try clear hb)
                (try clear hb2)
                (try clear hk)
                (try clear hi)
                refine hK.out _ _ ⟨(blk_cell BK657.out 0).trans rfl, (blk_cell BK658.out 0).trans rfl⟩ (fun hHeld => ?_)
                clear hK K
                refine norm_ (a' := ?_) ?_ ?_
                rotate_left
                · show Act.put _ (some 82) _ = _
                  simp only [Act.put, List.setIfInBounds_toArray, List.set_cons_zero, List.set_cons_succ, i64_w, i32_w]
                  rfl
                refine pure_ (i := 7) (N := some 83) (v := ?_) (a' := ?_) #[true, true, true, true, true, true, true, true, false, false, false, false, false, false, false, false, false, false, false, false] rfl rfl (any_of HT_.out (by kernel_rfl)) (fun _ _ _ h => h) (Or.inl ⟨by rfl, ?_⟩) ?_ ?_
                rotate_left
                · intro w'
                  go_simp
                  with_reducible rfl
                rotate_left
                · simp only [Act.put, List.setIfInBounds_toArray, List.set_cons_zero, List.set_cons_succ, i64_w, i32_w]
                  rfl
                refine pure_ (i := 8) (N := some 84) (v := ?_) (a' := ?_) #[true, true, true, true, true, true, true, true, true, false, false, false, false, false, false, false, false, false, false, false] rfl rfl (any_of HT_.out (by kernel_rfl)) (fun _ _ _ h => h) (Or.inl ⟨by rfl, ?_⟩) ?_ ?_
                rotate_left
                · intro w'
                  go_simp
                  with_reducible rfl
                rotate_left
                · simp only [Act.put, List.setIfInBounds_toArray, List.set_cons_zero, List.set_cons_succ, i64_w, i32_w]
                  rfl
                refine pure_ (i := 9) (N := some 85) (v := ?_) (a' := ?_) #[true, true, true, true, true, true, true, true, true, true, false, false, false, false, false, false, false, false, false, false] rfl rfl (any_of HT_.out (by kernel_rfl)) (fun _ _ _ h => h) (Or.inl ⟨by rfl, ?_⟩) ?_ ?_
                rotate_left
                · intro w'
                  go_simp
                  with_reducible rfl
                rotate_left
                · simp only [Act.put, List.setIfInBounds_toArray, List.set_cons_zero, List.set_cons_succ, i64_w, i32_w]
                  rfl
                refine pure_ (i := 10) (N := some 86) (v := undef) (a' := ?_) #[true, true, true, true, true, true, true, true, true, true, true, false, false, false, false, false, false, false, false, false] rfl rfl (any_of HT_.out (by kernel_rfl)) (fun _ _ _ h => h) (Or.inr ⟨by rfl, rfl⟩) ?_ ?_
                rotate_left
                · simp only [Act.put, List.setIfInBounds_toArray, List.set_cons_zero, List.set_cons_succ, i64_w, i32_w]
                  rfl
                refine pure_ (i := 11) (N := some 87) (v := undef) (a' := ?_) #[true, true, true, true, true, true, true, true, true, true, true, true, false, false, false, false, false, false, false, false] rfl rfl (any_of HT_.out (by kernel_rfl)) (fun _ _ _ h => h) (Or.inr ⟨by rfl, rfl⟩) ?_ ?_
                rotate_left
                · simp only [Act.put, List.setIfInBounds_toArray, List.set_cons_zero, List.set_cons_succ, i64_w, i32_w]
                  rfl
                refine pure_ (i := 12) (N := some 88) (v := undef) (a' := ?_) #[true, true, true, true, true, true, true, true, true, true, true, true, true, false, false, false, false, false, false, false] rfl rfl (any_of HT_.out (by kernel_rfl)) (fun _ _ _ h => h) (Or.inr ⟨by rfl, rfl⟩) ?_ ?_
                rotate_left
                · simp only [Act.put, List.setIfInBounds_toArray, List.set_cons_zero, List.set_cons_succ, i64_w, i32_w]
                  rfl
                refine pure_ (i := 13) (N := some 89) (v := undef) (a' := ?_) #[true, true, true, true, true, true, true, true, true, true, true, true, true, true, false, false, false, false, false, false] rfl rfl (any_of HT_.out (by kernel_rfl)) (fun _ _ _ h => h) (Or.inr ⟨by rfl, rfl⟩) ?_ ?_
                rotate_left
                · simp only [Act.put, List.setIfInBounds_toArray, List.set_cons_zero, List.set_cons_succ, i64_w, i32_w]
                  rfl
                refine pure_ (i := 14) (N := some 90) (v := undef) (a' := ?_) #[true, true, true, true, true, true, true, true, true, true, true, true, true, true, true, false, false, false, false, false] rfl rfl (any_of HT_.out (by kernel_rfl)) (fun _ _ _ h => h) (Or.inr ⟨by rfl, rfl⟩) ?_ ?_
                rotate_left
                · simp only [Act.put, List.setIfInBounds_toArray, List.set_cons_zero, List.set_cons_succ, i64_w, i32_w]
                  rfl
                refine pure_ (i := 15) (N := some 91) (v := undef) (a' := ?_) #[true, true, true, true, true, true, true, true, true, true, true, true, true, true, true, true, false, false, false, false] rfl rfl (any_of HT_.out (by kernel_rfl)) (fun _ _ _ h => h) (Or.inr ⟨by rfl, rfl⟩) ?_ ?_
                rotate_left
                · simp only [Act.put, List.setIfInBounds_toArray, List.set_cons_zero, List.set_cons_succ, i64_w, i32_w]
                  rfl
                refine pure_ (i := 16) (N := some 92) (v := undef) (a' := ?_) #[true, true, true, true, true, true, true, true, true, true, true, true, true, true, true, true, true, false, false, false] rfl rfl (any_of HT_.out (by kernel_rfl)) (fun _ _ _ h => h) (Or.inr ⟨by rfl, rfl⟩) ?_ ?_
                rotate_left
                · simp only [Act.put, List.setIfInBounds_toArray, List.set_cons_zero, List.set_cons_succ, i64_w, i32_w]
                  rfl
                refine pure_ (i := 17) (N := some 93) (v := undef) (a' := ?_) #[true, true, true, true, true, true, true, true, true, true, true, true, true, true, true, true, true, true, false, false] rfl rfl (any_of HT_.out (by kernel_rfl)) (fun _ _ _ h => h) (Or.inr ⟨by rfl, rfl⟩) ?_ ?_
                rotate_left
                · simp only [Act.put, List.setIfInBounds_toArray, List.set_cons_zero, List.set_cons_succ, i64_w, i32_w]
                  rfl
                refine pure_ (i := 18) (N := some 94) (v := ?_) (a' := ?_) #[true, true, true, true, true, true, true, true, true, true, true, true, true, true, true, true, true, true, true, false] rfl rfl (any_of HT_.out (by kernel_rfl)) (fun _ _ _ h => h) (Or.inl ⟨by rfl, ?_⟩) ?_ ?_
                rotate_left
                · intro w'
                  go_simp
                  with_reducible rfl
                rotate_left
                · simp only [Act.put, List.setIfInBounds_toArray, List.set_cons_zero, List.set_cons_succ, i64_w, i32_w]
                  rfl
                refine pure_ (i := 19) (N := some 4) (v := ?_) (a' := ?_) #[true, true, true, true, true, true, true, true, true, true, true, true, true, true, true, true, true, true, true, true] rfl rfl (any_of HT_.out (by kernel_rfl)) (fun _ _ _ h => h) (Or.inl ⟨by rfl, ?_⟩) ?_ ?_
                rotate_left
                · intro w'
                  go_simp
                  with_reducible rfl
                rotate_left
                · simp only [Act.put, List.setIfInBounds_toArray, List.set_cons_zero, List.set_cons_succ, i64_w, i32_w]
                  rfl
                refine done_ (done_of HT_.out (by kernel_rfl)) ?_
                try go_wp2
                go_ret
                exact ⟨q10_38, q10_0⟩

/-- THE ONE PURE STATEMENT of laws_FnRoughJoinGet: yours. -/
def laws_FnRoughJoinGet.Pure : Prop := ∀ (l0 : List Int) (l1 : List Int), l0.length ≤ maxLen → l0.length * 1 ≤ 140737488351232 → (∀ x ∈ l0, (Lit.int .u8 x).wf = true) → l1.length ≤ maxLen → l1.length * 1 ≤ 140737488351232 → (∀ x ∈ l1, (Lit.int .u8 x).wf = true) → ∃ k, laws_FnRoughJoinGet.f k l0 l1 = some true
theorem laws_FnRoughJoinGet.walk (P : laws_FnRoughJoinGet.Pure) (a0 : Option Addr) (len0 cap0 : Nat) (z0 : List Int) (a1 : Option Addr) (len1 cap1 : Nat) (z1 : List Int) (w : World) (w0 : (a0 = none ∧ len0 = 0 ∧ cap0 = 0 ∧ z0 = []) ∨ ∃ x, a0 = some x ∧ len0 ≤ cap0 ∧ cap0 ≤ maxLen ∧ z0.length = cap0 ∧ (∀ i, i < z0.length → w.cell? (x.add i) = some (.int .u8 (z0.getD i 0))) ∧ ∀ n ∈ z0, (Lit.int .u8 n).wf = true) (y0 : len0 * 1 ≤ 140737488351232) (w1 : (a1 = none ∧ len1 = 0 ∧ cap1 = 0 ∧ z1 = []) ∨ ∃ x, a1 = some x ∧ len1 ≤ cap1 ∧ cap1 ≤ maxLen ∧ z1.length = cap1 ∧ (∀ i, i < z1.length → w.cell? (x.add i) = some (.int .u8 (z1.getD i 0))) ∧ ∀ n ∈ z1, (Lit.int .u8 n).wf = true) (y1 : len1 * 1 ≤ 140737488351232) :
    Calls Try.prog 10 #[.slice a0 len0 cap0, .slice a1 len1 cap1] w fun e w' => e = .returned (.bool true) ∧ Below w.heap.size w w' := by
  obtain ⟨l0, rfl, hr0, hm0, hw0, hc0⟩ := ReadsInt.ofRowC w0
  obtain ⟨l1, rfl, hr1, hm1, hw1, hc1⟩ := ReadsInt.ofRowC w1
  obtain ⟨k, h⟩ := P l0 l1 hm0 y0 hw0 hm1 y1 hw1
  refine (laws_FnRoughJoinGet.calls k _ _ l0 _ _ l1 true w (Kd.C_of_reads (d := (0 : Int)) (h1 := fun _ => rfl) hr0) hc0 (Kd.C_of_reads (d := (0 : Int)) (h1 := fun _ => rfl) hr1) hc1 h).mono ?_
  rintro e w' ⟨rfl, hd⟩
  exact ⟨rfl, hd⟩

end Go.Proofs.Ytojhkhpgahhacaa.PA
