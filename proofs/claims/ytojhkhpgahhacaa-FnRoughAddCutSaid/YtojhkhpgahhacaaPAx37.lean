-- Made by a program of this session (wip/tools/pr2.sh) out of the translation, by way of the printer: shared by the seat's laws.
import Derived.Test.YtojhkhpgahhacaaPAx0
import Derived.Test.YtojhkhpgahhacaaPAx7
import Derived.Test.YtojhkhpgahhacaaPAx23
import Derived.Test.YtojhkhpgahhacaaPAx33
import Derived.Test.YtojhkhpgahhacaaPAx35
namespace Go.Proofs.Ytojhkhpgahhacaa.PA
open Go.RowKit Go.Proofs.YtojhkhpgahhacaaW.PrintWords Go.Proofs.YtojhkhpgahhacaaW.PrintLast Go.Proofs.YtojhkhpgahhacaaW.PrintMore
attribute [local go_sem] max2_int min2_int max_two min_two max_three min_three max_four min_four   -- for this text's walks alone
set_option linter.unusedVariables false
set_option linter.unusedSimpArgs false

/-! ### laws_FnRoughAddCut: function 7 -/
mutual
def laws_FnRoughAddCut.j0 : Nat → List Int → List Int → Bool → Option (Bool)
  | 0, _, _, _ => none
  | k + 1, x0, x1, x24 => if x24 = true then (some true) else ((spec_DrawRoughAdd.f k x0).bind fun bt506 => ((spec_RoughAdd.f k bt506.1 bt506.2.1 bt506.2.2).bind fun bt512 => ((impl_RoughAdd.f k bt506.1 bt506.2.1 bt506.2.2).bind fun bt517 => (if (bt517.2 != bt512.2) = true then (laws_FnRoughAddCut.j1 k x1 bt506.2.1 bt506.2.2 bt512.2 bt517.2 true bt506.1 bt512.1 bt517.1) else ((laws_lkRough.f k bt517.1 bt512.1).bind fun t522 => (if t522 = true then (laws_FnRoughAddCut.j1 k x1 bt506.2.1 bt506.2.2 bt512.2 bt517.2 (!bt517.2) bt506.1 bt512.1 bt517.1) else (laws_FnRoughAddCut.j1 k x1 bt506.2.1 bt506.2.2 bt512.2 bt517.2 true bt506.1 bt512.1 bt517.1)))))))
def laws_FnRoughAddCut.j1 : Nat → List Int → Int → Int → Bool → Bool → Bool → List (List Int) → List (List Int) → List (List Int) → Option (Bool)
  | 0, _, _, _, _, _, _, _, _, _ => none
  | k + 1, x1, x6, x7, x9, x11, x57, x512000, x517000, x522000 => if x57 = true then (if (x11 == x9) = true then ((laws_lkRough.f k x522000 x517000).bind fun t523 => (some t523)) else (some false)) else (if (wrap64 (x7 + 1)) = 0 then (none) else ((impl_RoughAdd.f k x512000 x6 ((x1.length : Int) % (wrap64 (x7 + 1)))).bind fun bt524 => ((impl_RoughAdd.f k bt524.1 x6 (wrap64 (x7 - ((x1.length : Int) % (wrap64 (x7 + 1)))))).bind fun bt529 => (if bt524.2 = true then (if bt529.2 = true then ((laws_lkRough.f k bt529.1 x522000).bind fun t534 => (some t534)) else (some false)) else (some false)))))
end
def laws_FnRoughAddCut.f (k : Nat) (l0 : List Int) (l1 : List Int) : Option (Bool) := if (l0.length : Int) > 1048576 then (laws_FnRoughAddCut.j0 k l0 l1 true) else (laws_FnRoughAddCut.j0 k l0 l1 (decide ((l1.length : Int) > 1048576)))
theorem laws_FnRoughAddCut.mono_l : ∀ k, (∀ y0 y1 y2, LeO (laws_FnRoughAddCut.j0 k y0 y1 y2) (laws_FnRoughAddCut.j0 (k + 1) y0 y1 y2)) ∧ (∀ y0 y1 y2 y3 y4 y5 y6 y7 y8, LeO (laws_FnRoughAddCut.j1 k y0 y1 y2 y3 y4 y5 y6 y7 y8) (laws_FnRoughAddCut.j1 (k + 1) y0 y1 y2 y3 y4 y5 y6 y7 y8))
  | 0 => ⟨fun _ _ _ r h => by simp [laws_FnRoughAddCut.j0] at h, fun _ _ _ _ _ _ _ _ _ r h => by simp [laws_FnRoughAddCut.j1] at h⟩
  | k + 1 => by
    obtain ⟨ih0, ih1⟩ := laws_FnRoughAddCut.mono_l k
    refine ⟨?_, ?_⟩
    · intro y0 y1 y2
      unfold laws_FnRoughAddCut.j0
      repeat' first
      | (with_reducible exact ih0 _ _ _)
      | (with_reducible exact ih1 _ _ _ _ _ _ _ _ _)
      | (with_reducible exact impl_RoughAdd.mono _ _ _ _)
      | (with_reducible exact laws_lkRough.mono _ _ _)
      | (with_reducible exact spec_DrawRoughAdd.mono _ _)
      | (with_reducible exact spec_RoughAdd.mono _ _ _ _)
      | (with_reducible exact LeO.refl _)
      | (with_reducible exact LeO.none _)
      | (with_reducible refine LeO.ite ?_ ?_)
      | (with_reducible refine LeO.bind ?_ (fun _ => ?_))
      | exact ih0 _ _ _
      | exact ih1 _ _ _ _ _ _ _ _ _
      | exact impl_RoughAdd.mono _ _ _ _
      | exact laws_lkRough.mono _ _ _
      | exact spec_DrawRoughAdd.mono _ _
      | exact spec_RoughAdd.mono _ _ _ _
      | exact LeO.none _
      | refine LeO.ite ?_ ?_
      | refine LeO.bind ?_ (fun _ => ?_)
    · intro y0 y1 y2 y3 y4 y5 y6 y7 y8
      unfold laws_FnRoughAddCut.j1
      repeat' first
      | (with_reducible exact ih0 _ _ _)
      | (with_reducible exact ih1 _ _ _ _ _ _ _ _ _)
      | (with_reducible exact impl_RoughAdd.mono _ _ _ _)
      | (with_reducible exact laws_lkRough.mono _ _ _)
      | (with_reducible exact spec_DrawRoughAdd.mono _ _)
      | (with_reducible exact spec_RoughAdd.mono _ _ _ _)
      | (with_reducible exact LeO.refl _)
      | (with_reducible exact LeO.none _)
      | (with_reducible refine LeO.ite ?_ ?_)
      | (with_reducible refine LeO.bind ?_ (fun _ => ?_))
      | exact ih0 _ _ _
      | exact ih1 _ _ _ _ _ _ _ _ _
      | exact impl_RoughAdd.mono _ _ _ _
      | exact laws_lkRough.mono _ _ _
      | exact spec_DrawRoughAdd.mono _ _
      | exact spec_RoughAdd.mono _ _ _ _
      | exact LeO.none _
      | refine LeO.ite ?_ ?_
      | refine LeO.bind ?_ (fun _ => ?_)
theorem laws_FnRoughAddCut.mono : ∀ a0 a1 k, LeO (laws_FnRoughAddCut.f k a0 a1) (laws_FnRoughAddCut.f (k + 1) a0 a1) := by
  intro a0 a1 k
  obtain ⟨ih0, ih1⟩ := laws_FnRoughAddCut.mono_l k
  unfold laws_FnRoughAddCut.f
  repeat' first
      | (with_reducible exact ih0 _ _ _)
      | (with_reducible exact ih1 _ _ _ _ _ _ _ _ _)
      | (with_reducible exact impl_RoughAdd.mono _ _ _ _)
      | (with_reducible exact laws_lkRough.mono _ _ _)
      | (with_reducible exact spec_DrawRoughAdd.mono _ _)
      | (with_reducible exact spec_RoughAdd.mono _ _ _ _)
      | (with_reducible exact LeO.refl _)
      | (with_reducible exact LeO.none _)
      | (with_reducible refine LeO.ite ?_ ?_)
      | (with_reducible refine LeO.bind ?_ (fun _ => ?_))
      | exact ih0 _ _ _
      | exact ih1 _ _ _ _ _ _ _ _ _
      | exact impl_RoughAdd.mono _ _ _ _
      | exact laws_lkRough.mono _ _ _
      | exact spec_DrawRoughAdd.mono _ _
      | exact spec_RoughAdd.mono _ _ _ _
      | exact LeO.none _
      | refine LeO.ite ?_ ?_
      | refine LeO.bind ?_ (fun _ => ?_)
theorem q7_0 {p : Prop} (h : p := by repeat (first | (with_reducible first | exact HB.out | apply below_alloc | apply pw_below_drewN | apply below_drew1 | refine below_set ?_ GE511.out | refine below_set ?_ GE516.out | refine below_set ?_ GE521.out) | exact HB.out)) : p := h
theorem q7_1 {p : Prop} (h : p := by repeat (first | (with_reducible first | exact HB.out | apply below_alloc | apply pw_below_drewN | apply below_drew1 | refine below_set ?_ GE511.out | refine below_set ?_ GE516.out | refine below_set ?_ GE521.out | refine below_set ?_ GE528.out) | exact HB.out)) : p := h
theorem q7_2 {p : Prop} (h : p := by (with_reducible repeat (first | refine blk_drewN ?_ _ | refine blk_drew ?_ | refine blk_alloc ?_ _)); exact BK511.out) : p := h
theorem q7_3 {p : Prop} (h : p := by (with_reducible repeat (first | refine blk_drewN ?_ _ | refine blk_drew ?_ | refine blk_alloc ?_ _)); exact BK516.out) : p := h
theorem q7_4 {p : Prop} (h : p := by (with_reducible repeat (first | refine blk_drewN ?_ _ | refine blk_drew ?_ | refine blk_alloc ?_ _)); exact BK521.out) : p := h
theorem q7_5 {p : Prop} (h : p := by (with_reducible repeat (first | apply Kd.Q_alloc | apply Kd.Q_drewN | apply Kd.Q_drew)); exact HO_512000.out) : p := h
theorem q7_6 {p : Prop} (h : p := by (with_reducible repeat (first | apply Kd.Q_alloc | apply Kd.Q_drewN | apply Kd.Q_drew)); exact HO_517000.out) : p := h
theorem q7_7 {p : Prop} (h : p := by (with_reducible repeat (first | apply Kd.Q_alloc | apply Kd.Q_drewN | apply Kd.Q_drew)); exact HO_522000.out) : p := h
theorem q7_8 {p : Prop} (h : p := by (try simp only [List.map_toArray, List.map_cons, List.map_nil]); first | done | rfl | (simp only [List.length_drop, List.length_take]; rfl)) : p := h
theorem q7_9 {p : Prop} (h : p := by (with_reducible repeat (first | refine blk_drewN ?_ _ | refine blk_drew ?_ | refine blk_alloc ?_ _)); exact BK528.out) : p := h
theorem q7_10 {p : Prop} (h : p := by repeat (first | (with_reducible first | exact HB.out | apply below_alloc | apply pw_below_drewN | apply below_drew1) | exact HB.out)) : p := h
theorem q7_11 {p : Prop} (h : p := by repeat (first | (with_reducible first | exact HB.out | apply below_alloc | apply pw_below_drewN | apply below_drew1 | refine below_set ?_ GE511.out | refine below_set ?_ GE516.out | refine below_set ?_ GE521.out | refine below_set ?_ GE528.out | refine below_set ?_ GE533.out) | exact HB.out)) : p := h
theorem q7_12 {p : Prop} (h : p := by repeat (first | (with_reducible first | exact HB.out | apply below_alloc | apply pw_below_drewN | apply below_drew1 | refine below_set ?_ GE511.out | refine below_set ?_ GE516.out) | exact HB.out)) : p := h
theorem q7_13 {p : Prop} (h : p := by (with_reducible repeat (first | apply Kd.S_alloc | apply Kd.S_drewN | apply Kd.S_drew)); exact (Kd.S_mono (Kd.S_far (p := ⟨gb521, 0, none⟩) (Kd.S_types HO519.out BK521.out (by decide)) (fun _ hk => hk.2) (.slice Ao22 t517.length co22)) (fun _ h_ => h_.1))) : p := h
theorem q7_14 {p : Prop} (h : p := by (with_reducible repeat (first | apply Kd.S_alloc | apply Kd.S_drewN | apply Kd.S_drew)); exact (Kd.S_mono (Kd.S_far (p := ⟨gb521, 0, none⟩) (Kd.S_types HO514.out BK521.out (by decide)) (fun _ hk => hk.2) (.slice Ao22 t517.length co22)) (fun _ h_ => h_.1))) : p := h
theorem q7_15 {p : Prop} (h : p := by rw [hg]; exact Nat.ne_of_lt (blk_lt (g := gb511) (o := .cells #[.slice Ao12 t506.length co12] 25 (0, 0)) q7_2)) : p := h
theorem q7_16 {p : Prop} (h : p := by rw [hg]; exact Nat.ne_of_gt (blk_lt (g := gb511) (o := .cells #[.slice Ao12 t506.length co12] 25 (0, 0)) q7_2)) : p := h
theorem q7_17 {p : Prop} (h : p := by repeat (first | (with_reducible first | exact HB.out | apply below_alloc | apply pw_below_drewN | apply below_drew1 | refine below_set ?_ GE511.out) | exact HB.out)) : p := h
theorem q7_18 {p : Prop} (h : p := by rw [hg]; exact Nat.ne_of_lt (blk_lt (g := gb516) (o := .cells #[.slice Ao16 t512.length co16] 25 (0, 0)) q7_3)) : p := h
theorem q7_19 {p : Prop} (h : p := by rw [hg]; exact Nat.ne_of_gt (blk_lt (g := gb516) (o := .cells #[.slice Ao16 t512.length co16] 25 (0, 0)) q7_3)) : p := h
theorem q7_20 {p : Prop} (h : p := by (with_reducible repeat (first | refine blk_drewN ?_ _ | refine blk_drew ?_ | refine blk_alloc ?_ _)); refine blk_put (cs := #[.slice none 0 0]) ?_ 0 _ rfl; (with_reducible repeat (first | refine blk_drewN ?_ _ | refine blk_drew ?_ | refine blk_alloc ?_ _)); exact BK528.out) : p := h
theorem q7_21 {p : Prop} (h : p := by rw [hg]; exact Nat.ne_of_lt (blk_lt (g := gb521) (o := .cells #[.slice Ao22 t517.length co22] 25 (0, 0)) q7_4)) : p := h
theorem q7_22 {p : Prop} (h : p := by rw [hg]; exact Nat.ne_of_gt (blk_lt (g := gb521) (o := .cells #[.slice Ao22 t517.length co22] 25 (0, 0)) q7_4)) : p := h
theorem q7_23 {p : Prop} (h : p := by (with_reducible repeat (first | apply Kd.S_alloc | apply Kd.S_drewN | apply Kd.S_drew)); exact (Kd.S_mono (Kd.S_far (p := ⟨gb528, 0, none⟩) (Kd.S_types HO526.out BK528.out (by decide)) (fun _ hk => hk.2) (.slice Ao100 t524.length co100)) (fun _ h_ => h_.1))) : p := h
theorem q7_24 {p : Prop} (h : p := by (with_reducible repeat (first | apply Kd.Q_alloc | apply Kd.Q_drewN | apply Kd.Q_drew)); exact (Kd.Q_mono (Kd.Q_far (p := ⟨gb511, 0, none⟩) (Kd.Q_types HO508.out BK511.out (by decide)) (fun _ hk => hk.2) (.slice Ao12 t506.length co12)) (fun _ h_ => h_.1))) : p := h
theorem q7_25 {p : Prop} (h : p := by (with_reducible repeat (first | apply Kd.Q_alloc | apply Kd.Q_drewN | apply Kd.Q_drew)); exact (Kd.Q_mono (Kd.Q_far (p := ⟨gb516, 0, none⟩) (Kd.Q_types HO508.out BK516.out (by decide)) (fun _ hk => hk.2) (.slice Ao16 t512.length co16)) (fun _ h_ => h_.1))) : p := h
theorem q7_26 {p : Prop} (h : p := by (with_reducible repeat (first | apply Kd.S_alloc | apply Kd.S_drewN | apply Kd.S_drew)); exact (Kd.S_mono (Kd.S_far (p := ⟨gb528, 0, none⟩) (Kd.S_types HO526.out BK528.out (by decide)) (fun _ hk => hk.2) (.slice Ao61 t524.length co61)) (fun _ h_ => h_.1))) : p := h
theorem q7_27 {p : Prop} (h : p := by (with_reducible repeat (first | apply Kd.S_alloc | apply Kd.S_drewN | apply Kd.S_drew)); exact (Kd.S_mono (Kd.S_far (p := ⟨gb528, 0, none⟩) (Kd.S_types HO526.out BK528.out (by decide)) (fun _ hk => hk.2) (.slice Ao82 t524.length co82)) (fun _ h_ => h_.1))) : p := h
theorem q7_28 {p : Prop} (h : p := by (with_reducible repeat (first | refine blk_drewN ?_ _ | refine blk_drew ?_ | refine blk_alloc ?_ _)); refine blk_far ?_ NB511_528.out _; (with_reducible repeat (first | refine blk_drewN ?_ _ | refine blk_drew ?_ | refine blk_alloc ?_ _)); exact BK511.out) : p := h
theorem q7_29 {p : Prop} (h : p := by (with_reducible repeat (first | refine blk_drewN ?_ _ | refine blk_drew ?_ | refine blk_alloc ?_ _)); refine blk_far ?_ NB516_528.out _; (with_reducible repeat (first | refine blk_drewN ?_ _ | refine blk_drew ?_ | refine blk_alloc ?_ _)); exact BK516.out) : p := h
theorem q7_30 {p : Prop} (h : p := by (with_reducible repeat (first | refine blk_drewN ?_ _ | refine blk_drew ?_ | refine blk_alloc ?_ _)); refine blk_far ?_ NB521_528.out _; (with_reducible repeat (first | refine blk_drewN ?_ _ | refine blk_drew ?_ | refine blk_alloc ?_ _)); exact BK521.out) : p := h
theorem q7_31 {p : Prop} (h : p := by (with_reducible repeat (first | apply Kd.S_alloc | apply Kd.S_drewN | apply Kd.S_drew)); exact HO526.out) : p := h
theorem q7_32 {p : Prop} (h : p := by first | rfl | (simp [errW_none, errW_some] <;> rfl) | (simp [*, errW_none, errW_some] <;> rfl)) : p := h
theorem q7_33 {p : Prop} (h : p := by repeat (first | exact (Kd.Q_reads' HO_512000.out).2.2 | (with_reducible refine Kd.C_alloc ?_ _) | (with_reducible refine Kd.C_drewN ?_ _) | (with_reducible refine Kd.C_drew ?_))) : p := h
theorem q7_34 {p : Prop} (h : p := by first | (go_simp; done) | (go_simp; rfl)) : p := h
theorem q7_35 {p : Prop} (h : p := by (with_reducible repeat (first | refine blk_drewN ?_ _ | refine blk_drew ?_ | refine blk_alloc ?_ _)); refine blk_put (cs := #[.slice none 0 0]) ?_ 0 _ rfl; (with_reducible repeat (first | refine blk_drewN ?_ _ | refine blk_drew ?_ | refine blk_alloc ?_ _)); exact BK521.out) : p := h
theorem q7_36 {p : Prop} (h : p := by (with_reducible repeat (first | apply Kd.Q_alloc | apply Kd.Q_drewN | apply Kd.Q_drew)); exact (Kd.Q_mono (Kd.Q_far (p := ⟨gb528, 0, none⟩) (Kd.Q_types HO_512000.out BK528.out (by decide)) (fun _ hk => hk.2) (.slice Ao100 t524.length co100)) (fun _ h_ => h_.1))) : p := h
theorem q7_37 {p : Prop} (h : p := by (with_reducible repeat (first | apply Kd.Q_alloc | apply Kd.Q_drewN | apply Kd.Q_drew)); exact (Kd.Q_mono (Kd.Q_far (p := ⟨gb528, 0, none⟩) (Kd.Q_types HO_517000.out BK528.out (by decide)) (fun _ hk => hk.2) (.slice Ao100 t524.length co100)) (fun _ h_ => h_.1))) : p := h
theorem q7_38 {p : Prop} (h : p := by (with_reducible repeat (first | apply Kd.Q_alloc | apply Kd.Q_drewN | apply Kd.Q_drew)); exact (Kd.Q_mono (Kd.Q_far (p := ⟨gb528, 0, none⟩) (Kd.Q_types HO_522000.out BK528.out (by decide)) (fun _ hk => hk.2) (.slice Ao100 t524.length co100)) (fun _ h_ => h_.1))) : p := h
theorem q7_39 {p : Prop} (h : p := by (with_reducible repeat (first | apply Kd.Q_alloc | apply Kd.Q_drewN | apply Kd.Q_drew)); exact (Kd.Q_mono (Kd.Q_far (p := ⟨gb528, 0, none⟩) (Kd.Q_types HO_512000.out BK528.out (by decide)) (fun _ hk => hk.2) (.slice Ao61 t524.length co61)) (fun _ h_ => h_.1))) : p := h
theorem q7_40 {p : Prop} (h : p := by (with_reducible repeat (first | apply Kd.Q_alloc | apply Kd.Q_drewN | apply Kd.Q_drew)); exact (Kd.Q_mono (Kd.Q_far (p := ⟨gb528, 0, none⟩) (Kd.Q_types HO_517000.out BK528.out (by decide)) (fun _ hk => hk.2) (.slice Ao61 t524.length co61)) (fun _ h_ => h_.1))) : p := h
theorem q7_41 {p : Prop} (h : p := by (with_reducible repeat (first | apply Kd.Q_alloc | apply Kd.Q_drewN | apply Kd.Q_drew)); exact (Kd.Q_mono (Kd.Q_far (p := ⟨gb528, 0, none⟩) (Kd.Q_types HO_522000.out BK528.out (by decide)) (fun _ hk => hk.2) (.slice Ao61 t524.length co61)) (fun _ h_ => h_.1))) : p := h
theorem q7_42 {p : Prop} (h : p := by (with_reducible repeat (first | apply Kd.Q_alloc | apply Kd.Q_drewN | apply Kd.Q_drew)); exact (Kd.Q_mono (Kd.Q_far (p := ⟨gb533, 0, none⟩) (Kd.Q_types HO_522000.out BK533.out (by decide)) (fun _ hk => hk.2) (.slice Ao68 t529.length co68)) (fun _ h_ => h_.1))) : p := h
theorem q7_43 {p : Prop} (h : p := by (with_reducible repeat (first | apply Kd.Q_alloc | apply Kd.Q_drewN | apply Kd.Q_drew)); exact (Kd.Q_mono (Kd.Q_far (p := ⟨gb528, 0, none⟩) (Kd.Q_types HO_512000.out BK528.out (by decide)) (fun _ hk => hk.2) (.slice Ao82 t524.length co82)) (fun _ h_ => h_.1))) : p := h
theorem q7_44 {p : Prop} (h : p := by (with_reducible repeat (first | apply Kd.Q_alloc | apply Kd.Q_drewN | apply Kd.Q_drew)); exact (Kd.Q_mono (Kd.Q_far (p := ⟨gb528, 0, none⟩) (Kd.Q_types HO_517000.out BK528.out (by decide)) (fun _ hk => hk.2) (.slice Ao82 t524.length co82)) (fun _ h_ => h_.1))) : p := h
theorem q7_45 {p : Prop} (h : p := by (with_reducible repeat (first | apply Kd.Q_alloc | apply Kd.Q_drewN | apply Kd.Q_drew)); exact (Kd.Q_mono (Kd.Q_far (p := ⟨gb528, 0, none⟩) (Kd.Q_types HO_522000.out BK528.out (by decide)) (fun _ hk => hk.2) (.slice Ao82 t524.length co82)) (fun _ h_ => h_.1))) : p := h
theorem q7_46 {p : Prop} (h : p := by (with_reducible repeat (first | apply Kd.S_alloc | apply Kd.S_drewN | apply Kd.S_drew)); exact (Kd.S_mono (Kd.S_far (p := ⟨gb516, 0, none⟩) (Kd.S_types HO514.out BK516.out (by decide)) (fun _ hk => hk.2) (.slice Ao16 t512.length co16)) (fun _ h_ => h_.1))) : p := h
theorem q7_47 {p : Prop} (h : p := by (with_reducible repeat (first | apply Kd.Q_alloc | apply Kd.Q_drewN | apply Kd.Q_drew)); exact (Kd.Q_mono (Kd.Q_far (p := ⟨gb521, 0, none⟩) (Kd.Q_types HO508.out BK521.out (by decide)) (fun _ hk => hk.2) (.slice Ao22 t517.length co22)) (fun _ h_ => h_.1))) : p := h
theorem q7_48 {p : Prop} (h : p := by (with_reducible repeat (first | apply Kd.S_alloc | apply Kd.S_drewN | apply Kd.S_drew)); exact (Kd.S_mono (Kd.S_far (p := ⟨gb533, 0, none⟩) (Kd.S_types HO531.out BK533.out (by decide)) (fun _ hk => hk.2) (.slice Ao68 t529.length co68)) (fun _ h_ => h_.1))) : p := h
theorem q7_49 {p : Prop} (h : p := by refine (Kd.S_reads' (e := 43) (base := w.heap.size) (ok := fun k_ => ((True ∧ some k_ ≠ (.slice Ao12 t506.length co12 : Value).ownBlock) ∧ some k_ ≠ (.slice Ao16 t512.length co16 : Value).ownBlock)) (n := t517.length) (c := co22) ?_).2.2; exact q7_13) : p := h
theorem q7_50 {p : Prop} (h : p := by refine (Kd.S_reads' (e := 43) (base := w.heap.size) (ok := fun k_ => ((True ∧ some k_ ≠ (.slice Ao12 t506.length co12 : Value).ownBlock) ∧ some k_ ≠ (.slice Ao22 t517.length co22 : Value).ownBlock)) (n := t512.length) (c := co16) ?_).2.2; exact q7_14) : p := h
theorem q7_51 {p : Prop} (h : p := by (with_reducible repeat (first | refine blk_drewN ?_ _ | refine blk_drew ?_ | refine blk_alloc ?_ _)); refine blk_far ?_ NB511_521.out _; (with_reducible repeat (first | refine blk_drewN ?_ _ | refine blk_drew ?_ | refine blk_alloc ?_ _)); exact BK511.out) : p := h
theorem q7_52 {p : Prop} (h : p := by (with_reducible repeat (first | refine blk_drewN ?_ _ | refine blk_drew ?_ | refine blk_alloc ?_ _)); refine blk_far ?_ NB516_521.out _; (with_reducible repeat (first | refine blk_drewN ?_ _ | refine blk_drew ?_ | refine blk_alloc ?_ _)); exact BK516.out) : p := h
theorem q7_53 {p : Prop} (h : p := by (with_reducible repeat (first | apply Kd.Q_alloc | apply Kd.Q_drewN | apply Kd.Q_drew)); exact HO508.out) : p := h
theorem q7_54 {p : Prop} (h : p := by (with_reducible repeat (first | apply Kd.S_alloc | apply Kd.S_drewN | apply Kd.S_drew)); exact HO531.out) : p := h
theorem q7_55 {p : Prop} (h : p := by first | rfl | (simp; done) | (simp [*]; done)) : p := h
theorem q7_56 {p : Prop} (h : p := by (with_reducible repeat (first | apply Kd.S_alloc | apply Kd.S_drewN | apply Kd.S_drew)); exact Kd.S_mono HO514.out (fun _ hk => ⟨hk.1.2, hk.2⟩)) : p := h
theorem q7_57 {p : Prop} (h : p := by (with_reducible repeat (first | apply Kd.S_alloc | apply Kd.S_drewN | apply Kd.S_drew)); exact Kd.S_mono HO519.out (fun _ hk => ⟨hk.1.2, hk.2⟩)) : p := h
theorem q7_58 {p : Prop} (h : p := by rw [hg]; exact (below_size q7_0)) : p := h
theorem q7_59 {p : Prop} (h : p := by rw [hg]; exact (below_size q7_1)) : p := h
theorem q7_60 {p : Prop} (h : p := by (with_reducible repeat (first | apply Kd.S_alloc | apply Kd.S_drewN | apply Kd.S_drew)); exact HO514.out) : p := h
set_option maxHeartbeats 8000000 in
set_option maxRecDepth 100000 in
theorem laws_FnRoughAddCut.calls (k : Nat) (A0 : Option Addr) (c0 : Nat) (l0 : List Int) (A1 : Option Addr) (c1 : Nat) (l1 : List Int) (r : Bool) (w : World) (hr0 : Kd.C (Kd.int .u8) w A0 l0.length l0) (hc0 : l0.length ≤ c0) (hr1 : Kd.C (Kd.int .u8) w A1 l1.length l1) (hc1 : l1.length ≤ c1) (h : laws_FnRoughAddCut.f k l0 l1 = some r) :
    Calls Try.prog 7 #[.slice A0 l0.length c0, .slice A1 l1.length c1] w fun e w' => e = .returned (.bool r) ∧ Below w.heap.size w w' := by
  have hu25 := Try.underlying25
  have HR0 := Aside0.mk hr0
  have HC0 := Aside0.mk hc0
  clear hr0 hc0
  have HR1 := Aside0.mk hr1
  have HC1 := Aside0.mk hc1
  clear hr1 hc1
  have HB := Aside0.mk (Below.refl w.heap.size w)
  have H : (if (l0.length : Int) > 1048576 then (laws_FnRoughAddCut.j0 k l0 l1 true) else (laws_FnRoughAddCut.j0 k l0 l1 (decide ((l1.length : Int) > 1048576)))) = some r := h
  clear h
  have HC3 := Aside0.mk H
  clear H
  go_enter Try.func7, Try.ntmps7
  go_upto_region 1 with (fail)
  go_cut [24] (fun v24 wc => ∃ (kq : Nat) (x24_2 : Bool), v24 = .bool x24_2 ∧ Aside0 (laws_FnRoughAddCut.j0 kq l0 l1 x24_2 = some r) ∧ Aside0 (kq ≤ k) ∧ Aside0 (Below w.heap.size w wc))
  case first =>
    have H := HC3.out
    clear HC3
    by_cases c4 : (l0.length : Int) > 1048576
    · rw [if_pos c4] at H
      have c4b0 : decide (1048576 < (l0.length : Int)) = true := decide_eq_true c4
      have c4b1 : decide (1048576 < l0.length) = true := decide_eq_true (by omega)
      clear c4
      (first | rw [c4b0] | (simp only [i64_w, i32_w]; rw [c4b0]) | skip)
      have H' := Aside0.mk H
      clear H
      go_wp2
      go_meet
      case rel => exact ⟨_, (true), q7_55, H', ⟨by first | omega | exact Nat.le_refl _⟩, ⟨q7_10⟩⟩
    · rw [if_neg c4] at H
      have c4b0 : decide (1048576 < (l0.length : Int)) = false := decide_eq_false c4
      have c4b1 : decide (1048576 < l0.length) = false := decide_eq_false (by omega)
      clear c4
      (first | rw [c4b0] | (simp only [i64_w, i32_w]; rw [c4b0]) | skip)
      have H' := Aside0.mk H
      clear H
      go_wp2
      go_meet
      case rel => exact ⟨_, (decide ((l1.length : Int) > 1048576)), q7_55, H', ⟨by first | omega | exact Nat.le_refl _⟩, ⟨q7_10⟩⟩
  case rest =>
    clear HC3
    try clear c1
    try clear p2
    try clear c4
    try clear c4b0
    try clear c4b1
    obtain ⟨kq, x24_2, rfl, HA, HJ2, HB⟩ := hcut
    cases kq with
    | zero => exact absurd HA.out (by simp [laws_FnRoughAddCut.j0])
    | succ kj2 =>
      have H := HA.out
      clear HA
      simp only [laws_FnRoughAddCut.j0] at H
      by_cases c5 : x24_2 = true
      · subst c5
        have H1 : (some true) = some r := by rw [if_pos rfl] at H; exact H
        clear H
        have H := H1
        clear H1
        obtain rfl := Option.some.inj H
        go_wp2
        go_ret
        exact ⟨q7_32, q7_10⟩
      · replace c5 := Bool.eq_false_iff.mpr c5
        subst c5
        have H1 : ((spec_DrawRoughAdd.f kj2 l0).bind fun bt506 => ((spec_RoughAdd.f kj2 bt506.1 bt506.2.1 bt506.2.2).bind fun bt512 => ((impl_RoughAdd.f kj2 bt506.1 bt506.2.1 bt506.2.2).bind fun bt517 => (if (bt517.2 != bt512.2) = true then (laws_FnRoughAddCut.j1 kj2 l1 bt506.2.1 bt506.2.2 bt512.2 bt517.2 true bt506.1 bt512.1 bt517.1) else ((laws_lkRough.f kj2 bt517.1 bt512.1).bind fun t522 => (if t522 = true then (laws_FnRoughAddCut.j1 kj2 l1 bt506.2.1 bt506.2.2 bt512.2 bt517.2 (!bt517.2) bt506.1 bt512.1 bt517.1) else (laws_FnRoughAddCut.j1 kj2 l1 bt506.2.1 bt506.2.2 bt512.2 bt517.2 true bt506.1 bt512.1 bt517.1))))))) = some r := by rw [if_neg (show ¬ (false = true) by decide)] at H; exact H
        clear H
        have H := H1
        clear H1
        replace H := Option.bind_eq_some_iff.mp H
        obtain ⟨⟨t506, t509, t510⟩, A60, H⟩ := H
        replace H : ((spec_RoughAdd.f kj2 t506 t509 t510).bind fun bt512 => ((impl_RoughAdd.f kj2 t506 t509 t510).bind fun bt517 => (if (bt517.2 != bt512.2) = true then (laws_FnRoughAddCut.j1 kj2 l1 t509 t510 bt512.2 bt517.2 true t506 bt512.1 bt517.1) else ((laws_lkRough.f kj2 bt517.1 bt512.1).bind fun t522 => (if t522 = true then (laws_FnRoughAddCut.j1 kj2 l1 t509 t510 bt512.2 bt517.2 (!bt517.2) t506 bt512.1 bt517.1) else (laws_FnRoughAddCut.j1 kj2 l1 t509 t510 bt512.2 bt517.2 true t506 bt512.1 bt517.1)))))) = some r := H
        have A6 := Aside0.mk A60
        clear A60
        replace H := Option.bind_eq_some_iff.mp H
        obtain ⟨⟨t512, t515⟩, A70, H⟩ := H
        replace H : ((impl_RoughAdd.f kj2 t506 t509 t510).bind fun bt517 => (if (bt517.2 != t515) = true then (laws_FnRoughAddCut.j1 kj2 l1 t509 t510 t515 bt517.2 true t506 t512 bt517.1) else ((laws_lkRough.f kj2 bt517.1 t512).bind fun t522 => (if t522 = true then (laws_FnRoughAddCut.j1 kj2 l1 t509 t510 t515 bt517.2 (!bt517.2) t506 t512 bt517.1) else (laws_FnRoughAddCut.j1 kj2 l1 t509 t510 t515 bt517.2 true t506 t512 bt517.1))))) = some r := H
        have A7 := Aside0.mk A70
        clear A70
        replace H := Option.bind_eq_some_iff.mp H
        obtain ⟨⟨t517, t520⟩, A80, H⟩ := H
        replace H : (if (t520 != t515) = true then (laws_FnRoughAddCut.j1 kj2 l1 t509 t510 t515 t520 true t506 t512 t517) else ((laws_lkRough.f kj2 t517 t512).bind fun t522 => (if t522 = true then (laws_FnRoughAddCut.j1 kj2 l1 t509 t510 t515 t520 (!t520) t506 t512 t517) else (laws_FnRoughAddCut.j1 kj2 l1 t509 t510 t515 t520 true t506 t512 t517)))) = some r := H
        have A8 := Aside0.mk A80
        clear A80
        have HC9 := Aside0.mk H
        clear H
        go_upto_region 6 with (first | ((with_reducible refine gate_callee (f := 23) rfl ?_); refine goesL_ (some 27) rfl rfl Try.func23 (by kernel_rfl) rfl #[.slice A0 l0.length c0] rfl q7_8 ?_; (with_reducible refine (spec_DrawRoughAdd.calls kj2 _ _ l0 t506 t509 t510 _ ?side1 ?side2 A6.out).mono ?_); (case side1 => repeat (first | exact (Kd.C_below HR0.out HB.out) | (with_reducible refine Kd.C_alloc ?_ _) | (with_reducible refine Kd.C_drewN ?_ _) | (with_reducible refine Kd.C_drew ?_))); (case side2 => exact HC0.out); rintro e w10 ⟨v507, rfl, ho0, hb⟩; refine ⟨_, rfl, ?_⟩; have n0_ := Aside0.mk (Kd.Q_lower ho0 (below_size q7_10)); have n1_ := Aside0.mk (below_step q7_10 hb); clear HB; have HO508 := n0_; have HB := n1_; clear n0_ n1_; (try clear hb); (try clear hb2); (try clear hk); (try clear hi); (try clear ho0)) | ((with_reducible refine gate_dst (N := 5) rfl ?_); (try (refine gate_guard (by rfl) ?_; dsimp only)); refine box_event ?hg (N := 5) ?hd (cs := #[.slice none 0 0]) (t := 25) ?hr ?_; (case hd => rfl); (case hg => rfl); (case hr => exact q7_34); intro gb511 hg w11 hbox hb; have n0_ := Aside0.mk (Kd.Q_below q7_53 hb); have n1_ := Aside0.mk (below_step q7_10 hb); have n2_ := Aside0.mk (hbox); have n3_ := Aside0.mk ((by rw [hg]; exact (below_size q7_10) : w.heap.size ≤ gb511)); have n4_ := Aside0.mk ((by rw [hg]; exact (below_size q7_10) : w.heap.size ≤ gb511)); clear HO508; clear HB; have HO508 := n0_; have HB := n1_; have BK511 := n2_; have GW511 := n3_; have GE511 := n4_; clear n0_ n1_ n2_ n3_ n4_; clear hb hbox hg; obtain ⟨Ao12, co12, eo12, _⟩ := Kd.Q_slice HO508.out; subst eo12; have hcz13_0 : w11.cell? ⟨gb511, 0, none⟩ = some (.slice none 0 0) := (blk_cell BK511.out 0).trans rfl; have hfz13_0 := blk_frozen BK511.out 0) | ((with_reducible refine gate_callee (f := 24) rfl ?_); refine goesL_ (some 35) rfl rfl Try.func24 (by kernel_rfl) rfl #[.agg #[.slice Ao12 t506.length co12], .int .i64 t509, .int .i64 t510] rfl q7_8 ?_; (with_reducible refine (spec_RoughAdd.calls kj2 _ _ t506 t509 t510 t512 t515 _ ?side1 ?side2 A7.out).mono ?_); (case side1 => refine (Kd.Q_reads' (e := 43) (base := w.heap.size) (ok := fun k_ => True) (n := t506.length) (c := co12) ?_).2.2; exact q7_24); (case side2 => exact (Kd.Q_reads' HO508.out).2.1); rintro e w14 ⟨v513, rfl, ho0, hb⟩; refine ⟨_, rfl, ?_⟩; have n0_ := Aside0.mk (Kd.Q_elder' q7_24 (Kd.S_base ho0) hb); have n1_ := Aside0.mk (Kd.S_lower (Kd.S_new' ho0 (Kd.Q_lt q7_24)) (below_size q7_17)); have n2_ := Aside0.mk (blk_below (g := gb511) (o := .cells #[.slice Ao12 t506.length co12] 25 (0, 0)) (by (with_reducible repeat (first | refine blk_drewN ?_ _ | refine blk_drew ?_ | refine blk_alloc ?_ _)); refine blk_put (cs := #[.slice none 0 0]) ?_ 0 _ rfl; (with_reducible repeat (first | refine blk_drewN ?_ _ | refine blk_drew ?_ | refine blk_alloc ?_ _)); exact BK511.out) hb); have n3_ := Aside0.mk (below_step q7_17 hb); clear HO508; clear BK511; clear HB; have HO508 := n0_; have HO514 := n1_; have BK511 := n2_; have HB := n3_; clear n0_ n1_ n2_ n3_; (try clear hb); (try clear hb2); (try clear hk); (try clear hi); (try clear ho0)) | ((with_reducible refine gate_dst (N := 8) rfl ?_); (try (refine gate_guard (by rfl) ?_; dsimp only)); refine box_event ?hg (N := 8) ?hd (cs := #[.slice none 0 0]) (t := 25) ?hr ?_; (case hd => rfl); (case hg => rfl); (case hr => exact q7_34); intro gb516 hg w15 hbox hb; have n0_ := Aside0.mk (Kd.Q_below q7_53 hb); have n1_ := Aside0.mk (Kd.S_below q7_60 hb); have n2_ := Aside0.mk (blk_below (g := gb511) (o := .cells #[.slice Ao12 t506.length co12] 25 (0, 0)) q7_2 hb); have n3_ := Aside0.mk (below_step q7_17 hb); have n4_ := Aside0.mk (hbox); have n5_ := Aside0.mk ((by rw [hg]; exact (below_size q7_17) : w.heap.size ≤ gb516)); have n6_ := Aside0.mk ((by rw [hg]; exact (below_size q7_17) : w.heap.size ≤ gb516)); have n7_ := Aside0.mk ((q7_15 : gb511 ≠ gb516)); have n8_ := Aside0.mk ((q7_16 : gb516 ≠ gb511)); clear HO508; clear HO514; clear BK511; clear HB; have HO508 := n0_; have HO514 := n1_; have BK511 := n2_; have HB := n3_; have BK516 := n4_; have GW516 := n5_; have GE516 := n6_; have NB511_516 := n7_; have NB516_511 := n8_; clear n0_ n1_ n2_ n3_ n4_ n5_ n6_ n7_ n8_; clear hb hbox hg; obtain ⟨Ao16, co16, eo16⟩ := Kd.S_slice HO514.out; subst eo16; have hnb17 := NB516_511.out; have hnc17 := NB511_516.out; have hcz18_0 : w15.cell? ⟨gb516, 0, none⟩ = some (.slice none 0 0) := (blk_cell BK516.out 0).trans rfl; have hfz18_0 := blk_frozen BK516.out 0; have hcz19_0 : w15.cell? ⟨gb511, 0, none⟩ = some (.slice Ao12 t506.length co12) := (blk_cell BK511.out 0).trans rfl; have hfz19_0 := blk_frozen BK511.out 0) | ((with_reducible refine gate_callee (f := 22) rfl ?_); refine goesL_ (some 42) rfl rfl Try.func22 (by kernel_rfl) rfl #[.agg #[.slice Ao12 t506.length co12], .int .i64 t509, .int .i64 t510] rfl q7_8 ?_; (with_reducible refine (impl_RoughAdd.calls kj2 _ _ t506 t509 t510 t517 t520 _ ?side1 ?side2 A8.out).mono ?_); (case side1 => refine (Kd.Q_reads' (e := 43) (base := w.heap.size) (ok := fun k_ => (True ∧ some k_ ≠ (.slice Ao16 t512.length co16 : Value).ownBlock)) (n := t506.length) (c := co12) ?_).2.2; exact q7_25); (case side2 => exact (Kd.Q_reads' HO508.out).2.1); rintro e w20 ⟨v518, rfl, ho0, hb⟩; refine ⟨_, rfl, ?_⟩; have n0_ := Aside0.mk (Kd.Q_elder' q7_25 (Kd.S_base ho0) hb); have n1_ := Aside0.mk (Kd.S_elder' q7_46 (Kd.S_base ho0) hb); have n2_ := Aside0.mk (Kd.S_lower (Kd.S_new' (Kd.S_new' ho0 (Kd.Q_lt q7_25)) (Kd.S_lt q7_46)) (below_size q7_12)); have n3_ := Aside0.mk (blk_below (g := gb511) (o := .cells #[.slice Ao12 t506.length co12] 25 (0, 0)) (by (with_reducible repeat (first | refine blk_drewN ?_ _ | refine blk_drew ?_ | refine blk_alloc ?_ _)); refine blk_far ?_ NB511_516.out _; (with_reducible repeat (first | refine blk_drewN ?_ _ | refine blk_drew ?_ | refine blk_alloc ?_ _)); exact BK511.out) hb); have n4_ := Aside0.mk (blk_below (g := gb516) (o := .cells #[.slice Ao16 t512.length co16] 25 (0, 0)) (by (with_reducible repeat (first | refine blk_drewN ?_ _ | refine blk_drew ?_ | refine blk_alloc ?_ _)); refine blk_put (cs := #[.slice none 0 0]) ?_ 0 _ rfl; (with_reducible repeat (first | refine blk_drewN ?_ _ | refine blk_drew ?_ | refine blk_alloc ?_ _)); exact BK516.out) hb); have n5_ := Aside0.mk (below_step q7_12 hb); clear HO508; clear HO514; clear BK511; clear BK516; clear HB; have HO508 := n0_; have HO514 := n1_; have HO519 := n2_; have BK511 := n3_; have BK516 := n4_; have HB := n5_; clear n0_ n1_ n2_ n3_ n4_ n5_; (try clear hb); (try clear hb2); (try clear hk); (try clear hi); (try clear ho0)) | ((with_reducible refine gate_dst (N := 10) rfl ?_); (try (refine gate_guard (by rfl) ?_; dsimp only)); refine box_event ?hg (N := 10) ?hd (cs := #[.slice none 0 0]) (t := 25) ?hr ?_; (case hd => rfl); (case hg => rfl); (case hr => exact q7_34); intro gb521 hg w21 hbox hb; have n0_ := Aside0.mk (Kd.Q_below q7_53 hb); have n1_ := Aside0.mk (Kd.S_below q7_60 hb); have n2_ := Aside0.mk (Kd.S_below (by (with_reducible repeat (first | apply Kd.S_alloc | apply Kd.S_drewN | apply Kd.S_drew)); exact HO519.out) hb); have n3_ := Aside0.mk (blk_below (g := gb511) (o := .cells #[.slice Ao12 t506.length co12] 25 (0, 0)) q7_2 hb); have n4_ := Aside0.mk (blk_below (g := gb516) (o := .cells #[.slice Ao16 t512.length co16] 25 (0, 0)) q7_3 hb); have n5_ := Aside0.mk (below_step q7_12 hb); have n6_ := Aside0.mk (hbox); have n7_ := Aside0.mk ((by rw [hg]; exact (below_size q7_12) : w.heap.size ≤ gb521)); have n8_ := Aside0.mk ((by rw [hg]; exact (below_size q7_12) : w.heap.size ≤ gb521)); have n9_ := Aside0.mk ((q7_15 : gb511 ≠ gb521)); have n10_ := Aside0.mk ((q7_16 : gb521 ≠ gb511)); have n11_ := Aside0.mk ((q7_18 : gb516 ≠ gb521)); have n12_ := Aside0.mk ((q7_19 : gb521 ≠ gb516)); clear HO508; clear HO514; clear HO519; clear BK511; clear BK516; clear HB; have HO508 := n0_; have HO514 := n1_; have HO519 := n2_; have BK511 := n3_; have BK516 := n4_; have HB := n5_; have BK521 := n6_; have GW521 := n7_; have GE521 := n8_; have NB511_521 := n9_; have NB521_511 := n10_; have NB516_521 := n11_; have NB521_516 := n12_; clear n0_ n1_ n2_ n3_ n4_ n5_ n6_ n7_ n8_ n9_ n10_ n11_ n12_; clear hb hbox hg; obtain ⟨Ao22, co22, eo22⟩ := Kd.S_slice HO519.out; subst eo22; have hnb23 := NB521_511.out; have hnc23 := NB511_521.out; have hnb24 := NB521_516.out; have hnc24 := NB516_521.out; have hcz25_0 : w21.cell? ⟨gb521, 0, none⟩ = some (.slice none 0 0) := (blk_cell BK521.out 0).trans rfl; have hfz25_0 := blk_frozen BK521.out 0))
        (try simp only [Act.put, List.setIfInBounds_toArray, List.set_cons_zero, List.set_cons_succ])
        go_cut [57] (fun v57 wc => ∃ (kq : Nat) (x57_8 : Bool), v57 = .bool x57_8 ∧ Aside0 (laws_FnRoughAddCut.j1 kq l1 t509 t510 t515 t520 x57_8 t506 t512 t517 = some r) ∧ Aside0 (kq ≤ kj2) ∧ Aside0 (Kd.Q (Kd.slice 3 (Kd.int .i64)) 43 wc w.heap.size (fun k_ => some k_ ≠ ((.slice Ao16 t512.length co16) : Value).ownBlock ∧ some k_ ≠ ((.slice Ao22 t517.length co22) : Value).ownBlock) (.slice Ao12 t506.length co12) t506) ∧ Aside0 (Kd.Q (Kd.slice 3 (Kd.int .i64)) 43 wc w.heap.size (fun k_ => some k_ ≠ ((.slice Ao12 t506.length co12) : Value).ownBlock ∧ some k_ ≠ ((.slice Ao22 t517.length co22) : Value).ownBlock) (.slice Ao16 t512.length co16) t512) ∧ Aside0 (Kd.Q (Kd.slice 3 (Kd.int .i64)) 43 wc w.heap.size (fun k_ => some k_ ≠ ((.slice Ao12 t506.length co12) : Value).ownBlock ∧ some k_ ≠ ((.slice Ao16 t512.length co16) : Value).ownBlock) (.slice Ao22 t517.length co22) t517) ∧ Aside0 (wc.heap[gb511]? = some (.cells #[(.slice Ao12 t506.length co12)] 25 (0, 0))) ∧ Aside0 (wc.heap[gb516]? = some (.cells #[(.slice Ao16 t512.length co16)] 25 (0, 0))) ∧ Aside0 (wc.heap[gb521]? = some (.cells #[(.slice Ao22 t517.length co22)] 25 (0, 0))) ∧ Aside0 (Below w.heap.size w wc))
        case first =>
          have H := HC9.out
          clear HC9
          by_cases c26 : (t520 != t515) = true
          · rw [if_pos c26] at H
            have c26b0 : (t520 != t515) = true := c26
            (try (have c26b1 : decide (t520 = t515) = false := by simpa using c26))
            (try (have c26b2 : (t520 == t515) = false := by simpa using c26))
            (try (have c26b3 : ¬ (t520 = t515) := by simpa using c26))
            clear c26
            (first | rw [c26b0] | (simp only [i64_w, i32_w]; rw [c26b0]) | skip)
            have H' := Aside0.mk H
            clear H
            go_wp2
            go_meet
            case rel => exact ⟨_, (true), q7_55, H', ⟨by have := HJ2.out; first | omega | exact Nat.le_refl _⟩, ⟨by (with_reducible repeat (first | apply Kd.Q_alloc | apply Kd.Q_drewN | apply Kd.Q_drew)); exact Kd.Q_mono (Kd.Q_far (p := ⟨gb521, 0, none⟩) (Kd.Q_types HO508.out BK521.out (by decide)) (fun _ hk => hk.2) (.slice Ao22 t517.length co22)) (fun _ hk => ⟨hk.1.1.2, hk.1.2⟩)⟩, ⟨Kd.Q_of_R ((Kd.S_R (by (with_reducible repeat (first | apply Kd.S_alloc | apply Kd.S_drewN | apply Kd.S_drew)); exact Kd.S_mono (Kd.S_far (p := ⟨gb521, 0, none⟩) (Kd.S_types HO514.out BK521.out (by decide)) (fun _ hk => hk.2) (.slice Ao22 t517.length co22)) (fun _ hk => ⟨hk.1.1.2, hk.1.2⟩))))⟩, ⟨Kd.Q_of_R ((Kd.S_R (by (with_reducible repeat (first | apply Kd.S_alloc | apply Kd.S_drewN | apply Kd.S_drew)); exact Kd.S_mono (Kd.S_far (p := ⟨gb521, 0, none⟩) (Kd.S_types HO519.out BK521.out (by decide)) (fun _ hk => hk.2) (.slice Ao22 t517.length co22)) (fun _ hk => ⟨hk.1.1.2, hk.1.2⟩))))⟩, ⟨by (with_reducible repeat (first | refine blk_drewN ?_ _ | refine blk_drew ?_ | refine blk_alloc ?_ _)); refine blk_far ?_ NB511_521.out _; (with_reducible repeat (first | refine blk_drewN ?_ _ | refine blk_drew ?_ | refine blk_alloc ?_ _)); exact BK511.out⟩, ⟨by (with_reducible repeat (first | refine blk_drewN ?_ _ | refine blk_drew ?_ | refine blk_alloc ?_ _)); refine blk_far ?_ NB516_521.out _; (with_reducible repeat (first | refine blk_drewN ?_ _ | refine blk_drew ?_ | refine blk_alloc ?_ _)); exact BK516.out⟩, ⟨by (with_reducible repeat (first | refine blk_drewN ?_ _ | refine blk_drew ?_ | refine blk_alloc ?_ _)); refine blk_put (cs := #[.slice none 0 0]) ?_ 0 _ rfl; (with_reducible repeat (first | refine blk_drewN ?_ _ | refine blk_drew ?_ | refine blk_alloc ?_ _)); exact BK521.out⟩, ⟨q7_0⟩⟩
          · rw [if_neg c26] at H
            have c26b0 : (t520 != t515) = false := by simpa using c26
            (try (have c26b1 : decide (t520 = t515) = true := by simpa using c26))
            (try (have c26b2 : (t520 == t515) = true := by simpa using c26))
            clear c26
            (first | rw [c26b0] | (simp only [i64_w, i32_w]; rw [c26b0]) | skip)
            replace H := Option.bind_eq_some_iff.mp H
            obtain ⟨t522, A270, H⟩ := H
            replace H : (if t522 = true then (laws_FnRoughAddCut.j1 kj2 l1 t509 t510 t515 t520 (!t520) t506 t512 t517) else (laws_FnRoughAddCut.j1 kj2 l1 t509 t510 t515 t520 true t506 t512 t517)) = some r := H
            have A27 := Aside0.mk A270
            clear A270
            by_cases c28 : t522 = true
            · subst c28
              have H1 : (laws_FnRoughAddCut.j1 kj2 l1 t509 t510 t515 t520 (!t520) t506 t512 t517) = some r := by rw [if_pos rfl] at H; exact H
              clear H
              have H := H1
              clear H1
              have H' := Aside0.mk H
              clear H
              have hnb29 := NB521_511.out
              have hnc29 := NB511_521.out
              have hnb30 := NB521_516.out
              have hnc30 := NB516_521.out
              have hcz31_0 : w21.cell? ⟨gb521, 0, none⟩ = some (.slice none 0 0) := (blk_cell BK521.out 0).trans rfl
              have hfz31_0 := blk_frozen BK521.out 0
              have hnb32 := NB516_511.out
              have hnc32 := NB511_516.out
              have hcz33_0 : w21.cell? ⟨gb516, 0, none⟩ = some (.slice Ao16 t512.length co16) := (blk_cell BK516.out 0).trans rfl
              have hfz33_0 := blk_frozen BK516.out 0
              go_wp2_with (first | (go_at_call 15; (with_reducible refine (laws_lkRough.calls kj2 _ _ t517 _ _ t512 true _ ?side1 ?side2 ?side3 ?side4 A27.out).mono ?_); (case side1 => exact q7_49); (case side2 => exact (Kd.S_reads' HO519.out).2.1); (case side3 => exact q7_50); (case side4 => exact (Kd.S_reads' HO514.out).2.1); rintro e w34 ⟨rfl, hb⟩; have n0_ := Aside0.mk (Kd.Q_below q7_47 hb); have n1_ := Aside0.mk (Kd.S_below q7_14 hb); have n2_ := Aside0.mk (Kd.S_below q7_13 hb); have n3_ := Aside0.mk (blk_below (g := gb511) (o := .cells #[.slice Ao12 t506.length co12] 25 (0, 0)) q7_51 hb); have n4_ := Aside0.mk (blk_below (g := gb516) (o := .cells #[.slice Ao16 t512.length co16] 25 (0, 0)) q7_52 hb); have n5_ := Aside0.mk (blk_below (g := gb521) (o := .cells #[.slice Ao22 t517.length co22] 25 (0, 0)) q7_35 hb); have n6_ := Aside0.mk (below_step q7_0 hb); clear HO508; clear HO514; clear HO519; clear BK511; clear BK516; clear BK521; clear HB; have HO508 := n0_; have HO514 := n1_; have HO519 := n2_; have BK511 := n3_; have BK516 := n4_; have BK521 := n5_; have HB := n6_; clear n0_ n1_ n2_ n3_ n4_ n5_ n6_; (try clear hb); (try clear hb2); (try clear hk); (try clear hi)))
              go_meet
              case rel => exact ⟨_, (!t520), q7_55, H', ⟨by have := HJ2.out; first | omega | exact Nat.le_refl _⟩, ⟨by (with_reducible repeat (first | apply Kd.Q_alloc | apply Kd.Q_drewN | apply Kd.Q_drew)); exact Kd.Q_mono HO508.out (fun _ hk => ⟨hk.1.2, hk.2⟩)⟩, ⟨Kd.Q_of_R ((Kd.S_R q7_56))⟩, ⟨Kd.Q_of_R ((Kd.S_R q7_57))⟩, ⟨by (with_reducible repeat (first | refine blk_drewN ?_ _ | refine blk_drew ?_ | refine blk_alloc ?_ _)); exact BK511.out⟩, ⟨by (with_reducible repeat (first | refine blk_drewN ?_ _ | refine blk_drew ?_ | refine blk_alloc ?_ _)); exact BK516.out⟩, ⟨by (with_reducible repeat (first | refine blk_drewN ?_ _ | refine blk_drew ?_ | refine blk_alloc ?_ _)); exact BK521.out⟩, ⟨q7_0⟩⟩
            · replace c28 := Bool.eq_false_iff.mpr c28
              subst c28
              have H1 : (laws_FnRoughAddCut.j1 kj2 l1 t509 t510 t515 t520 true t506 t512 t517) = some r := by rw [if_neg (show ¬ (false = true) by decide)] at H; exact H
              clear H
              have H := H1
              clear H1
              have H' := Aside0.mk H
              clear H
              have hnb35 := NB521_511.out
              have hnc35 := NB511_521.out
              have hnb36 := NB521_516.out
              have hnc36 := NB516_521.out
              have hcz37_0 : w21.cell? ⟨gb521, 0, none⟩ = some (.slice none 0 0) := (blk_cell BK521.out 0).trans rfl
              have hfz37_0 := blk_frozen BK521.out 0
              have hnb38 := NB516_511.out
              have hnc38 := NB511_516.out
              have hcz39_0 : w21.cell? ⟨gb516, 0, none⟩ = some (.slice Ao16 t512.length co16) := (blk_cell BK516.out 0).trans rfl
              have hfz39_0 := blk_frozen BK516.out 0
              go_wp2_with (first | (go_at_call 15; (with_reducible refine (laws_lkRough.calls kj2 _ _ t517 _ _ t512 false _ ?side1 ?side2 ?side3 ?side4 A27.out).mono ?_); (case side1 => exact q7_49); (case side2 => exact (Kd.S_reads' HO519.out).2.1); (case side3 => exact q7_50); (case side4 => exact (Kd.S_reads' HO514.out).2.1); rintro e w40 ⟨rfl, hb⟩; have n0_ := Aside0.mk (Kd.Q_below q7_47 hb); have n1_ := Aside0.mk (Kd.S_below q7_14 hb); have n2_ := Aside0.mk (Kd.S_below q7_13 hb); have n3_ := Aside0.mk (blk_below (g := gb511) (o := .cells #[.slice Ao12 t506.length co12] 25 (0, 0)) q7_51 hb); have n4_ := Aside0.mk (blk_below (g := gb516) (o := .cells #[.slice Ao16 t512.length co16] 25 (0, 0)) q7_52 hb); have n5_ := Aside0.mk (blk_below (g := gb521) (o := .cells #[.slice Ao22 t517.length co22] 25 (0, 0)) q7_35 hb); have n6_ := Aside0.mk (below_step q7_0 hb); clear HO508; clear HO514; clear HO519; clear BK511; clear BK516; clear BK521; clear HB; have HO508 := n0_; have HO514 := n1_; have HO519 := n2_; have BK511 := n3_; have BK516 := n4_; have BK521 := n5_; have HB := n6_; clear n0_ n1_ n2_ n3_ n4_ n5_ n6_; (try clear hb); (try clear hb2); (try clear hk); (try clear hi)))
              go_meet
              case rel => exact ⟨_, (true), q7_55, H', ⟨by have := HJ2.out; first | omega | exact Nat.le_refl _⟩, ⟨by (with_reducible repeat (first | apply Kd.Q_alloc | apply Kd.Q_drewN | apply Kd.Q_drew)); exact Kd.Q_mono HO508.out (fun _ hk => ⟨hk.1.2, hk.2⟩)⟩, ⟨Kd.Q_of_R ((Kd.S_R q7_56))⟩, ⟨Kd.Q_of_R ((Kd.S_R q7_57))⟩, ⟨by (with_reducible repeat (first | refine blk_drewN ?_ _ | refine blk_drew ?_ | refine blk_alloc ?_ _)); exact BK511.out⟩, ⟨by (with_reducible repeat (first | refine blk_drewN ?_ _ | refine blk_drew ?_ | refine blk_alloc ?_ _)); exact BK516.out⟩, ⟨by (with_reducible repeat (first | refine blk_drewN ?_ _ | refine blk_drew ?_ | refine blk_alloc ?_ _)); exact BK521.out⟩, ⟨q7_0⟩⟩
        case rest =>
          clear HC9
          try clear c1
          try clear c2
          try clear p2
          try clear c3
          try clear c4
          try clear c4b0
          try clear c4b1
          try clear c5
          try clear c7
          try clear c17
          try clear c22
          try clear c23
          try clear c24
          try clear c26
          try clear c26b0
          try clear c26b1
          try clear c26b2
          try clear c28
          try clear c29
          try clear c30
          try clear c32
          try clear c35
          try clear c36
          try clear c38
          try clear hcz13_0
          try clear hcz18_0
          try clear hcz19_0
          try clear hcz25_0
          try clear hcz31_0
          try clear hcz33_0
          try clear hcz37_0
          try clear hcz39_0
          try clear hfz13_0
          try clear hfz18_0
          try clear hfz19_0
          try clear hfz25_0
          try clear hfz31_0
          try clear hfz33_0
          try clear hfz37_0
          try clear hfz39_0
          try clear p2
          obtain ⟨kq, x57_8, rfl, HA, HJ8, HO_512000, HO_517000, HO_522000, BK511, BK516, BK521, HB⟩ := hcut
          cases kq with
          | zero => exact absurd HA.out (by simp [laws_FnRoughAddCut.j1])
          | succ kj8 =>
            have H := HA.out
            clear HA
            simp only [laws_FnRoughAddCut.j1] at H
            by_cases c41 : x57_8 = true
            · subst c41
              have H1 : (if (t520 == t515) = true then ((laws_lkRough.f kj8 t517 t512).bind fun t523 => (some t523)) else (some false)) = some r := by rw [if_pos rfl] at H; exact H
              clear H
              have H := H1
              clear H1
              by_cases c42 : (t520 == t515) = true
              · rw [if_pos c42] at H
                have c42b0 : (t520 == t515) = true := c42
                (try (have c42b1 : decide (t520 = t515) = true := by simpa using c42))
                (try (have c42b2 : (t520 == t515) = true := by simpa using c42))
                clear c42
                replace H := Option.bind_eq_some_iff.mp H
                obtain ⟨t523, A430, H⟩ := H
                replace H : (some t523) = some r := H
                have A43 := Aside0.mk A430
                clear A430
                obtain rfl := Option.some.inj H
                have hnb44 := NB521_511.out
                have hnc44 := NB511_521.out
                have hnb45 := NB521_516.out
                have hnc45 := NB516_521.out
                have hcz46_0 : wc.cell? ⟨gb521, 0, none⟩ = some (.slice Ao22 t517.length co22) := (blk_cell BK521.out 0).trans rfl
                have hfz46_0 := blk_frozen BK521.out 0
                have hnb47 := NB516_511.out
                have hnc47 := NB511_516.out
                have hcz48_0 : wc.cell? ⟨gb516, 0, none⟩ = some (.slice Ao16 t512.length co16) := (blk_cell BK516.out 0).trans rfl
                have hfz48_0 := blk_frozen BK516.out 0
                go_wp2_with (first | (go_at_call 15; (with_reducible refine (laws_lkRough.calls kj8 _ _ t517 _ _ t512 t523 _ ?side1 ?side2 ?side3 ?side4 A43.out).mono ?_); (case side1 => repeat (first | exact (Kd.Q_reads' HO_522000.out).2.2 | (with_reducible refine Kd.C_alloc ?_ _) | (with_reducible refine Kd.C_drewN ?_ _) | (with_reducible refine Kd.C_drew ?_))); (case side2 => exact (Kd.Q_reads' HO_522000.out).2.1); (case side3 => repeat (first | exact (Kd.Q_reads' HO_517000.out).2.2 | (with_reducible refine Kd.C_alloc ?_ _) | (with_reducible refine Kd.C_drewN ?_ _) | (with_reducible refine Kd.C_drew ?_))); (case side4 => exact (Kd.Q_reads' HO_517000.out).2.1); rintro e w49 ⟨rfl, hb⟩; have n0_ := Aside0.mk (Kd.Q_below q7_5 hb); have n1_ := Aside0.mk (Kd.Q_below q7_6 hb); have n2_ := Aside0.mk (Kd.Q_below q7_7 hb); have n3_ := Aside0.mk (blk_below (g := gb511) (o := .cells #[.slice Ao12 t506.length co12] 25 (0, 0)) q7_2 hb); have n4_ := Aside0.mk (blk_below (g := gb516) (o := .cells #[.slice Ao16 t512.length co16] 25 (0, 0)) q7_3 hb); have n5_ := Aside0.mk (blk_below (g := gb521) (o := .cells #[.slice Ao22 t517.length co22] 25 (0, 0)) q7_4 hb); have n6_ := Aside0.mk (below_step q7_0 hb); clear HO_512000; clear HO_517000; clear HO_522000; clear BK511; clear BK516; clear BK521; clear HB; have HO_512000 := n0_; have HO_517000 := n1_; have HO_522000 := n2_; have BK511 := n3_; have BK516 := n4_; have BK521 := n5_; have HB := n6_; clear n0_ n1_ n2_ n3_ n4_ n5_ n6_; (try clear hb); (try clear hb2); (try clear hk); (try clear hi)))
                go_ret
                exact ⟨q7_32, q7_0⟩
              · rw [if_neg c42] at H
                have c42b0 : (t520 == t515) = false := by simpa using c42
                (try (have c42b1 : decide (t520 = t515) = false := by simpa using c42))
                (try (have c42b2 : (t520 == t515) = false := by simpa using c42))
                (try (have c42b3 : ¬ (t520 = t515) := by simpa using c42))
                clear c42
                obtain rfl := Option.some.inj H
                go_wp2
                go_ret
                exact ⟨q7_32, q7_0⟩
            · replace c41 := Bool.eq_false_iff.mpr c41
              subst c41
              have H1 : (if (wrap64 (t510 + 1)) = 0 then (none) else ((impl_RoughAdd.f kj8 t506 t509 ((l1.length : Int) % (wrap64 (t510 + 1)))).bind fun bt524 => ((impl_RoughAdd.f kj8 bt524.1 t509 (wrap64 (t510 - ((l1.length : Int) % (wrap64 (t510 + 1)))))).bind fun bt529 => (if bt524.2 = true then (if bt529.2 = true then ((laws_lkRough.f kj8 bt529.1 t517).bind fun t534 => (some t534)) else (some false)) else (some false))))) = some r := by rw [if_neg (show ¬ (false = true) by decide)] at H; exact H
              clear H
              have H := H1
              clear H1
              by_cases c50 : (wrap64 (t510 + 1)) = 0
              · rw [if_pos c50] at H
                exact absurd H (by simp)
              · rw [if_neg c50] at H
                have c50b0 : ((wrap64 (t510 + 1)) == 0) = false := beq_eq_false_iff_ne.mpr c50
                have c50b1 : ((wrap64 (t510 + 1)) != 0) = true := bne_iff_ne.mpr c50
                replace H := Option.bind_eq_some_iff.mp H
                obtain ⟨⟨t524, t527⟩, A510, H⟩ := H
                replace H : ((impl_RoughAdd.f kj8 t524 t509 (wrap64 (t510 - ((l1.length : Int) % (wrap64 (t510 + 1)))))).bind fun bt529 => (if t527 = true then (if bt529.2 = true then ((laws_lkRough.f kj8 bt529.1 t517).bind fun t534 => (some t534)) else (some false)) else (some false))) = some r := H
                have A51 := Aside0.mk A510
                clear A510
                replace H := Option.bind_eq_some_iff.mp H
                obtain ⟨⟨t529, t532⟩, A520, H⟩ := H
                replace H : (if t527 = true then (if t532 = true then ((laws_lkRough.f kj8 t529 t517).bind fun t534 => (some t534)) else (some false)) else (some false)) = some r := H
                have A52 := Aside0.mk A520
                clear A520
                by_cases c53 : t527 = true
                · subst c53
                  have H1 : (if t532 = true then ((laws_lkRough.f kj8 t529 t517).bind fun t534 => (some t534)) else (some false)) = some r := by rw [if_pos rfl] at H; exact H
                  clear H
                  have H := H1
                  clear H1
                  by_cases c54 : t532 = true
                  · subst c54
                    have H1 : ((laws_lkRough.f kj8 t529 t517).bind fun t534 => (some t534)) = some r := by rw [if_pos rfl] at H; exact H
                    clear H
                    have H := H1
                    clear H1
                    replace H := Option.bind_eq_some_iff.mp H
                    obtain ⟨t534, A550, H⟩ := H
                    replace H : (some t534) = some r := H
                    have A55 := Aside0.mk A550
                    clear A550
                    obtain rfl := Option.some.inj H
                    have hnb56 := NB511_516.out
                    have hnc56 := NB516_511.out
                    have hnb57 := NB511_521.out
                    have hnc57 := NB521_511.out
                    have hcz58_0 : wc.cell? ⟨gb511, 0, none⟩ = some (.slice Ao12 t506.length co12) := (blk_cell BK511.out 0).trans rfl
                    have hfz58_0 := blk_frozen BK511.out 0
                    go_wp2_with (first | ((with_reducible refine gate_callee (f := 22) rfl ?_); refine goesL_ (some 75) rfl rfl Try.func22 (by kernel_rfl) rfl #[.agg #[.slice Ao12 t506.length co12], .int .i64 t509, .int .i64 ((l1.length : Int) % (wrap64 (t510 + 1)))] rfl q7_8 ?_; (with_reducible refine (impl_RoughAdd.calls kj8 _ _ t506 t509 ((l1.length : Int) % (wrap64 (t510 + 1))) t524 true _ ?side1 ?side2 A51.out).mono ?_); (case side1 => exact q7_33); (case side2 => exact (Kd.Q_reads' HO_512000.out).2.1); rintro e w59 ⟨v525, rfl, ho0, hb⟩; refine ⟨_, rfl, ?_⟩; have n0_ := Aside0.mk (Kd.Q_elder' q7_5 (Kd.S_base ho0) hb); have n1_ := Aside0.mk (Kd.Q_elder' q7_6 (Kd.S_base ho0) hb); have n2_ := Aside0.mk (Kd.Q_elder' q7_7 (Kd.S_base ho0) hb); have n3_ := Aside0.mk (Kd.S_lower (Kd.S_new' (Kd.S_new' (Kd.S_new' ho0 (Kd.Q_lt q7_5)) (Kd.Q_lt q7_6)) (Kd.Q_lt q7_7)) (below_size q7_0)); have n4_ := Aside0.mk (blk_below (g := gb511) (o := .cells #[.slice Ao12 t506.length co12] 25 (0, 0)) q7_2 hb); have n5_ := Aside0.mk (blk_below (g := gb516) (o := .cells #[.slice Ao16 t512.length co16] 25 (0, 0)) q7_3 hb); have n6_ := Aside0.mk (blk_below (g := gb521) (o := .cells #[.slice Ao22 t517.length co22] 25 (0, 0)) q7_4 hb); have n7_ := Aside0.mk (below_step q7_0 hb); clear HO_512000; clear HO_517000; clear HO_522000; clear BK511; clear BK516; clear BK521; clear HB; have HO_512000 := n0_; have HO_517000 := n1_; have HO_522000 := n2_; have HO526 := n3_; have BK511 := n4_; have BK516 := n5_; have BK521 := n6_; have HB := n7_; clear n0_ n1_ n2_ n3_ n4_ n5_ n6_ n7_; (try clear hb); (try clear hb2); (try clear hk); (try clear hi); (try clear ho0)) | ((with_reducible refine gate_dst (N := 13) rfl ?_); (try (refine gate_guard (by rfl) ?_; dsimp only)); refine box_event ?hg (N := 13) ?hd (cs := #[.slice none 0 0]) (t := 25) ?hr ?_; (case hd => rfl); (case hg => rfl); (case hr => exact q7_34); intro gb528 hg w60 hbox hb; have n0_ := Aside0.mk (Kd.Q_below q7_5 hb); have n1_ := Aside0.mk (Kd.Q_below q7_6 hb); have n2_ := Aside0.mk (Kd.Q_below q7_7 hb); have n3_ := Aside0.mk (Kd.S_below q7_31 hb); have n4_ := Aside0.mk (blk_below (g := gb511) (o := .cells #[.slice Ao12 t506.length co12] 25 (0, 0)) q7_2 hb); have n5_ := Aside0.mk (blk_below (g := gb516) (o := .cells #[.slice Ao16 t512.length co16] 25 (0, 0)) q7_3 hb); have n6_ := Aside0.mk (blk_below (g := gb521) (o := .cells #[.slice Ao22 t517.length co22] 25 (0, 0)) q7_4 hb); have n7_ := Aside0.mk (below_step q7_0 hb); have n8_ := Aside0.mk (hbox); have n9_ := Aside0.mk ((q7_58 : w.heap.size ≤ gb528)); have n10_ := Aside0.mk ((q7_58 : w.heap.size ≤ gb528)); have n11_ := Aside0.mk ((q7_15 : gb511 ≠ gb528)); have n12_ := Aside0.mk ((q7_16 : gb528 ≠ gb511)); have n13_ := Aside0.mk ((q7_18 : gb516 ≠ gb528)); have n14_ := Aside0.mk ((q7_19 : gb528 ≠ gb516)); have n15_ := Aside0.mk ((q7_21 : gb521 ≠ gb528)); have n16_ := Aside0.mk ((q7_22 : gb528 ≠ gb521)); clear HO_512000; clear HO_517000; clear HO_522000; clear HO526; clear BK511; clear BK516; clear BK521; clear HB; have HO_512000 := n0_; have HO_517000 := n1_; have HO_522000 := n2_; have HO526 := n3_; have BK511 := n4_; have BK516 := n5_; have BK521 := n6_; have HB := n7_; have BK528 := n8_; have GW528 := n9_; have GE528 := n10_; have NB511_528 := n11_; have NB528_511 := n12_; have NB516_528 := n13_; have NB528_516 := n14_; have NB521_528 := n15_; have NB528_521 := n16_; clear n0_ n1_ n2_ n3_ n4_ n5_ n6_ n7_ n8_ n9_ n10_ n11_ n12_ n13_ n14_ n15_ n16_; clear hb hbox hg; obtain ⟨Ao61, co61, eo61⟩ := Kd.S_slice HO526.out; subst eo61; have hnb62 := NB528_511.out; have hnc62 := NB511_528.out; have hnb63 := NB528_516.out; have hnc63 := NB516_528.out; have hnb64 := NB528_521.out; have hnc64 := NB521_528.out; have hcz65_0 : w60.cell? ⟨gb528, 0, none⟩ = some (.slice none 0 0) := (blk_cell BK528.out 0).trans rfl; have hfz65_0 := blk_frozen BK528.out 0) | ((with_reducible refine gate_callee (f := 22) rfl ?_); refine goesL_ (some 84) rfl rfl Try.func22 (by kernel_rfl) rfl #[.agg #[.slice Ao61 t524.length co61], .int .i64 t509, .int .i64 (wrap64 (t510 - ((l1.length : Int) % (wrap64 (t510 + 1)))))] rfl q7_8 ?_; (with_reducible refine (impl_RoughAdd.calls kj8 _ _ t524 t509 (wrap64 (t510 - ((l1.length : Int) % (wrap64 (t510 + 1))))) t529 true _ ?side1 ?side2 A52.out).mono ?_); (case side1 => refine (Kd.S_reads' (e := 43) (base := w.heap.size) (ok := fun k_ => (((True ∧ some k_ ≠ (.slice Ao12 t506.length co12 : Value).ownBlock) ∧ some k_ ≠ (.slice Ao16 t512.length co16 : Value).ownBlock) ∧ some k_ ≠ (.slice Ao22 t517.length co22 : Value).ownBlock)) (n := t524.length) (c := co61) ?_).2.2; exact q7_26); (case side2 => exact (Kd.S_reads' HO526.out).2.1); rintro e w66 ⟨v530, rfl, ho0, hb⟩; refine ⟨_, rfl, ?_⟩; have n0_ := Aside0.mk (Kd.Q_elder' q7_39 (Kd.S_base ho0) hb); have n1_ := Aside0.mk (Kd.Q_elder' q7_40 (Kd.S_base ho0) hb); have n2_ := Aside0.mk (Kd.Q_elder' q7_41 (Kd.S_base ho0) hb); have n3_ := Aside0.mk (Kd.S_elder' q7_26 (Kd.S_base ho0) hb); have n4_ := Aside0.mk (Kd.S_lower (Kd.S_new' (Kd.S_new' (Kd.S_new' (Kd.S_new' ho0 (Kd.Q_lt q7_39)) (Kd.Q_lt q7_40)) (Kd.Q_lt q7_41)) (Kd.S_lt q7_26)) (below_size q7_1)); have n5_ := Aside0.mk (blk_below (g := gb511) (o := .cells #[.slice Ao12 t506.length co12] 25 (0, 0)) q7_28 hb); have n6_ := Aside0.mk (blk_below (g := gb516) (o := .cells #[.slice Ao16 t512.length co16] 25 (0, 0)) q7_29 hb); have n7_ := Aside0.mk (blk_below (g := gb521) (o := .cells #[.slice Ao22 t517.length co22] 25 (0, 0)) q7_30 hb); have n8_ := Aside0.mk (blk_below (g := gb528) (o := .cells #[.slice Ao61 t524.length co61] 25 (0, 0)) q7_20 hb); have n9_ := Aside0.mk (below_step q7_1 hb); clear HO_512000; clear HO_517000; clear HO_522000; clear HO526; clear BK511; clear BK516; clear BK521; clear BK528; clear HB; have HO_512000 := n0_; have HO_517000 := n1_; have HO_522000 := n2_; have HO526 := n3_; have HO531 := n4_; have BK511 := n5_; have BK516 := n6_; have BK521 := n7_; have BK528 := n8_; have HB := n9_; clear n0_ n1_ n2_ n3_ n4_ n5_ n6_ n7_ n8_ n9_; (try clear hb); (try clear hb2); (try clear hk); (try clear hi); (try clear ho0)) | ((with_reducible refine gate_dst (N := 15) rfl ?_); (try (refine gate_guard (by rfl) ?_; dsimp only)); refine box_event ?hg (N := 15) ?hd (cs := #[.slice none 0 0]) (t := 25) ?hr ?_; (case hd => rfl); (case hg => rfl); (case hr => exact q7_34); intro gb533 hg w67 hbox hb; have n0_ := Aside0.mk (Kd.Q_below q7_5 hb); have n1_ := Aside0.mk (Kd.Q_below q7_6 hb); have n2_ := Aside0.mk (Kd.Q_below q7_7 hb); have n3_ := Aside0.mk (Kd.S_below q7_31 hb); have n4_ := Aside0.mk (Kd.S_below q7_54 hb); have n5_ := Aside0.mk (blk_below (g := gb511) (o := .cells #[.slice Ao12 t506.length co12] 25 (0, 0)) q7_2 hb); have n6_ := Aside0.mk (blk_below (g := gb516) (o := .cells #[.slice Ao16 t512.length co16] 25 (0, 0)) q7_3 hb); have n7_ := Aside0.mk (blk_below (g := gb521) (o := .cells #[.slice Ao22 t517.length co22] 25 (0, 0)) q7_4 hb); have n8_ := Aside0.mk (blk_below (g := gb528) (o := .cells #[.slice Ao61 t524.length co61] 25 (0, 0)) q7_9 hb); have n9_ := Aside0.mk (below_step q7_1 hb); have n10_ := Aside0.mk (hbox); have n11_ := Aside0.mk ((q7_59 : w.heap.size ≤ gb533)); have n12_ := Aside0.mk ((q7_59 : w.heap.size ≤ gb533)); have n13_ := Aside0.mk ((q7_15 : gb511 ≠ gb533)); have n14_ := Aside0.mk ((q7_16 : gb533 ≠ gb511)); have n15_ := Aside0.mk ((q7_18 : gb516 ≠ gb533)); have n16_ := Aside0.mk ((q7_19 : gb533 ≠ gb516)); have n17_ := Aside0.mk ((q7_21 : gb521 ≠ gb533)); have n18_ := Aside0.mk ((q7_22 : gb533 ≠ gb521)); have n19_ := Aside0.mk ((by rw [hg]; exact Nat.ne_of_lt (blk_lt (g := gb528) (o := .cells #[.slice Ao61 t524.length co61] 25 (0, 0)) q7_9) : gb528 ≠ gb533)); have n20_ := Aside0.mk ((by rw [hg]; exact Nat.ne_of_gt (blk_lt (g := gb528) (o := .cells #[.slice Ao61 t524.length co61] 25 (0, 0)) q7_9) : gb533 ≠ gb528)); clear HO_512000; clear HO_517000; clear HO_522000; clear HO526; clear HO531; clear BK511; clear BK516; clear BK521; clear BK528; clear HB; have HO_512000 := n0_; have HO_517000 := n1_; have HO_522000 := n2_; have HO526 := n3_; have HO531 := n4_; have BK511 := n5_; have BK516 := n6_; have BK521 := n7_; have BK528 := n8_; have HB := n9_; have BK533 := n10_; have GW533 := n11_; have GE533 := n12_; have NB511_533 := n13_; have NB533_511 := n14_; have NB516_533 := n15_; have NB533_516 := n16_; have NB521_533 := n17_; have NB533_521 := n18_; have NB528_533 := n19_; have NB533_528 := n20_; clear n0_ n1_ n2_ n3_ n4_ n5_ n6_ n7_ n8_ n9_ n10_ n11_ n12_ n13_ n14_ n15_ n16_ n17_ n18_ n19_ n20_; clear hb hbox hg; obtain ⟨Ao68, co68, eo68⟩ := Kd.S_slice HO531.out; subst eo68; have hnb69 := NB533_511.out; have hnc69 := NB511_533.out; have hnb70 := NB533_516.out; have hnc70 := NB516_533.out; have hnb71 := NB533_521.out; have hnc71 := NB521_533.out; have hnb72 := NB533_528.out; have hnc72 := NB528_533.out; have hcz73_0 : w67.cell? ⟨gb533, 0, none⟩ = some (.slice none 0 0) := (blk_cell BK533.out 0).trans rfl; have hfz73_0 := blk_frozen BK533.out 0; have hnb74 := NB521_516.out; have hnc74 := NB516_521.out; have hcz75_0 : w67.cell? ⟨gb521, 0, none⟩ = some (.slice Ao22 t517.length co22) := (blk_cell BK521.out 0).trans rfl; have hfz75_0 := blk_frozen BK521.out 0) | (go_at_call 15; (with_reducible refine (laws_lkRough.calls kj8 _ _ t529 _ _ t517 t534 _ ?side1 ?side2 ?side3 ?side4 A55.out).mono ?_); (case side1 => refine (Kd.S_reads' (e := 43) (base := w.heap.size) (ok := fun k_ => ((((True ∧ some k_ ≠ (.slice Ao12 t506.length co12 : Value).ownBlock) ∧ some k_ ≠ (.slice Ao16 t512.length co16 : Value).ownBlock) ∧ some k_ ≠ (.slice Ao22 t517.length co22 : Value).ownBlock) ∧ some k_ ≠ (.slice Ao61 t524.length co61 : Value).ownBlock)) (n := t529.length) (c := co68) ?_).2.2; exact q7_48); (case side2 => exact (Kd.S_reads' HO531.out).2.1); (case side3 => refine (Kd.Q_reads' (e := 43) (base := w.heap.size) (ok := fun k_ => (((some k_ ≠ (.slice Ao12 t506.length co12 : Value).ownBlock ∧ some k_ ≠ (.slice Ao16 t512.length co16 : Value).ownBlock) ∧ some k_ ≠ (.slice Ao61 t524.length co61 : Value).ownBlock) ∧ some k_ ≠ (.slice Ao68 t529.length co68 : Value).ownBlock)) (n := t517.length) (c := co22) ?_).2.2; exact q7_42); (case side4 => exact (Kd.Q_reads' HO_522000.out).2.1); rintro e w76 ⟨rfl, hb⟩; have n0_ := Aside0.mk (Kd.Q_below (by (with_reducible repeat (first | apply Kd.Q_alloc | apply Kd.Q_drewN | apply Kd.Q_drew)); exact (Kd.Q_mono (Kd.Q_far (p := ⟨gb533, 0, none⟩) (Kd.Q_types HO_512000.out BK533.out (by decide)) (fun _ hk => hk.2) (.slice Ao68 t529.length co68)) (fun _ h_ => h_.1))) hb); have n1_ := Aside0.mk (Kd.Q_below (by (with_reducible repeat (first | apply Kd.Q_alloc | apply Kd.Q_drewN | apply Kd.Q_drew)); exact (Kd.Q_mono (Kd.Q_far (p := ⟨gb533, 0, none⟩) (Kd.Q_types HO_517000.out BK533.out (by decide)) (fun _ hk => hk.2) (.slice Ao68 t529.length co68)) (fun _ h_ => h_.1))) hb); have n2_ := Aside0.mk (Kd.Q_below q7_42 hb); have n3_ := Aside0.mk (Kd.S_below (by (with_reducible repeat (first | apply Kd.S_alloc | apply Kd.S_drewN | apply Kd.S_drew)); exact (Kd.S_mono (Kd.S_far (p := ⟨gb533, 0, none⟩) (Kd.S_types HO526.out BK533.out (by decide)) (fun _ hk => hk.2) (.slice Ao68 t529.length co68)) (fun _ h_ => h_.1))) hb); have n4_ := Aside0.mk (Kd.S_below q7_48 hb); have n5_ := Aside0.mk (blk_below (g := gb511) (o := .cells #[.slice Ao12 t506.length co12] 25 (0, 0)) (by (with_reducible repeat (first | refine blk_drewN ?_ _ | refine blk_drew ?_ | refine blk_alloc ?_ _)); refine blk_far ?_ NB511_533.out _; (with_reducible repeat (first | refine blk_drewN ?_ _ | refine blk_drew ?_ | refine blk_alloc ?_ _)); exact BK511.out) hb); have n6_ := Aside0.mk (blk_below (g := gb516) (o := .cells #[.slice Ao16 t512.length co16] 25 (0, 0)) (by (with_reducible repeat (first | refine blk_drewN ?_ _ | refine blk_drew ?_ | refine blk_alloc ?_ _)); refine blk_far ?_ NB516_533.out _; (with_reducible repeat (first | refine blk_drewN ?_ _ | refine blk_drew ?_ | refine blk_alloc ?_ _)); exact BK516.out) hb); have n7_ := Aside0.mk (blk_below (g := gb521) (o := .cells #[.slice Ao22 t517.length co22] 25 (0, 0)) (by (with_reducible repeat (first | refine blk_drewN ?_ _ | refine blk_drew ?_ | refine blk_alloc ?_ _)); refine blk_far ?_ NB521_533.out _; (with_reducible repeat (first | refine blk_drewN ?_ _ | refine blk_drew ?_ | refine blk_alloc ?_ _)); exact BK521.out) hb); have n8_ := Aside0.mk (blk_below (g := gb528) (o := .cells #[.slice Ao61 t524.length co61] 25 (0, 0)) (by (with_reducible repeat (first | refine blk_drewN ?_ _ | refine blk_drew ?_ | refine blk_alloc ?_ _)); refine blk_far ?_ NB528_533.out _; (with_reducible repeat (first | refine blk_drewN ?_ _ | refine blk_drew ?_ | refine blk_alloc ?_ _)); exact BK528.out) hb); have n9_ := Aside0.mk (blk_below (g := gb533) (o := .cells #[.slice Ao68 t529.length co68] 25 (0, 0)) (by (with_reducible repeat (first | refine blk_drewN ?_ _ | refine blk_drew ?_ | refine blk_alloc ?_ _)); refine blk_put (cs := #[.slice none 0 0]) ?_ 0 _ rfl; (with_reducible repeat (first | refine blk_drewN ?_ _ | refine blk_drew ?_ | refine blk_alloc ?_ _)); exact BK533.out) hb); have n10_ := Aside0.mk (below_step q7_11 hb); clear HO_512000; clear HO_517000; clear HO_522000; clear HO526; clear HO531; clear BK511; clear BK516; clear BK521; clear BK528; clear BK533; clear HB; have HO_512000 := n0_; have HO_517000 := n1_; have HO_522000 := n2_; have HO526 := n3_; have HO531 := n4_; have BK511 := n5_; have BK516 := n6_; have BK521 := n7_; have BK528 := n8_; have BK533 := n9_; have HB := n10_; clear n0_ n1_ n2_ n3_ n4_ n5_ n6_ n7_ n8_ n9_ n10_; (try clear hb); (try clear hb2); (try clear hk); (try clear hi)))
                    go_ret
                    exact ⟨q7_32, q7_11⟩
                  · replace c54 := Bool.eq_false_iff.mpr c54
                    subst c54
                    have H1 : (some false) = some r := by rw [if_neg (show ¬ (false = true) by decide)] at H; exact H
                    clear H
                    have H := H1
                    clear H1
                    obtain rfl := Option.some.inj H
                    have hnb77 := NB511_516.out
                    have hnc77 := NB516_511.out
                    have hnb78 := NB511_521.out
                    have hnc78 := NB521_511.out
                    have hcz79_0 : wc.cell? ⟨gb511, 0, none⟩ = some (.slice Ao12 t506.length co12) := (blk_cell BK511.out 0).trans rfl
                    have hfz79_0 := blk_frozen BK511.out 0
                    go_wp2_with (first | ((with_reducible refine gate_callee (f := 22) rfl ?_); refine goesL_ (some 75) rfl rfl Try.func22 (by kernel_rfl) rfl #[.agg #[.slice Ao12 t506.length co12], .int .i64 t509, .int .i64 ((l1.length : Int) % (wrap64 (t510 + 1)))] rfl q7_8 ?_; (with_reducible refine (impl_RoughAdd.calls kj8 _ _ t506 t509 ((l1.length : Int) % (wrap64 (t510 + 1))) t524 true _ ?side1 ?side2 A51.out).mono ?_); (case side1 => exact q7_33); (case side2 => exact (Kd.Q_reads' HO_512000.out).2.1); rintro e w80 ⟨v525, rfl, ho0, hb⟩; refine ⟨_, rfl, ?_⟩; have n0_ := Aside0.mk (Kd.Q_elder' q7_5 (Kd.S_base ho0) hb); have n1_ := Aside0.mk (Kd.Q_elder' q7_6 (Kd.S_base ho0) hb); have n2_ := Aside0.mk (Kd.Q_elder' q7_7 (Kd.S_base ho0) hb); have n3_ := Aside0.mk (Kd.S_lower (Kd.S_new' (Kd.S_new' (Kd.S_new' ho0 (Kd.Q_lt q7_5)) (Kd.Q_lt q7_6)) (Kd.Q_lt q7_7)) (below_size q7_0)); have n4_ := Aside0.mk (blk_below (g := gb511) (o := .cells #[.slice Ao12 t506.length co12] 25 (0, 0)) q7_2 hb); have n5_ := Aside0.mk (blk_below (g := gb516) (o := .cells #[.slice Ao16 t512.length co16] 25 (0, 0)) q7_3 hb); have n6_ := Aside0.mk (blk_below (g := gb521) (o := .cells #[.slice Ao22 t517.length co22] 25 (0, 0)) q7_4 hb); have n7_ := Aside0.mk (below_step q7_0 hb); clear HO_512000; clear HO_517000; clear HO_522000; clear BK511; clear BK516; clear BK521; clear HB; have HO_512000 := n0_; have HO_517000 := n1_; have HO_522000 := n2_; have HO526 := n3_; have BK511 := n4_; have BK516 := n5_; have BK521 := n6_; have HB := n7_; clear n0_ n1_ n2_ n3_ n4_ n5_ n6_ n7_; (try clear hb); (try clear hb2); (try clear hk); (try clear hi); (try clear ho0)) | ((with_reducible refine gate_dst (N := 13) rfl ?_); (try (refine gate_guard (by rfl) ?_; dsimp only)); refine box_event ?hg (N := 13) ?hd (cs := #[.slice none 0 0]) (t := 25) ?hr ?_; (case hd => rfl); (case hg => rfl); (case hr => exact q7_34); intro gb528 hg w81 hbox hb; have n0_ := Aside0.mk (Kd.Q_below q7_5 hb); have n1_ := Aside0.mk (Kd.Q_below q7_6 hb); have n2_ := Aside0.mk (Kd.Q_below q7_7 hb); have n3_ := Aside0.mk (Kd.S_below q7_31 hb); have n4_ := Aside0.mk (blk_below (g := gb511) (o := .cells #[.slice Ao12 t506.length co12] 25 (0, 0)) q7_2 hb); have n5_ := Aside0.mk (blk_below (g := gb516) (o := .cells #[.slice Ao16 t512.length co16] 25 (0, 0)) q7_3 hb); have n6_ := Aside0.mk (blk_below (g := gb521) (o := .cells #[.slice Ao22 t517.length co22] 25 (0, 0)) q7_4 hb); have n7_ := Aside0.mk (below_step q7_0 hb); have n8_ := Aside0.mk (hbox); have n9_ := Aside0.mk ((q7_58 : w.heap.size ≤ gb528)); have n10_ := Aside0.mk ((q7_58 : w.heap.size ≤ gb528)); have n11_ := Aside0.mk ((q7_15 : gb511 ≠ gb528)); have n12_ := Aside0.mk ((q7_16 : gb528 ≠ gb511)); have n13_ := Aside0.mk ((q7_18 : gb516 ≠ gb528)); have n14_ := Aside0.mk ((q7_19 : gb528 ≠ gb516)); have n15_ := Aside0.mk ((q7_21 : gb521 ≠ gb528)); have n16_ := Aside0.mk ((q7_22 : gb528 ≠ gb521)); clear HO_512000; clear HO_517000; clear HO_522000; clear HO526; clear BK511; clear BK516; clear BK521; clear HB; have HO_512000 := n0_; have HO_517000 := n1_; have HO_522000 := n2_; have HO526 := n3_; have BK511 := n4_; have BK516 := n5_; have BK521 := n6_; have HB := n7_; have BK528 := n8_; have GW528 := n9_; have GE528 := n10_; have NB511_528 := n11_; have NB528_511 := n12_; have NB516_528 := n13_; have NB528_516 := n14_; have NB521_528 := n15_; have NB528_521 := n16_; clear n0_ n1_ n2_ n3_ n4_ n5_ n6_ n7_ n8_ n9_ n10_ n11_ n12_ n13_ n14_ n15_ n16_; clear hb hbox hg; obtain ⟨Ao82, co82, eo82⟩ := Kd.S_slice HO526.out; subst eo82; have hnb83 := NB528_511.out; have hnc83 := NB511_528.out; have hnb84 := NB528_516.out; have hnc84 := NB516_528.out; have hnb85 := NB528_521.out; have hnc85 := NB521_528.out; have hcz86_0 : w81.cell? ⟨gb528, 0, none⟩ = some (.slice none 0 0) := (blk_cell BK528.out 0).trans rfl; have hfz86_0 := blk_frozen BK528.out 0) | ((with_reducible refine gate_callee (f := 22) rfl ?_); refine goesL_ (some 84) rfl rfl Try.func22 (by kernel_rfl) rfl #[.agg #[.slice Ao82 t524.length co82], .int .i64 t509, .int .i64 (wrap64 (t510 - ((l1.length : Int) % (wrap64 (t510 + 1)))))] rfl q7_8 ?_; (with_reducible refine (impl_RoughAdd.calls kj8 _ _ t524 t509 (wrap64 (t510 - ((l1.length : Int) % (wrap64 (t510 + 1))))) t529 false _ ?side1 ?side2 A52.out).mono ?_); (case side1 => refine (Kd.S_reads' (e := 43) (base := w.heap.size) (ok := fun k_ => (((True ∧ some k_ ≠ (.slice Ao12 t506.length co12 : Value).ownBlock) ∧ some k_ ≠ (.slice Ao16 t512.length co16 : Value).ownBlock) ∧ some k_ ≠ (.slice Ao22 t517.length co22 : Value).ownBlock)) (n := t524.length) (c := co82) ?_).2.2; exact q7_27); (case side2 => exact (Kd.S_reads' HO526.out).2.1); rintro e w87 ⟨v530, rfl, ho0, hb⟩; refine ⟨_, rfl, ?_⟩; have n0_ := Aside0.mk (Kd.Q_elder' q7_43 (Kd.S_base ho0) hb); have n1_ := Aside0.mk (Kd.Q_elder' q7_44 (Kd.S_base ho0) hb); have n2_ := Aside0.mk (Kd.Q_elder' q7_45 (Kd.S_base ho0) hb); have n3_ := Aside0.mk (Kd.S_elder' q7_27 (Kd.S_base ho0) hb); have n4_ := Aside0.mk (Kd.S_lower (Kd.S_new' (Kd.S_new' (Kd.S_new' (Kd.S_new' ho0 (Kd.Q_lt q7_43)) (Kd.Q_lt q7_44)) (Kd.Q_lt q7_45)) (Kd.S_lt q7_27)) (below_size q7_1)); have n5_ := Aside0.mk (blk_below (g := gb511) (o := .cells #[.slice Ao12 t506.length co12] 25 (0, 0)) q7_28 hb); have n6_ := Aside0.mk (blk_below (g := gb516) (o := .cells #[.slice Ao16 t512.length co16] 25 (0, 0)) q7_29 hb); have n7_ := Aside0.mk (blk_below (g := gb521) (o := .cells #[.slice Ao22 t517.length co22] 25 (0, 0)) q7_30 hb); have n8_ := Aside0.mk (blk_below (g := gb528) (o := .cells #[.slice Ao82 t524.length co82] 25 (0, 0)) q7_20 hb); have n9_ := Aside0.mk (below_step q7_1 hb); clear HO_512000; clear HO_517000; clear HO_522000; clear HO526; clear BK511; clear BK516; clear BK521; clear BK528; clear HB; have HO_512000 := n0_; have HO_517000 := n1_; have HO_522000 := n2_; have HO526 := n3_; have HO531 := n4_; have BK511 := n5_; have BK516 := n6_; have BK521 := n7_; have BK528 := n8_; have HB := n9_; clear n0_ n1_ n2_ n3_ n4_ n5_ n6_ n7_ n8_ n9_; (try clear hb); (try clear hb2); (try clear hk); (try clear hi); (try clear ho0)) | ((with_reducible refine gate_dst (N := 15) rfl ?_); (try (refine gate_guard (by rfl) ?_; dsimp only)); refine box_event ?hg (N := 15) ?hd (cs := #[.slice none 0 0]) (t := 25) ?hr ?_; (case hd => rfl); (case hg => rfl); (case hr => exact q7_34); intro gb533 hg w88 hbox hb; have n0_ := Aside0.mk (Kd.Q_below q7_5 hb); have n1_ := Aside0.mk (Kd.Q_below q7_6 hb); have n2_ := Aside0.mk (Kd.Q_below q7_7 hb); have n3_ := Aside0.mk (Kd.S_below q7_31 hb); have n4_ := Aside0.mk (Kd.S_below q7_54 hb); have n5_ := Aside0.mk (blk_below (g := gb511) (o := .cells #[.slice Ao12 t506.length co12] 25 (0, 0)) q7_2 hb); have n6_ := Aside0.mk (blk_below (g := gb516) (o := .cells #[.slice Ao16 t512.length co16] 25 (0, 0)) q7_3 hb); have n7_ := Aside0.mk (blk_below (g := gb521) (o := .cells #[.slice Ao22 t517.length co22] 25 (0, 0)) q7_4 hb); have n8_ := Aside0.mk (blk_below (g := gb528) (o := .cells #[.slice Ao82 t524.length co82] 25 (0, 0)) q7_9 hb); have n9_ := Aside0.mk (below_step q7_1 hb); have n10_ := Aside0.mk (hbox); have n11_ := Aside0.mk ((q7_59 : w.heap.size ≤ gb533)); have n12_ := Aside0.mk ((q7_59 : w.heap.size ≤ gb533)); have n13_ := Aside0.mk ((q7_15 : gb511 ≠ gb533)); have n14_ := Aside0.mk ((q7_16 : gb533 ≠ gb511)); have n15_ := Aside0.mk ((q7_18 : gb516 ≠ gb533)); have n16_ := Aside0.mk ((q7_19 : gb533 ≠ gb516)); have n17_ := Aside0.mk ((q7_21 : gb521 ≠ gb533)); have n18_ := Aside0.mk ((q7_22 : gb533 ≠ gb521)); have n19_ := Aside0.mk ((by rw [hg]; exact Nat.ne_of_lt (blk_lt (g := gb528) (o := .cells #[.slice Ao82 t524.length co82] 25 (0, 0)) q7_9) : gb528 ≠ gb533)); have n20_ := Aside0.mk ((by rw [hg]; exact Nat.ne_of_gt (blk_lt (g := gb528) (o := .cells #[.slice Ao82 t524.length co82] 25 (0, 0)) q7_9) : gb533 ≠ gb528)); clear HO_512000; clear HO_517000; clear HO_522000; clear HO526; clear HO531; clear BK511; clear BK516; clear BK521; clear BK528; clear HB; have HO_512000 := n0_; have HO_517000 := n1_; have HO_522000 := n2_; have HO526 := n3_; have HO531 := n4_; have BK511 := n5_; have BK516 := n6_; have BK521 := n7_; have BK528 := n8_; have HB := n9_; have BK533 := n10_; have GW533 := n11_; have GE533 := n12_; have NB511_533 := n13_; have NB533_511 := n14_; have NB516_533 := n15_; have NB533_516 := n16_; have NB521_533 := n17_; have NB533_521 := n18_; have NB528_533 := n19_; have NB533_528 := n20_; clear n0_ n1_ n2_ n3_ n4_ n5_ n6_ n7_ n8_ n9_ n10_ n11_ n12_ n13_ n14_ n15_ n16_ n17_ n18_ n19_ n20_; clear hb hbox hg; obtain ⟨Ao89, co89, eo89⟩ := Kd.S_slice HO531.out; subst eo89; have hnb90 := NB533_511.out; have hnc90 := NB511_533.out; have hnb91 := NB533_516.out; have hnc91 := NB516_533.out; have hnb92 := NB533_521.out; have hnc92 := NB521_533.out; have hnb93 := NB533_528.out; have hnc93 := NB528_533.out; have hcz94_0 : w88.cell? ⟨gb533, 0, none⟩ = some (.slice none 0 0) := (blk_cell BK533.out 0).trans rfl; have hfz94_0 := blk_frozen BK533.out 0))
                    go_ret
                    exact ⟨q7_32, q7_11⟩
                · replace c53 := Bool.eq_false_iff.mpr c53
                  subst c53
                  have H1 : (some false) = some r := by rw [if_neg (show ¬ (false = true) by decide)] at H; exact H
                  clear H
                  have H := H1
                  clear H1
                  obtain rfl := Option.some.inj H
                  have hnb95 := NB511_516.out
                  have hnc95 := NB516_511.out
                  have hnb96 := NB511_521.out
                  have hnc96 := NB521_511.out
                  have hcz97_0 : wc.cell? ⟨gb511, 0, none⟩ = some (.slice Ao12 t506.length co12) := (blk_cell BK511.out 0).trans rfl
                  have hfz97_0 := blk_frozen BK511.out 0
                  go_wp2_with (first | ((with_reducible refine gate_callee (f := 22) rfl ?_); refine goesL_ (some 75) rfl rfl Try.func22 (by kernel_rfl) rfl #[.agg #[.slice Ao12 t506.length co12], .int .i64 t509, .int .i64 ((l1.length : Int) % (wrap64 (t510 + 1)))] rfl q7_8 ?_; (with_reducible refine (impl_RoughAdd.calls kj8 _ _ t506 t509 ((l1.length : Int) % (wrap64 (t510 + 1))) t524 false _ ?side1 ?side2 A51.out).mono ?_); (case side1 => exact q7_33); (case side2 => exact (Kd.Q_reads' HO_512000.out).2.1); rintro e w98 ⟨v525, rfl, ho0, hb⟩; refine ⟨_, rfl, ?_⟩; have n0_ := Aside0.mk (Kd.Q_elder' q7_5 (Kd.S_base ho0) hb); have n1_ := Aside0.mk (Kd.Q_elder' q7_6 (Kd.S_base ho0) hb); have n2_ := Aside0.mk (Kd.Q_elder' q7_7 (Kd.S_base ho0) hb); have n3_ := Aside0.mk (Kd.S_lower (Kd.S_new' (Kd.S_new' (Kd.S_new' ho0 (Kd.Q_lt q7_5)) (Kd.Q_lt q7_6)) (Kd.Q_lt q7_7)) (below_size q7_0)); have n4_ := Aside0.mk (blk_below (g := gb511) (o := .cells #[.slice Ao12 t506.length co12] 25 (0, 0)) q7_2 hb); have n5_ := Aside0.mk (blk_below (g := gb516) (o := .cells #[.slice Ao16 t512.length co16] 25 (0, 0)) q7_3 hb); have n6_ := Aside0.mk (blk_below (g := gb521) (o := .cells #[.slice Ao22 t517.length co22] 25 (0, 0)) q7_4 hb); have n7_ := Aside0.mk (below_step q7_0 hb); clear HO_512000; clear HO_517000; clear HO_522000; clear BK511; clear BK516; clear BK521; clear HB; have HO_512000 := n0_; have HO_517000 := n1_; have HO_522000 := n2_; have HO526 := n3_; have BK511 := n4_; have BK516 := n5_; have BK521 := n6_; have HB := n7_; clear n0_ n1_ n2_ n3_ n4_ n5_ n6_ n7_; (try clear hb); (try clear hb2); (try clear hk); (try clear hi); (try clear ho0)) | ((with_reducible refine gate_dst (N := 13) rfl ?_); (try (refine gate_guard (by rfl) ?_; dsimp only)); refine box_event ?hg (N := 13) ?hd (cs := #[.slice none 0 0]) (t := 25) ?hr ?_; (case hd => rfl); (case hg => rfl); (case hr => exact q7_34); intro gb528 hg w99 hbox hb; have n0_ := Aside0.mk (Kd.Q_below q7_5 hb); have n1_ := Aside0.mk (Kd.Q_below q7_6 hb); have n2_ := Aside0.mk (Kd.Q_below q7_7 hb); have n3_ := Aside0.mk (Kd.S_below q7_31 hb); have n4_ := Aside0.mk (blk_below (g := gb511) (o := .cells #[.slice Ao12 t506.length co12] 25 (0, 0)) q7_2 hb); have n5_ := Aside0.mk (blk_below (g := gb516) (o := .cells #[.slice Ao16 t512.length co16] 25 (0, 0)) q7_3 hb); have n6_ := Aside0.mk (blk_below (g := gb521) (o := .cells #[.slice Ao22 t517.length co22] 25 (0, 0)) q7_4 hb); have n7_ := Aside0.mk (below_step q7_0 hb); have n8_ := Aside0.mk (hbox); have n9_ := Aside0.mk ((q7_58 : w.heap.size ≤ gb528)); have n10_ := Aside0.mk ((q7_58 : w.heap.size ≤ gb528)); have n11_ := Aside0.mk ((q7_15 : gb511 ≠ gb528)); have n12_ := Aside0.mk ((q7_16 : gb528 ≠ gb511)); have n13_ := Aside0.mk ((q7_18 : gb516 ≠ gb528)); have n14_ := Aside0.mk ((q7_19 : gb528 ≠ gb516)); have n15_ := Aside0.mk ((q7_21 : gb521 ≠ gb528)); have n16_ := Aside0.mk ((q7_22 : gb528 ≠ gb521)); clear HO_512000; clear HO_517000; clear HO_522000; clear HO526; clear BK511; clear BK516; clear BK521; clear HB; have HO_512000 := n0_; have HO_517000 := n1_; have HO_522000 := n2_; have HO526 := n3_; have BK511 := n4_; have BK516 := n5_; have BK521 := n6_; have HB := n7_; have BK528 := n8_; have GW528 := n9_; have GE528 := n10_; have NB511_528 := n11_; have NB528_511 := n12_; have NB516_528 := n13_; have NB528_516 := n14_; have NB521_528 := n15_; have NB528_521 := n16_; clear n0_ n1_ n2_ n3_ n4_ n5_ n6_ n7_ n8_ n9_ n10_ n11_ n12_ n13_ n14_ n15_ n16_; clear hb hbox hg; obtain ⟨Ao100, co100, eo100⟩ := Kd.S_slice HO526.out; subst eo100; have hnb101 := NB528_511.out; have hnc101 := NB511_528.out; have hnb102 := NB528_516.out; have hnc102 := NB516_528.out; have hnb103 := NB528_521.out; have hnc103 := NB521_528.out; have hcz104_0 : w99.cell? ⟨gb528, 0, none⟩ = some (.slice none 0 0) := (blk_cell BK528.out 0).trans rfl; have hfz104_0 := blk_frozen BK528.out 0) | ((with_reducible refine gate_callee (f := 22) rfl ?_); refine goesL_ (some 84) rfl rfl Try.func22 (by kernel_rfl) rfl #[.agg #[.slice Ao100 t524.length co100], .int .i64 t509, .int .i64 (wrap64 (t510 - ((l1.length : Int) % (wrap64 (t510 + 1)))))] rfl q7_8 ?_; (with_reducible refine (impl_RoughAdd.calls kj8 _ _ t524 t509 (wrap64 (t510 - ((l1.length : Int) % (wrap64 (t510 + 1))))) t529 t532 _ ?side1 ?side2 A52.out).mono ?_); (case side1 => refine (Kd.S_reads' (e := 43) (base := w.heap.size) (ok := fun k_ => (((True ∧ some k_ ≠ (.slice Ao12 t506.length co12 : Value).ownBlock) ∧ some k_ ≠ (.slice Ao16 t512.length co16 : Value).ownBlock) ∧ some k_ ≠ (.slice Ao22 t517.length co22 : Value).ownBlock)) (n := t524.length) (c := co100) ?_).2.2; exact q7_23); (case side2 => exact (Kd.S_reads' HO526.out).2.1); rintro e w105 ⟨v530, rfl, ho0, hb⟩; refine ⟨_, rfl, ?_⟩; have n0_ := Aside0.mk (Kd.Q_elder' q7_36 (Kd.S_base ho0) hb); have n1_ := Aside0.mk (Kd.Q_elder' q7_37 (Kd.S_base ho0) hb); have n2_ := Aside0.mk (Kd.Q_elder' q7_38 (Kd.S_base ho0) hb); have n3_ := Aside0.mk (Kd.S_elder' q7_23 (Kd.S_base ho0) hb); have n4_ := Aside0.mk (Kd.S_lower (Kd.S_new' (Kd.S_new' (Kd.S_new' (Kd.S_new' ho0 (Kd.Q_lt q7_36)) (Kd.Q_lt q7_37)) (Kd.Q_lt q7_38)) (Kd.S_lt q7_23)) (below_size q7_1)); have n5_ := Aside0.mk (blk_below (g := gb511) (o := .cells #[.slice Ao12 t506.length co12] 25 (0, 0)) q7_28 hb); have n6_ := Aside0.mk (blk_below (g := gb516) (o := .cells #[.slice Ao16 t512.length co16] 25 (0, 0)) q7_29 hb); have n7_ := Aside0.mk (blk_below (g := gb521) (o := .cells #[.slice Ao22 t517.length co22] 25 (0, 0)) q7_30 hb); have n8_ := Aside0.mk (blk_below (g := gb528) (o := .cells #[.slice Ao100 t524.length co100] 25 (0, 0)) q7_20 hb); have n9_ := Aside0.mk (below_step q7_1 hb); clear HO_512000; clear HO_517000; clear HO_522000; clear HO526; clear BK511; clear BK516; clear BK521; clear BK528; clear HB; have HO_512000 := n0_; have HO_517000 := n1_; have HO_522000 := n2_; have HO526 := n3_; have HO531 := n4_; have BK511 := n5_; have BK516 := n6_; have BK521 := n7_; have BK528 := n8_; have HB := n9_; clear n0_ n1_ n2_ n3_ n4_ n5_ n6_ n7_ n8_ n9_; (try clear hb); (try clear hb2); (try clear hk); (try clear hi); (try clear ho0)) | ((with_reducible refine gate_dst (N := 15) rfl ?_); (try (refine gate_guard (by rfl) ?_; dsimp only)); refine box_event ?hg (N := 15) ?hd (cs := #[.slice none 0 0]) (t := 25) ?hr ?_; (case hd => rfl); (case hg => rfl); (case hr => exact q7_34); intro gb533 hg w106 hbox hb; have n0_ := Aside0.mk (Kd.Q_below q7_5 hb); have n1_ := Aside0.mk (Kd.Q_below q7_6 hb); have n2_ := Aside0.mk (Kd.Q_below q7_7 hb); have n3_ := Aside0.mk (Kd.S_below q7_31 hb); have n4_ := Aside0.mk (Kd.S_below q7_54 hb); have n5_ := Aside0.mk (blk_below (g := gb511) (o := .cells #[.slice Ao12 t506.length co12] 25 (0, 0)) q7_2 hb); have n6_ := Aside0.mk (blk_below (g := gb516) (o := .cells #[.slice Ao16 t512.length co16] 25 (0, 0)) q7_3 hb); have n7_ := Aside0.mk (blk_below (g := gb521) (o := .cells #[.slice Ao22 t517.length co22] 25 (0, 0)) q7_4 hb); have n8_ := Aside0.mk (blk_below (g := gb528) (o := .cells #[.slice Ao100 t524.length co100] 25 (0, 0)) q7_9 hb); have n9_ := Aside0.mk (below_step q7_1 hb); have n10_ := Aside0.mk (hbox); have n11_ := Aside0.mk ((q7_59 : w.heap.size ≤ gb533)); have n12_ := Aside0.mk ((q7_59 : w.heap.size ≤ gb533)); have n13_ := Aside0.mk ((q7_15 : gb511 ≠ gb533)); have n14_ := Aside0.mk ((q7_16 : gb533 ≠ gb511)); have n15_ := Aside0.mk ((q7_18 : gb516 ≠ gb533)); have n16_ := Aside0.mk ((q7_19 : gb533 ≠ gb516)); have n17_ := Aside0.mk ((q7_21 : gb521 ≠ gb533)); have n18_ := Aside0.mk ((q7_22 : gb533 ≠ gb521)); have n19_ := Aside0.mk ((by rw [hg]; exact Nat.ne_of_lt (blk_lt (g := gb528) (o := .cells #[.slice Ao100 t524.length co100] 25 (0, 0)) q7_9) : gb528 ≠ gb533)); have n20_ := Aside0.mk ((by rw [hg]; exact Nat.ne_of_gt (blk_lt (g := gb528) (o := .cells #[.slice Ao100 t524.length co100] 25 (0, 0)) q7_9) : gb533 ≠ gb528)); clear HO_512000; clear HO_517000; clear HO_522000; clear HO526; clear HO531; clear BK511; clear BK516; clear BK521; clear BK528; clear HB; have HO_512000 := n0_; have HO_517000 := n1_; have HO_522000 := n2_; have HO526 := n3_; have HO531 := n4_; have BK511 := n5_; have BK516 := n6_; have BK521 := n7_; have BK528 := n8_; have HB := n9_; have BK533 := n10_; have GW533 := n11_; have GE533 := n12_; have NB511_533 := n13_; have NB533_511 := n14_; have NB516_533 := n15_; have NB533_516 := n16_; have NB521_533 := n17_; have NB533_521 := n18_; have NB528_533 := n19_; have NB533_528 := n20_; clear n0_ n1_ n2_ n3_ n4_ n5_ n6_ n7_ n8_ n9_ n10_ n11_ n12_ n13_ n14_ n15_ n16_ n17_ n18_ n19_ n20_; clear hb hbox hg; obtain ⟨Ao107, co107, eo107⟩ := Kd.S_slice HO531.out; subst eo107; have hnb108 := NB533_511.out; have hnc108 := NB511_533.out; have hnb109 := NB533_516.out; have hnc109 := NB516_533.out; have hnb110 := NB533_521.out; have hnc110 := NB521_533.out; have hnb111 := NB533_528.out; have hnc111 := NB528_533.out; have hcz112_0 : w106.cell? ⟨gb533, 0, none⟩ = some (.slice none 0 0) := (blk_cell BK533.out 0).trans rfl; have hfz112_0 := blk_frozen BK533.out 0))
                  go_ret
                  exact ⟨q7_32, q7_11⟩

/-- THE ONE PURE STATEMENT of laws_FnRoughAddCut: yours. -/
def laws_FnRoughAddCut.Pure : Prop := ∀ (l0 : List Int) (l1 : List Int), l0.length ≤ maxLen → l0.length * 1 ≤ 140737488351232 → (∀ x ∈ l0, (Lit.int .u8 x).wf = true) → l1.length ≤ maxLen → l1.length * 1 ≤ 140737488351232 → (∀ x ∈ l1, (Lit.int .u8 x).wf = true) → ∃ k, laws_FnRoughAddCut.f k l0 l1 = some true
theorem laws_FnRoughAddCut.walk (P : laws_FnRoughAddCut.Pure) (a0 : Option Addr) (len0 cap0 : Nat) (z0 : List Int) (a1 : Option Addr) (len1 cap1 : Nat) (z1 : List Int) (w : World) (w0 : (a0 = none ∧ len0 = 0 ∧ cap0 = 0 ∧ z0 = []) ∨ ∃ x, a0 = some x ∧ len0 ≤ cap0 ∧ cap0 ≤ maxLen ∧ z0.length = cap0 ∧ (∀ i, i < z0.length → w.cell? (x.add i) = some (.int .u8 (z0.getD i 0))) ∧ ∀ n ∈ z0, (Lit.int .u8 n).wf = true) (y0 : len0 * 1 ≤ 140737488351232) (w1 : (a1 = none ∧ len1 = 0 ∧ cap1 = 0 ∧ z1 = []) ∨ ∃ x, a1 = some x ∧ len1 ≤ cap1 ∧ cap1 ≤ maxLen ∧ z1.length = cap1 ∧ (∀ i, i < z1.length → w.cell? (x.add i) = some (.int .u8 (z1.getD i 0))) ∧ ∀ n ∈ z1, (Lit.int .u8 n).wf = true) (y1 : len1 * 1 ≤ 140737488351232) :
    Calls Try.prog 7 #[.slice a0 len0 cap0, .slice a1 len1 cap1] w fun e w' => e = .returned (.bool true) ∧ Below w.heap.size w w' := by
  obtain ⟨l0, rfl, hr0, hm0, hw0, hc0⟩ := ReadsInt.ofRowC w0
  obtain ⟨l1, rfl, hr1, hm1, hw1, hc1⟩ := ReadsInt.ofRowC w1
  obtain ⟨k, h⟩ := P l0 l1 hm0 y0 hw0 hm1 y1 hw1
  refine (laws_FnRoughAddCut.calls k _ _ l0 _ _ l1 true w (Kd.C_of_reads (d := (0 : Int)) (h1 := fun _ => rfl) hr0) hc0 (Kd.C_of_reads (d := (0 : Int)) (h1 := fun _ => rfl) hr1) hc1 h).mono ?_
  rintro e w' ⟨rfl, hd⟩
  exact ⟨rfl, hd⟩

end Go.Proofs.Ytojhkhpgahhacaa.PA
