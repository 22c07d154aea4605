-- Made by a program of this session (wip/tools/pr2.sh) out of the translation, by way of the printer: shared by the seat's laws.
import Derived.Test.YtojhkhpgahhacaaPAx0
import Derived.Test.YtojhkhpgahhacaaPsz
import Derived.Test.YtojhkhpgahhacaaPto
import Derived.Test.YtojhkhpgahhacaaPeq
import Derived.Test.YtojhkhpgahhacaaPmark
import Derived.Test.YtojhkhpgahhacaaPheld
import Derived.Test.YtojhkhpgahhacaaPAx33
import Derived.Test.YtojhkhpgahhacaaPAx7
namespace Go.Proofs.Ytojhkhpgahhacaa.PA
open Go.Proofs.Ytojhkhpgahhacaa.H Go.RowKit Go.Proofs.YtojhkhpgahhacaaW.PrintWords Go.Proofs.YtojhkhpgahhacaaW.PrintLast Go.Proofs.YtojhkhpgahhacaaW.PrintMore
attribute [local go_sem] max2_int min2_int max_two min_two max_three min_three max_four min_four   -- for this text's walks alone
set_option linter.unusedVariables false
set_option linter.unusedSimpArgs false

/-! ### laws_FnExactRoughAdd: function 11 -/
mutual
def laws_FnExactRoughAdd.j0 : Nat → Int → Int → Bool → Bool → Bool → List (List Int) → List (List Int) → List (List Int) → List (List Int) → Option (Bool)
  | 0, _, _, _, _, _, _, _, _, _ => none
  | k + 1, x1, x2, x9, x12, x48, x336000, x345000, x349000, x354000 => if x48 = true then (some false) else ((laws_toRough.f k x336000).bind fun t355 => ((laws_eqRough.f k x349000 t355).bind fun t358 => (if t358 = true then ((laws_markRough.f k x349000 1).bind fun bt359 => (if bt359.1 < 0 then (laws_FnExactRoughAdd.j1 k x1 x2 x9 true x336000 x345000 x354000) else ((laws_eqRough.f k x354000 x345000).bind fun t361 => (if t361 = true then (laws_FnExactRoughAdd.j1 k x1 x2 x9 (x12 != x9) x336000 x345000 x354000) else (laws_FnExactRoughAdd.j1 k x1 x2 x9 true x336000 x345000 x354000))))) else (some false))))
def laws_FnExactRoughAdd.j1 : Nat → Int → Int → Bool → Bool → List (List Int) → List (List Int) → List (List Int) → Option (Bool)
  | 0, _, _, _, _, _, _, _ => none
  | k + 1, x1, x2, x9, x69, x336000, x345000, x354000 => if x69 = true then (some false) else ((laws_markRough.f k x354000 1).bind fun bt362 => ((laws_heldRough.f k bt362.2 1).bind fun t364 => (if t364 < 0 then (some false) else (if t364 = bt362.1 then ((laws_toRough.f k x336000).bind fun t365 => ((impl_RoughAdd.f k t365 x1 x2).bind fun bt368 => ((laws_eqRough.f k bt368.1 x345000).bind fun t373 => (if t373 = true then (laws_FnExactRoughAdd.j2 k bt362.1 (bt368.2 != x9) bt362.2) else (laws_FnExactRoughAdd.j2 k bt362.1 true bt362.2))))) else (some false)))))
def laws_FnExactRoughAdd.j2 : Nat → Int → Bool → List (List Int) → Option (Bool)
  | 0, _, _, _ => none
  | k + 1, x14, x97, x354000 => if x97 = true then (some false) else ((laws_heldRough.f k x354000 1).bind fun t374 => (if t374 < 0 then (some false) else (if t374 = x14 then (some true) else (some false))))
end
def laws_FnExactRoughAdd.f (k : Nat) (l0_0 : List (List Int)) (a1 : Int) (a2 : Int) : Option (Bool) := (laws_szRough.f k l0_0 1048576).bind fun t336 => (if t336 < 0 then (some true) else ((laws_toRough.f k l0_0).bind fun t337 => ((spec_RoughAdd.f k t337 a1 a2).bind fun bt340 => ((laws_toRough.f k l0_0).bind fun t345 => ((impl_RoughAdd.f k t345 a1 a2).bind fun bt349 => ((laws_eqRough.f k bt349.1 bt340.1).bind fun t354 => (if t354 = true then (laws_FnExactRoughAdd.j0 k a1 a2 bt340.2 bt349.2 (bt349.2 != bt340.2) l0_0 bt340.1 t345 bt349.1) else (laws_FnExactRoughAdd.j0 k a1 a2 bt340.2 bt349.2 true l0_0 bt340.1 t345 bt349.1))))))))
theorem laws_FnExactRoughAdd.mono_l : ∀ k, (∀ y0 y1 y2 y3 y4 y5 y6 y7 y8, LeO (laws_FnExactRoughAdd.j0 k y0 y1 y2 y3 y4 y5 y6 y7 y8) (laws_FnExactRoughAdd.j0 (k + 1) y0 y1 y2 y3 y4 y5 y6 y7 y8)) ∧ (∀ y0 y1 y2 y3 y4 y5 y6, LeO (laws_FnExactRoughAdd.j1 k y0 y1 y2 y3 y4 y5 y6) (laws_FnExactRoughAdd.j1 (k + 1) y0 y1 y2 y3 y4 y5 y6)) ∧ (∀ y0 y1 y2, LeO (laws_FnExactRoughAdd.j2 k y0 y1 y2) (laws_FnExactRoughAdd.j2 (k + 1) y0 y1 y2))
  | 0 => ⟨fun _ _ _ _ _ _ _ _ _ r h => by simp [laws_FnExactRoughAdd.j0] at h, fun _ _ _ _ _ _ _ r h => by simp [laws_FnExactRoughAdd.j1] at h, fun _ _ _ r h => by simp [laws_FnExactRoughAdd.j2] at h⟩
  | k + 1 => by
    obtain ⟨ih0, ih1, ih2⟩ := laws_FnExactRoughAdd.mono_l k
    refine ⟨?_, ?_, ?_⟩
    · intro y0 y1 y2 y3 y4 y5 y6 y7 y8
      unfold laws_FnExactRoughAdd.j0
      repeat' first
      | (with_reducible exact ih0 _ _ _ _ _ _ _ _ _)
      | (with_reducible exact ih1 _ _ _ _ _ _ _)
      | (with_reducible exact ih2 _ _ _)
      | (with_reducible exact impl_RoughAdd.mono _ _ _ _)
      | (with_reducible exact laws_eqRough.mono _ _ _)
      | (with_reducible exact laws_heldRough.mono _ _ _)
      | (with_reducible exact laws_markRough.mono _ _ _)
      | (with_reducible exact laws_szRough.mono _ _ _)
      | (with_reducible exact laws_toRough.mono _ _)
      | (with_reducible exact spec_RoughAdd.mono _ _ _ _)
      | (with_reducible exact LeO.refl _)
      | (with_reducible exact LeO.none _)
      | (with_reducible refine LeO.ite ?_ ?_)
      | (with_reducible refine LeO.bind ?_ (fun _ => ?_))
      | exact ih0 _ _ _ _ _ _ _ _ _
      | exact ih1 _ _ _ _ _ _ _
      | exact ih2 _ _ _
      | exact impl_RoughAdd.mono _ _ _ _
      | exact laws_eqRough.mono _ _ _
      | exact laws_heldRough.mono _ _ _
      | exact laws_markRough.mono _ _ _
      | exact laws_szRough.mono _ _ _
      | exact laws_toRough.mono _ _
      | exact spec_RoughAdd.mono _ _ _ _
      | exact LeO.none _
      | refine LeO.ite ?_ ?_
      | refine LeO.bind ?_ (fun _ => ?_)
    · intro y0 y1 y2 y3 y4 y5 y6
      unfold laws_FnExactRoughAdd.j1
      repeat' first
      | (with_reducible exact ih0 _ _ _ _ _ _ _ _ _)
      | (with_reducible exact ih1 _ _ _ _ _ _ _)
      | (with_reducible exact ih2 _ _ _)
      | (with_reducible exact impl_RoughAdd.mono _ _ _ _)
      | (with_reducible exact laws_eqRough.mono _ _ _)
      | (with_reducible exact laws_heldRough.mono _ _ _)
      | (with_reducible exact laws_markRough.mono _ _ _)
      | (with_reducible exact laws_szRough.mono _ _ _)
      | (with_reducible exact laws_toRough.mono _ _)
      | (with_reducible exact spec_RoughAdd.mono _ _ _ _)
      | (with_reducible exact LeO.refl _)
      | (with_reducible exact LeO.none _)
      | (with_reducible refine LeO.ite ?_ ?_)
      | (with_reducible refine LeO.bind ?_ (fun _ => ?_))
      | exact ih0 _ _ _ _ _ _ _ _ _
      | exact ih1 _ _ _ _ _ _ _
      | exact ih2 _ _ _
      | exact impl_RoughAdd.mono _ _ _ _
      | exact laws_eqRough.mono _ _ _
      | exact laws_heldRough.mono _ _ _
      | exact laws_markRough.mono _ _ _
      | exact laws_szRough.mono _ _ _
      | exact laws_toRough.mono _ _
      | exact spec_RoughAdd.mono _ _ _ _
      | exact LeO.none _
      | refine LeO.ite ?_ ?_
      | refine LeO.bind ?_ (fun _ => ?_)
    · intro y0 y1 y2
      unfold laws_FnExactRoughAdd.j2
      repeat' first
      | (with_reducible exact ih0 _ _ _ _ _ _ _ _ _)
      | (with_reducible exact ih1 _ _ _ _ _ _ _)
      | (with_reducible exact ih2 _ _ _)
      | (with_reducible exact impl_RoughAdd.mono _ _ _ _)
      | (with_reducible exact laws_eqRough.mono _ _ _)
      | (with_reducible exact laws_heldRough.mono _ _ _)
      | (with_reducible exact laws_markRough.mono _ _ _)
      | (with_reducible exact laws_szRough.mono _ _ _)
      | (with_reducible exact laws_toRough.mono _ _)
      | (with_reducible exact spec_RoughAdd.mono _ _ _ _)
      | (with_reducible exact LeO.refl _)
      | (with_reducible exact LeO.none _)
      | (with_reducible refine LeO.ite ?_ ?_)
      | (with_reducible refine LeO.bind ?_ (fun _ => ?_))
      | exact ih0 _ _ _ _ _ _ _ _ _
      | exact ih1 _ _ _ _ _ _ _
      | exact ih2 _ _ _
      | exact impl_RoughAdd.mono _ _ _ _
      | exact laws_eqRough.mono _ _ _
      | exact laws_heldRough.mono _ _ _
      | exact laws_markRough.mono _ _ _
      | exact laws_szRough.mono _ _ _
      | exact laws_toRough.mono _ _
      | exact spec_RoughAdd.mono _ _ _ _
      | exact LeO.none _
      | refine LeO.ite ?_ ?_
      | refine LeO.bind ?_ (fun _ => ?_)
theorem laws_FnExactRoughAdd.mono : ∀ a0 a1 a2 k, LeO (laws_FnExactRoughAdd.f k a0 a1 a2) (laws_FnExactRoughAdd.f (k + 1) a0 a1 a2) := by
  intro a0 a1 a2 k
  obtain ⟨ih0, ih1, ih2⟩ := laws_FnExactRoughAdd.mono_l k
  unfold laws_FnExactRoughAdd.f
  repeat' first
      | (with_reducible exact ih0 _ _ _ _ _ _ _ _ _)
      | (with_reducible exact ih1 _ _ _ _ _ _ _)
      | (with_reducible exact ih2 _ _ _)
      | (with_reducible exact impl_RoughAdd.mono _ _ _ _)
      | (with_reducible exact laws_eqRough.mono _ _ _)
      | (with_reducible exact laws_heldRough.mono _ _ _)
      | (with_reducible exact laws_markRough.mono _ _ _)
      | (with_reducible exact laws_szRough.mono _ _ _)
      | (with_reducible exact laws_toRough.mono _ _)
      | (with_reducible exact spec_RoughAdd.mono _ _ _ _)
      | (with_reducible exact LeO.refl _)
      | (with_reducible exact LeO.none _)
      | (with_reducible refine LeO.ite ?_ ?_)
      | (with_reducible refine LeO.bind ?_ (fun _ => ?_))
      | exact ih0 _ _ _ _ _ _ _ _ _
      | exact ih1 _ _ _ _ _ _ _
      | exact ih2 _ _ _
      | exact impl_RoughAdd.mono _ _ _ _
      | exact laws_eqRough.mono _ _ _
      | exact laws_heldRough.mono _ _ _
      | exact laws_markRough.mono _ _ _
      | exact laws_szRough.mono _ _ _
      | exact laws_toRough.mono _ _
      | exact spec_RoughAdd.mono _ _ _ _
      | exact LeO.none _
      | refine LeO.ite ?_ ?_
      | refine LeO.bind ?_ (fun _ => ?_)
theorem q11_0 {p : Prop} (h : p := by repeat (first | (with_reducible first | exact HB.out | apply below_alloc | apply pw_below_drewN | apply below_drew1 | refine below_set ?_ GE335.out | refine below_set ?_ GE344.out | refine below_set ?_ GE348.out | refine below_set ?_ GE353.out) | exact HB.out)) : p := h
theorem q11_1 {p : Prop} (h : p := by (with_reducible repeat (first | refine blk_drewN ?_ _ | refine blk_drew ?_ | refine blk_alloc ?_ _)); exact BK335.out) : p := h
theorem q11_2 {p : Prop} (h : p := by (try simp only [List.map_toArray, List.map_cons, List.map_nil]); first | done | rfl | (simp only [List.length_drop, List.length_take]; rfl)) : p := h
theorem q11_3 {p : Prop} (h : p := by (with_reducible repeat (first | refine blk_drewN ?_ _ | refine blk_drew ?_ | refine blk_alloc ?_ _)); exact BK344.out) : p := h
theorem q11_4 {p : Prop} (h : p := by repeat (first | (with_reducible first | exact HB.out | apply below_alloc | apply pw_below_drewN | apply below_drew1 | refine below_set ?_ GE335.out | refine below_set ?_ GE344.out | refine below_set ?_ GE348.out | refine below_set ?_ GE353.out | refine below_set ?_ GE372.out) | exact HB.out)) : p := h
theorem q11_5 {p : Prop} (h : p := by (with_reducible repeat (first | refine blk_drewN ?_ _ | refine blk_drew ?_ | refine blk_alloc ?_ _)); exact BK348.out) : p := h
theorem q11_6 {p : Prop} (h : p := by (with_reducible repeat (first | refine blk_drewN ?_ _ | refine blk_drew ?_ | refine blk_alloc ?_ _)); exact BK353.out) : p := h
theorem q11_7 {p : Prop} (h : p := by (with_reducible repeat (first | apply XS_alloc | apply XS_drewN | apply XS_drew)); exact HO_345000.out) : p := h
theorem q11_8 {p : Prop} (h : p := by (with_reducible repeat (first | apply XS_alloc | apply XS_drewN | apply XS_drew)); exact HO_349000.out) : p := h
theorem q11_9 {p : Prop} (h : p := by (with_reducible repeat (first | apply XS_alloc | apply XS_drewN | apply XS_drew)); exact HO_354000.out) : p := h
theorem q11_10 {p : Prop} (h : p := by repeat (first | (with_reducible first | exact HB.out | apply below_alloc | apply pw_below_drewN | apply below_drew1 | refine below_set ?_ GE335.out) | exact HB.out)) : p := h
theorem q11_11 {p : Prop} (h : p := by repeat (first | exact (XS_reads HO_354000.out).2.2 | (with_reducible refine Kd.C_alloc ?_ _) | (with_reducible refine Kd.C_drewN ?_ _) | (with_reducible refine Kd.C_drew ?_))) : p := h
theorem q11_12 {p : Prop} (h : p := by repeat (first | (with_reducible first | exact HB.out | apply below_alloc | apply pw_below_drewN | apply below_drew1 | refine below_set ?_ GE335.out | refine below_set ?_ GE344.out) | exact HB.out)) : p := h
theorem q11_13 {p : Prop} (h : p := by repeat (first | (with_reducible first | exact HB.out | apply below_alloc | apply pw_below_drewN | apply below_drew1 | refine below_set ?_ GE335.out | refine below_set ?_ GE344.out | refine below_set ?_ GE348.out) | exact HB.out)) : p := h
theorem q11_14 {p : Prop} (h : p := by repeat (first | exact (Kd.C_below HR0_0.out HB.out) | (with_reducible refine Kd.C_alloc ?_ _) | (with_reducible refine Kd.C_drewN ?_ _) | (with_reducible refine Kd.C_drew ?_))) : p := h
theorem q11_15 {p : Prop} (h : p := by first | rfl | (simp [errW_none, errW_some] <;> rfl) | (simp [*, errW_none, errW_some] <;> rfl)) : p := h
theorem q11_16 {p : Prop} (h : p := by (with_reducible repeat (first | apply XS_alloc | apply XS_drewN | apply XS_drew)); exact (XS_mono (XS_far (p := ⟨gb372, 0, none⟩) (XS_types HO_345000.out BK372.out (by decide)) (fun _ hk => hk.2) (.slice Ao120 t368.length co120)) (fun _ h_ => h_.1))) : p := h
theorem q11_17 {p : Prop} (h : p := by (with_reducible repeat (first | apply XS_alloc | apply XS_drewN | apply XS_drew)); exact (XS_mono (XS_far (p := ⟨gb372, 0, none⟩) (XS_types HO370.out BK372.out (by decide)) (fun _ hk => hk.2) (.slice Ao120 t368.length co120)) (fun _ h_ => h_.1))) : p := h
theorem q11_18 {p : Prop} (h : p := by (with_reducible repeat (first | apply XS_alloc | apply XS_drewN | apply XS_drew)); exact (XS_mono (XS_far (p := ⟨gb353, 0, none⟩) (XS_types HO351.out BK353.out (by decide)) (fun _ hk => hk.2) (.slice Ao34 t349.length co34)) (fun _ h_ => h_.1))) : p := h
theorem q11_19 {p : Prop} (h : p := by (with_reducible repeat (first | apply XS_alloc | apply XS_drewN | apply XS_drew)); exact (XS_mono (XS_far (p := ⟨gb353, 0, none⟩) (XS_types HO342.out BK353.out (by decide)) (fun _ hk => hk.2) (.slice Ao34 t349.length co34)) (fun _ h_ => h_.1))) : p := h
theorem q11_20 {p : Prop} (h : p := by repeat (first | (with_reducible first | exact HB.out | apply below_alloc | apply pw_below_drewN | apply below_drew1) | exact HB.out)) : p := h
theorem q11_21 {p : Prop} (h : p := by (with_reducible repeat (first | apply XS_alloc | apply XS_drewN | apply XS_drew)); exact (XS_mono (XS_far (p := ⟨gb348, 0, none⟩) (XS_types HO347.out BK348.out (by decide)) (fun _ hk => hk.2) (.slice Ao28 t345.length co28)) (fun _ h_ => h_.1))) : p := h
theorem q11_22 {p : Prop} (h : p := by (try simp only [List.map_toArray, List.map_cons, List.map_nil]); first | done | (rw [show t363.length = t349.length from (XS_reads HO_354000.out).1.symm] <;> rfl) | rfl | (simp only [List.length_drop, List.length_take]; rfl)) : p := h
theorem q11_23 {p : Prop} (h : p := by (with_reducible repeat (first | apply XS_alloc | apply XS_drewN | apply XS_drew)); exact HO339.out) : p := h
theorem q11_24 {p : Prop} (h : p := by rw [hg]; exact Nat.ne_of_lt (blk_lt (g := gb335) (o := .cells #[.slice A0_0 l0_0.length c0_0] 44 (0, 0)) q11_1)) : p := h
theorem q11_25 {p : Prop} (h : p := by rw [hg]; exact Nat.ne_of_gt (blk_lt (g := gb335) (o := .cells #[.slice A0_0 l0_0.length c0_0] 44 (0, 0)) q11_1)) : p := h
theorem q11_26 {p : Prop} (h : p := by (with_reducible repeat (first | apply XS_alloc | apply XS_drewN | apply XS_drew)); exact HO357.out) : p := h
theorem q11_27 {p : Prop} (h : p := by (with_reducible repeat (first | refine blk_drewN ?_ _ | refine blk_drew ?_ | refine blk_alloc ?_ _)); refine blk_put (cs := #[.slice none 0 0]) ?_ 0 _ rfl; (with_reducible repeat (first | refine blk_drewN ?_ _ | refine blk_drew ?_ | refine blk_alloc ?_ _)); exact BK353.out) : p := h
theorem q11_28 {p : Prop} (h : p := by (with_reducible repeat (first | refine blk_drewN ?_ _ | refine blk_drew ?_ | refine blk_alloc ?_ _)); refine blk_put (cs := #[.slice none 0 0]) ?_ 0 _ rfl; (with_reducible repeat (first | refine blk_drewN ?_ _ | refine blk_drew ?_ | refine blk_alloc ?_ _)); exact BK372.out) : p := h
theorem q11_29 {p : Prop} (h : p := by (with_reducible repeat (first | refine blk_drewN ?_ _ | refine blk_drew ?_ | refine blk_alloc ?_ _)); refine blk_far ?_ NB335_353.out _; (with_reducible repeat (first | refine blk_drewN ?_ _ | refine blk_drew ?_ | refine blk_alloc ?_ _)); exact BK335.out) : p := h
theorem q11_30 {p : Prop} (h : p := by (with_reducible repeat (first | refine blk_drewN ?_ _ | refine blk_drew ?_ | refine blk_alloc ?_ _)); refine blk_far ?_ NB344_353.out _; (with_reducible repeat (first | refine blk_drewN ?_ _ | refine blk_drew ?_ | refine blk_alloc ?_ _)); exact BK344.out) : p := h
theorem q11_31 {p : Prop} (h : p := by (with_reducible repeat (first | refine blk_drewN ?_ _ | refine blk_drew ?_ | refine blk_alloc ?_ _)); refine blk_far ?_ NB348_353.out _; (with_reducible repeat (first | refine blk_drewN ?_ _ | refine blk_drew ?_ | refine blk_alloc ?_ _)); exact BK348.out) : p := h
theorem q11_32 {p : Prop} (h : p := by (with_reducible repeat (first | refine blk_drewN ?_ _ | refine blk_drew ?_ | refine blk_alloc ?_ _)); refine blk_far ?_ NB335_372.out _; (with_reducible repeat (first | refine blk_drewN ?_ _ | refine blk_drew ?_ | refine blk_alloc ?_ _)); exact BK335.out) : p := h
theorem q11_33 {p : Prop} (h : p := by (with_reducible repeat (first | refine blk_drewN ?_ _ | refine blk_drew ?_ | refine blk_alloc ?_ _)); refine blk_far ?_ NB344_372.out _; (with_reducible repeat (first | refine blk_drewN ?_ _ | refine blk_drew ?_ | refine blk_alloc ?_ _)); exact BK344.out) : p := h
theorem q11_34 {p : Prop} (h : p := by (with_reducible repeat (first | refine blk_drewN ?_ _ | refine blk_drew ?_ | refine blk_alloc ?_ _)); refine blk_far ?_ NB348_372.out _; (with_reducible repeat (first | refine blk_drewN ?_ _ | refine blk_drew ?_ | refine blk_alloc ?_ _)); exact BK348.out) : p := h
theorem q11_35 {p : Prop} (h : p := by (with_reducible repeat (first | refine blk_drewN ?_ _ | refine blk_drew ?_ | refine blk_alloc ?_ _)); refine blk_far ?_ NB353_372.out _; (with_reducible repeat (first | refine blk_drewN ?_ _ | refine blk_drew ?_ | refine blk_alloc ?_ _)); exact BK353.out) : p := h
theorem q11_36 {p : Prop} (h : p := by (with_reducible repeat (first | apply XS_alloc | apply XS_drewN | apply XS_drew)); exact (XS_mono (XS_far (p := ⟨gb372, 0, none⟩) (XS_types HO_349000.out BK372.out (by decide)) (fun _ hk => hk.2) (.slice Ao120 t368.length co120)) (fun _ h_ => h_.1))) : p := h
theorem q11_37 {p : Prop} (h : p := by (with_reducible repeat (first | apply XS_alloc | apply XS_drewN | apply XS_drew)); exact (XS_mono (XS_far (p := ⟨gb372, 0, none⟩) (XS_types HO_354000.out BK372.out (by decide)) (fun _ hk => hk.2) (.slice Ao120 t368.length co120)) (fun _ h_ => h_.1))) : p := h
theorem q11_38 {p : Prop} (h : p := by (with_reducible repeat (first | apply XS_alloc | apply XS_drewN | apply XS_drew)); exact (XS_mono (XS_far (p := ⟨gb372, 0, none⟩) (XS_types HO367.out BK372.out (by decide)) (fun _ hk => hk.2) (.slice Ao120 t368.length co120)) (fun _ h_ => h_.1))) : p := h
theorem q11_39 {p : Prop} (h : p := by (with_reducible repeat (first | apply XS_alloc | apply XS_drewN | apply XS_drew)); exact (XS_mono (XS_far (p := ⟨gb344, 0, none⟩) (XS_types HO339.out BK344.out (by decide)) (fun _ hk => hk.2) (.slice Ao22 t340.length co22)) (fun _ h_ => h_.1))) : p := h
theorem q11_40 {p : Prop} (h : p := by (with_reducible repeat (first | apply XS_alloc | apply XS_drewN | apply XS_drew)); exact (XS_mono (XS_far (p := ⟨gb344, 0, none⟩) (XS_types HO342.out BK344.out (by decide)) (fun _ hk => hk.2) (.slice Ao22 t340.length co22)) (fun _ h_ => h_.1))) : p := h
theorem q11_41 {p : Prop} (h : p := by (with_reducible repeat (first | apply XS_alloc | apply XS_drewN | apply XS_drew)); exact (XS_mono (XS_far (p := ⟨gb348, 0, none⟩) (XS_types HO339.out BK348.out (by decide)) (fun _ hk => hk.2) (.slice Ao28 t345.length co28)) (fun _ h_ => h_.1))) : p := h
theorem q11_42 {p : Prop} (h : p := by (with_reducible repeat (first | apply XS_alloc | apply XS_drewN | apply XS_drew)); exact (XS_mono (XS_far (p := ⟨gb348, 0, none⟩) (XS_types HO342.out BK348.out (by decide)) (fun _ hk => hk.2) (.slice Ao28 t345.length co28)) (fun _ h_ => h_.1))) : p := h
theorem q11_43 {p : Prop} (h : p := by (with_reducible repeat (first | apply XS_alloc | apply XS_drewN | apply XS_drew)); exact (XS_mono (XS_far (p := ⟨gb353, 0, none⟩) (XS_types HO339.out BK353.out (by decide)) (fun _ hk => hk.2) (.slice Ao34 t349.length co34)) (fun _ h_ => h_.1))) : p := h
theorem q11_44 {p : Prop} (h : p := by (with_reducible repeat (first | apply XS_alloc | apply XS_drewN | apply XS_drew)); exact (XS_mono (XS_far (p := ⟨gb353, 0, none⟩) (XS_types HO347.out BK353.out (by decide)) (fun _ hk => hk.2) (.slice Ao34 t349.length co34)) (fun _ h_ => h_.1))) : p := h
theorem q11_45 {p : Prop} (h : p := by first | rfl | (simp; done) | (simp [*]; done)) : p := h
theorem q11_46 {p : Prop} (h : p := by (with_reducible repeat (first | refine blk_drewN ?_ _ | refine blk_drew ?_ | refine blk_alloc ?_ _)); exact BK372.out) : p := h
theorem q11_47 {p : Prop} (h : p := by rw [hg]; exact Nat.ne_of_lt (blk_lt (g := gb344) (o := .cells #[.slice Ao22 t340.length co22] 25 (0, 0)) q11_3)) : p := h
theorem q11_48 {p : Prop} (h : p := by rw [hg]; exact Nat.ne_of_gt (blk_lt (g := gb344) (o := .cells #[.slice Ao22 t340.length co22] 25 (0, 0)) q11_3)) : p := h
theorem q11_49 {p : Prop} (h : p := by rw [show t363.length = t349.length from (XS_reads HO_354000.out).1.symm]; exact (XS_reads HO_354000.out).2.1) : p := h
theorem q11_50 {p : Prop} (h : p := by (with_reducible repeat (first | apply XS_alloc | apply XS_drewN | apply XS_drew)); exact HO_373000.out) : p := h
theorem q11_51 {p : Prop} (h : p := by refine (XS_reads (F := F369) (base := w.heap.size) (ok := fun k_ => ((((True ∧ ¬ F341 k_) ∧ ¬ F346 k_) ∧ ¬ F350 k_) ∧ ¬ F366 k_)) (n := t368.length) (c := co120) ?_).2.2; exact q11_17) : p := h
theorem q11_52 {p : Prop} (h : p := by (with_reducible repeat (first | apply XS_alloc | apply XS_drewN | apply XS_drew)); exact HO342.out) : p := h
theorem q11_53 {p : Prop} (h : p := by (with_reducible repeat (first | apply XS_alloc | apply XS_drewN | apply XS_drew)); exact HO367.out) : p := h
theorem q11_54 {p : Prop} (h : p := by refine (XS_reads (F := F341) (base := w.heap.size) (ok := fun k_ => (((¬ F346 k_ ∧ ¬ F350 k_) ∧ ¬ F366 k_) ∧ ¬ F369 k_)) (n := t340.length) (c := co22) ?_).2.2; exact q11_16) : p := h
theorem q11_55 {p : Prop} (h : p := by refine (XS_reads (F := F350) (base := w.heap.size) (ok := fun k_ => (((True ∧ ¬ F338 k_) ∧ ¬ F341 k_) ∧ ¬ F346 k_)) (n := t349.length) (c := co34) ?_).2.2; exact q11_18) : p := h
theorem q11_56 {p : Prop} (h : p := by refine (XS_reads (F := F341) (base := w.heap.size) (ok := fun k_ => (((True ∧ ¬ F338 k_) ∧ ¬ F346 k_) ∧ ¬ F350 k_)) (n := t340.length) (c := co22) ?_).2.2; exact q11_19) : p := h
theorem q11_57 {p : Prop} (h : p := by first | (go_simp; done) | (go_simp; rfl)) : p := h
theorem q11_58 {p : Prop} (h : p := by repeat (first | exact (XS_reads HO_349000.out).2.2 | (with_reducible refine Kd.C_alloc ?_ _) | (with_reducible refine Kd.C_drewN ?_ _) | (with_reducible refine Kd.C_drew ?_))) : p := h
theorem q11_59 {p : Prop} (h : p := by repeat (first | exact (XS_reads HO_345000.out).2.2 | (with_reducible refine Kd.C_alloc ?_ _) | (with_reducible refine Kd.C_drewN ?_ _) | (with_reducible refine Kd.C_drew ?_))) : p := h
theorem q11_60 {p : Prop} (h : p := by repeat (first | exact (XS_reads HO357.out).2.2 | (with_reducible refine Kd.C_alloc ?_ _) | (with_reducible refine Kd.C_drewN ?_ _) | (with_reducible refine Kd.C_drew ?_))) : p := h
theorem q11_61 {p : Prop} (h : p := by (with_reducible repeat (first | apply XS_alloc | apply XS_drewN | apply XS_drew)); exact HO347.out) : p := h
set_option maxHeartbeats 8000000 in
set_option maxRecDepth 100000 in
theorem laws_FnExactRoughAdd.calls (k : Nat) (A0_0 : Option Addr) (c0_0 : Nat) (l0_0 : List (List Int)) (a1 : Int) (a2 : Int) (r : Bool) (w : World) (hr0_0 : Kd.C (Kd.slice 3 (Kd.int .i64)) w A0_0 l0_0.length l0_0) (hc0_0 : l0_0.length ≤ c0_0) (h : laws_FnExactRoughAdd.f k l0_0 a1 a2 = some r) :
    Calls Try.prog 11 #[.agg #[.slice A0_0 l0_0.length c0_0], .int .i64 a1, .int .i64 a2] w fun e w' => e = .returned (.bool r) ∧ Below w.heap.size w w' := by
  have hu44 := Try.underlying44
  have hu25 := Try.underlying25
  have HR0_0 := Aside0.mk hr0_0
  have HC0_0 := Aside0.mk hc0_0
  clear hr0_0 hc0_0
  have HB := Aside0.mk (Below.refl w.heap.size w)
  have H : ((laws_szRough.f k l0_0 1048576).bind fun t336 => (if t336 < 0 then (some true) else ((laws_toRough.f k l0_0).bind fun t337 => ((spec_RoughAdd.f k t337 a1 a2).bind fun bt340 => ((laws_toRough.f k l0_0).bind fun t345 => ((impl_RoughAdd.f k t345 a1 a2).bind fun bt349 => ((laws_eqRough.f k bt349.1 bt340.1).bind fun t354 => (if t354 = true then (laws_FnExactRoughAdd.j0 k a1 a2 bt340.2 bt349.2 (bt349.2 != bt340.2) l0_0 bt340.1 t345 bt349.1) else (laws_FnExactRoughAdd.j0 k a1 a2 bt340.2 bt349.2 true l0_0 bt340.1 t345 bt349.1))))))))) = some r := h
  clear h
  replace H := Option.bind_eq_some_iff.mp H
  obtain ⟨t336, A40, H⟩ := H
  replace H : (if t336 < 0 then (some true) else ((laws_toRough.f k l0_0).bind fun t337 => ((spec_RoughAdd.f k t337 a1 a2).bind fun bt340 => ((laws_toRough.f k l0_0).bind fun t345 => ((impl_RoughAdd.f k t345 a1 a2).bind fun bt349 => ((laws_eqRough.f k bt349.1 bt340.1).bind fun t354 => (if t354 = true then (laws_FnExactRoughAdd.j0 k a1 a2 bt340.2 bt349.2 (bt349.2 != bt340.2) l0_0 bt340.1 t345 bt349.1) else (laws_FnExactRoughAdd.j0 k a1 a2 bt340.2 bt349.2 true l0_0 bt340.1 t345 bt349.1)))))))) = some r := H
  have A4 := Aside0.mk A40
  clear A40
  by_cases c5 : t336 < 0
  · rw [if_pos c5] at H
    have c5b0 : decide (t336 < 0) = true := decide_eq_true c5
    clear c5
    obtain rfl := Option.some.inj H
    go_enter Try.func11, Try.ntmps11
    go_wp2_with (first | ((with_reducible refine gate_dst (N := 3) rfl ?_); refine box_event ?hg (N := 3) ?hd (cs := #[.slice A0_0 l0_0.length c0_0]) (t := 44) ?hr ?_; (case hd => rfl); (case hg => rfl); (case hr => exact q11_57); intro gb335 hg w6 hbox hb; have n0_ := Aside0.mk (below_step q11_20 hb); have n1_ := Aside0.mk (hbox); have n2_ := Aside0.mk ((by rw [hg]; exact (below_size q11_20) : w.heap.size ≤ gb335)); have n3_ := Aside0.mk ((by rw [hg]; exact (below_size q11_20) : w.heap.size ≤ gb335)); clear HB; have HB := n0_; have BK335 := n1_; have GW335 := n2_; have GE335 := n3_; clear n0_ n1_ n2_ n3_; clear hb hbox hg; have hcz7_0 : w6.cell? ⟨gb335, 0, none⟩ = some (.slice A0_0 l0_0.length c0_0) := (blk_cell BK335.out 0).trans rfl; have hfz7_0 := blk_frozen BK335.out 0) | ((with_reducible refine gate_callee (f := 26) rfl ?_); refine goesL_ (some 20) rfl rfl Try.func26 (by kernel_rfl) rfl #[.agg #[.slice A0_0 l0_0.length c0_0], .int .i64 1048576] rfl q11_2 ?_; (with_reducible refine (laws_szRough.calls k _ _ l0_0 1048576 t336 _ ?side1 ?side2 A4.out).mono ?_); (case side1 => exact q11_14); (case side2 => exact HC0_0.out); rintro e w8 ⟨rfl, hb⟩; refine ⟨_, rfl, ?_⟩; have n0_ := Aside0.mk (blk_below (g := gb335) (o := .cells #[.slice A0_0 l0_0.length c0_0] 44 (0, 0)) q11_1 hb); have n1_ := Aside0.mk (below_step q11_10 hb); clear BK335; clear HB; have BK335 := n0_; have HB := n1_; clear n0_ n1_; (try clear hb); (try clear hb2); (try clear hk); (try clear hi)))
    go_ret
    exact ⟨q11_15, q11_10⟩
  · rw [if_neg c5] at H
    have c5b0 : decide (t336 < 0) = false := decide_eq_false c5
    clear c5
    replace H := Option.bind_eq_some_iff.mp H
    obtain ⟨t337, A90, H⟩ := H
    replace H : ((spec_RoughAdd.f k t337 a1 a2).bind fun bt340 => ((laws_toRough.f k l0_0).bind fun t345 => ((impl_RoughAdd.f k t345 a1 a2).bind fun bt349 => ((laws_eqRough.f k bt349.1 bt340.1).bind fun t354 => (if t354 = true then (laws_FnExactRoughAdd.j0 k a1 a2 bt340.2 bt349.2 (bt349.2 != bt340.2) l0_0 bt340.1 t345 bt349.1) else (laws_FnExactRoughAdd.j0 k a1 a2 bt340.2 bt349.2 true l0_0 bt340.1 t345 bt349.1)))))) = some r := H
    have A9 := Aside0.mk A90
    clear A90
    replace H := Option.bind_eq_some_iff.mp H
    obtain ⟨⟨t340, t343⟩, A100, H⟩ := H
    replace H : ((laws_toRough.f k l0_0).bind fun t345 => ((impl_RoughAdd.f k t345 a1 a2).bind fun bt349 => ((laws_eqRough.f k bt349.1 t340).bind fun t354 => (if t354 = true then (laws_FnExactRoughAdd.j0 k a1 a2 t343 bt349.2 (bt349.2 != t343) l0_0 t340 t345 bt349.1) else (laws_FnExactRoughAdd.j0 k a1 a2 t343 bt349.2 true l0_0 t340 t345 bt349.1))))) = some r := H
    have A10 := Aside0.mk A100
    clear A100
    replace H := Option.bind_eq_some_iff.mp H
    obtain ⟨t345, A110, H⟩ := H
    replace H : ((impl_RoughAdd.f k t345 a1 a2).bind fun bt349 => ((laws_eqRough.f k bt349.1 t340).bind fun t354 => (if t354 = true then (laws_FnExactRoughAdd.j0 k a1 a2 t343 bt349.2 (bt349.2 != t343) l0_0 t340 t345 bt349.1) else (laws_FnExactRoughAdd.j0 k a1 a2 t343 bt349.2 true l0_0 t340 t345 bt349.1)))) = some r := H
    have A11 := Aside0.mk A110
    clear A110
    replace H := Option.bind_eq_some_iff.mp H
    obtain ⟨⟨t349, t352⟩, A120, H⟩ := H
    replace H : ((laws_eqRough.f k t349 t340).bind fun t354 => (if t354 = true then (laws_FnExactRoughAdd.j0 k a1 a2 t343 t352 (t352 != t343) l0_0 t340 t345 t349) else (laws_FnExactRoughAdd.j0 k a1 a2 t343 t352 true l0_0 t340 t345 t349))) = some r := H
    have A12 := Aside0.mk A120
    clear A120
    have HC13 := Aside0.mk H
    clear H
    go_enter Try.func11, Try.ntmps11
    go_upto_region 8 with (first | ((with_reducible refine gate_dst (N := 3) rfl ?_); refine box_event ?hg (N := 3) ?hd (cs := #[.slice A0_0 l0_0.length c0_0]) (t := 44) ?hr ?_; (case hd => rfl); (case hg => rfl); (case hr => exact q11_57); intro gb335 hg w14 hbox hb; have n0_ := Aside0.mk (below_step q11_20 hb); have n1_ := Aside0.mk (hbox); have n2_ := Aside0.mk ((by rw [hg]; exact (below_size q11_20) : w.heap.size ≤ gb335)); have n3_ := Aside0.mk ((by rw [hg]; exact (below_size q11_20) : w.heap.size ≤ gb335)); clear HB; have HB := n0_; have BK335 := n1_; have GW335 := n2_; have GE335 := n3_; clear n0_ n1_ n2_ n3_; clear hb hbox hg; have hcz15_0 : w14.cell? ⟨gb335, 0, none⟩ = some (.slice A0_0 l0_0.length c0_0) := (blk_cell BK335.out 0).trans rfl; have hfz15_0 := blk_frozen BK335.out 0) | ((with_reducible refine gate_callee (f := 26) rfl ?_); refine goesL_ (some 20) rfl rfl Try.func26 (by kernel_rfl) rfl #[.agg #[.slice A0_0 l0_0.length c0_0], .int .i64 1048576] rfl q11_2 ?_; (with_reducible refine (laws_szRough.calls k _ _ l0_0 1048576 t336 _ ?side1 ?side2 A4.out).mono ?_); (case side1 => exact q11_14); (case side2 => exact HC0_0.out); rintro e w16 ⟨rfl, hb⟩; refine ⟨_, rfl, ?_⟩; have n0_ := Aside0.mk (blk_below (g := gb335) (o := .cells #[.slice A0_0 l0_0.length c0_0] 44 (0, 0)) q11_1 hb); have n1_ := Aside0.mk (below_step q11_10 hb); clear BK335; clear HB; have BK335 := n0_; have HB := n1_; clear n0_ n1_; (try clear hb); (try clear hb2); (try clear hk); (try clear hi); have hcz17_0 : w16.cell? ⟨gb335, 0, none⟩ = some (.slice A0_0 l0_0.length c0_0) := (blk_cell BK335.out 0).trans rfl; have hfz17_0 := blk_frozen BK335.out 0) | ((with_reducible refine gate_callee (f := 27) rfl ?_); refine goesL_ (some 25) rfl rfl Try.func27 (by kernel_rfl) rfl #[.agg #[.slice A0_0 l0_0.length c0_0]] rfl q11_2 ?_; (with_reducible refine (laws_toRough.calls k _ _ l0_0 t337 _ ?side1 ?side2 A9.out).mono ?_); (case side1 => exact q11_14); (case side2 => exact HC0_0.out); rintro e w18 ⟨v338, rfl, ho0, hb⟩; obtain ⟨F338, hF0, ho0⟩ := XS_intro ho0; refine ⟨_, rfl, ?_⟩; have n0_ := Aside0.mk (XS_lower ho0 (below_size q11_10)); have n1_ := Aside0.mk (blk_below (g := gb335) (o := .cells #[.slice A0_0 l0_0.length c0_0] 44 (0, 0)) q11_1 hb); have n2_ := Aside0.mk (below_step q11_10 hb); clear BK335; clear HB; have HO339 := n0_; have BK335 := n1_; have HB := n2_; clear n0_ n1_ n2_; (try clear hb); (try clear hb2); (try clear hk); (try clear hi); (try clear ho0); (try clear hF0); obtain ⟨Ao19, co19, eo19⟩ := XS_slice HO339.out; subst eo19) | ((with_reducible refine gate_callee (f := 24) rfl ?_); refine goesL_ (some 28) rfl rfl Try.func24 (by kernel_rfl) rfl #[.agg #[.slice Ao19 t337.length co19], .int .i64 a1, .int .i64 a2] rfl q11_2 ?_; (with_reducible refine (spec_RoughAdd.calls k _ _ t337 a1 a2 t340 t343 _ ?side1 ?side2 A10.out).mono ?_); (case side1 => repeat (first | exact (XS_reads HO339.out).2.2 | (with_reducible refine Kd.C_alloc ?_ _) | (with_reducible refine Kd.C_drewN ?_ _) | (with_reducible refine Kd.C_drew ?_))); (case side2 => exact (XS_reads HO339.out).2.1); rintro e w20 ⟨v341, rfl, ho0, hb⟩; obtain ⟨F341, hF0, ho0⟩ := XS_intro ho0; refine ⟨_, rfl, ?_⟩; have n0_ := Aside0.mk (XS_elder q11_23 hF0 hb); have n1_ := Aside0.mk (XS_lower (XS_new ho0 (XS_lt q11_23)) (below_size q11_10)); have n2_ := Aside0.mk (blk_below (g := gb335) (o := .cells #[.slice A0_0 l0_0.length c0_0] 44 (0, 0)) q11_1 hb); have n3_ := Aside0.mk (below_step q11_10 hb); clear HO339; clear BK335; clear HB; have HO339 := n0_; have HO342 := n1_; have BK335 := n2_; have HB := n3_; clear n0_ n1_ n2_ n3_; (try clear hb); (try clear hb2); (try clear hk); (try clear hi); (try clear ho0); (try clear hF0)) | ((with_reducible refine gate_dst (N := 8) rfl ?_); refine box_event ?hg (N := 8) ?hd (cs := #[.slice none 0 0]) (t := 25) ?hr ?_; (case hd => rfl); (case hg => rfl); (case hr => exact q11_57); intro gb344 hg w21 hbox hb; have n0_ := Aside0.mk (XS_below q11_23 hb); have n1_ := Aside0.mk (XS_below q11_52 hb); have n2_ := Aside0.mk (blk_below (g := gb335) (o := .cells #[.slice A0_0 l0_0.length c0_0] 44 (0, 0)) q11_1 hb); have n3_ := Aside0.mk (below_step q11_10 hb); have n4_ := Aside0.mk (hbox); have n5_ := Aside0.mk ((by rw [hg]; exact (below_size q11_10) : w.heap.size ≤ gb344)); have n6_ := Aside0.mk ((by rw [hg]; exact (below_size q11_10) : w.heap.size ≤ gb344)); have n7_ := Aside0.mk ((q11_24 : gb335 ≠ gb344)); have n8_ := Aside0.mk ((q11_25 : gb344 ≠ gb335)); clear HO339; clear HO342; clear BK335; clear HB; have HO339 := n0_; have HO342 := n1_; have BK335 := n2_; have HB := n3_; have BK344 := n4_; have GW344 := n5_; have GE344 := n6_; have NB335_344 := n7_; have NB344_335 := n8_; clear n0_ n1_ n2_ n3_ n4_ n5_ n6_ n7_ n8_; clear hb hbox hg; obtain ⟨Ao22, co22, eo22⟩ := XS_slice HO342.out; subst eo22; have hnb23 := NB344_335.out; have hnc23 := NB335_344.out; have hcz24_0 : w21.cell? ⟨gb344, 0, none⟩ = some (.slice none 0 0) := (blk_cell BK344.out 0).trans rfl; have hfz24_0 := blk_frozen BK344.out 0; have hcz25_0 : w21.cell? ⟨gb335, 0, none⟩ = some (.slice A0_0 l0_0.length c0_0) := (blk_cell BK335.out 0).trans rfl; have hfz25_0 := blk_frozen BK335.out 0) | ((with_reducible refine gate_callee (f := 27) rfl ?_); refine goesL_ (some 32) rfl rfl Try.func27 (by kernel_rfl) rfl #[.agg #[.slice A0_0 l0_0.length c0_0]] rfl q11_2 ?_; (with_reducible refine (laws_toRough.calls k _ _ l0_0 t345 _ ?side1 ?side2 A11.out).mono ?_); (case side1 => exact Kd.C_below HR0_0.out q11_12); (case side2 => exact HC0_0.out); rintro e w26 ⟨v346, rfl, ho0, hb⟩; obtain ⟨F346, hF0, ho0⟩ := XS_intro ho0; refine ⟨_, rfl, ?_⟩; have n0_ := Aside0.mk (XS_elder q11_39 hF0 hb); have n1_ := Aside0.mk (XS_elder q11_40 hF0 hb); have n2_ := Aside0.mk (XS_lower (XS_new (XS_new ho0 (XS_lt q11_39)) (XS_lt q11_40)) (below_size q11_12)); have n3_ := Aside0.mk (blk_below (g := gb335) (o := .cells #[.slice A0_0 l0_0.length c0_0] 44 (0, 0)) (by (with_reducible repeat (first | refine blk_drewN ?_ _ | refine blk_drew ?_ | refine blk_alloc ?_ _)); refine blk_far ?_ NB335_344.out _; (with_reducible repeat (first | refine blk_drewN ?_ _ | refine blk_drew ?_ | refine blk_alloc ?_ _)); exact BK335.out) hb); have n4_ := Aside0.mk (blk_below (g := gb344) (o := .cells #[.slice Ao22 t340.length co22] 25 (0, 0)) (by (with_reducible repeat (first | refine blk_drewN ?_ _ | refine blk_drew ?_ | refine blk_alloc ?_ _)); refine blk_put (cs := #[.slice none 0 0]) ?_ 0 _ rfl; (with_reducible repeat (first | refine blk_drewN ?_ _ | refine blk_drew ?_ | refine blk_alloc ?_ _)); exact BK344.out) hb); have n5_ := Aside0.mk (below_step q11_12 hb); clear HO339; clear HO342; clear BK335; clear BK344; clear HB; have HO339 := n0_; have HO342 := n1_; have HO347 := n2_; have BK335 := n3_; have BK344 := n4_; have HB := n5_; clear n0_ n1_ n2_ n3_ n4_ n5_; (try clear hb); (try clear hb2); (try clear hk); (try clear hi); (try clear ho0); (try clear hF0)) | ((with_reducible refine gate_dst (N := 10) rfl ?_); refine box_event ?hg (N := 10) ?hd (cs := #[.slice none 0 0]) (t := 25) ?hr ?_; (case hd => rfl); (case hg => rfl); (case hr => exact q11_57); intro gb348 hg w27 hbox hb; have n0_ := Aside0.mk (XS_below q11_23 hb); have n1_ := Aside0.mk (XS_below q11_52 hb); have n2_ := Aside0.mk (XS_below q11_61 hb); have n3_ := Aside0.mk (blk_below (g := gb335) (o := .cells #[.slice A0_0 l0_0.length c0_0] 44 (0, 0)) q11_1 hb); have n4_ := Aside0.mk (blk_below (g := gb344) (o := .cells #[.slice Ao22 t340.length co22] 25 (0, 0)) q11_3 hb); have n5_ := Aside0.mk (below_step q11_12 hb); have n6_ := Aside0.mk (hbox); have n7_ := Aside0.mk ((by rw [hg]; exact (below_size q11_12) : w.heap.size ≤ gb348)); have n8_ := Aside0.mk ((by rw [hg]; exact (below_size q11_12) : w.heap.size ≤ gb348)); have n9_ := Aside0.mk ((q11_24 : gb335 ≠ gb348)); have n10_ := Aside0.mk ((q11_25 : gb348 ≠ gb335)); have n11_ := Aside0.mk ((q11_47 : gb344 ≠ gb348)); have n12_ := Aside0.mk ((q11_48 : gb348 ≠ gb344)); clear HO339; clear HO342; clear HO347; clear BK335; clear BK344; clear HB; have HO339 := n0_; have HO342 := n1_; have HO347 := n2_; have BK335 := n3_; have BK344 := n4_; have HB := n5_; have BK348 := n6_; have GW348 := n7_; have GE348 := n8_; have NB335_348 := n9_; have NB348_335 := n10_; have NB344_348 := n11_; have NB348_344 := n12_; clear n0_ n1_ n2_ n3_ n4_ n5_ n6_ n7_ n8_ n9_ n10_ n11_ n12_; clear hb hbox hg; obtain ⟨Ao28, co28, eo28⟩ := XS_slice HO347.out; subst eo28; have hnb29 := NB348_335.out; have hnc29 := NB335_348.out; have hnb30 := NB348_344.out; have hnc30 := NB344_348.out; have hcz31_0 : w27.cell? ⟨gb348, 0, none⟩ = some (.slice none 0 0) := (blk_cell BK348.out 0).trans rfl; have hfz31_0 := blk_frozen BK348.out 0) | ((with_reducible refine gate_callee (f := 22) rfl ?_); refine goesL_ (some 37) rfl rfl Try.func22 (by kernel_rfl) rfl #[.agg #[.slice Ao28 t345.length co28], .int .i64 a1, .int .i64 a2] rfl q11_2 ?_; (with_reducible refine (impl_RoughAdd.calls k _ _ t345 a1 a2 t349 t352 _ ?side1 ?side2 A12.out).mono ?_); (case side1 => refine (XS_reads (F := F346) (base := w.heap.size) (ok := fun k_ => ((True ∧ ¬ F338 k_) ∧ ¬ F341 k_)) (n := t345.length) (c := co28) ?_).2.2; exact q11_21); (case side2 => exact (XS_reads HO347.out).2.1); rintro e w32 ⟨v350, rfl, ho0, hb⟩; obtain ⟨F350, hF0, ho0⟩ := XS_intro ho0; refine ⟨_, rfl, ?_⟩; have n0_ := Aside0.mk (XS_elder q11_41 hF0 hb); have n1_ := Aside0.mk (XS_elder q11_42 hF0 hb); have n2_ := Aside0.mk (XS_elder q11_21 hF0 hb); have n3_ := Aside0.mk (XS_lower (XS_new (XS_new (XS_new ho0 (XS_lt q11_41)) (XS_lt q11_42)) (XS_lt q11_21)) (below_size q11_13)); have n4_ := Aside0.mk (blk_below (g := gb335) (o := .cells #[.slice A0_0 l0_0.length c0_0] 44 (0, 0)) (by (with_reducible repeat (first | refine blk_drewN ?_ _ | refine blk_drew ?_ | refine blk_alloc ?_ _)); refine blk_far ?_ NB335_348.out _; (with_reducible repeat (first | refine blk_drewN ?_ _ | refine blk_drew ?_ | refine blk_alloc ?_ _)); exact BK335.out) hb); have n5_ := Aside0.mk (blk_below (g := gb344) (o := .cells #[.slice Ao22 t340.length co22] 25 (0, 0)) (by (with_reducible repeat (first | refine blk_drewN ?_ _ | refine blk_drew ?_ | refine blk_alloc ?_ _)); refine blk_far ?_ NB344_348.out _; (with_reducible repeat (first | refine blk_drewN ?_ _ | refine blk_drew ?_ | refine blk_alloc ?_ _)); exact BK344.out) hb); have n6_ := Aside0.mk (blk_below (g := gb348) (o := .cells #[.slice Ao28 t345.length co28] 25 (0, 0)) (by (with_reducible repeat (first | refine blk_drewN ?_ _ | refine blk_drew ?_ | refine blk_alloc ?_ _)); refine blk_put (cs := #[.slice none 0 0]) ?_ 0 _ rfl; (with_reducible repeat (first | refine blk_drewN ?_ _ | refine blk_drew ?_ | refine blk_alloc ?_ _)); exact BK348.out) hb); have n7_ := Aside0.mk (below_step q11_13 hb); clear HO339; clear HO342; clear HO347; clear BK335; clear BK344; clear BK348; clear HB; have HO339 := n0_; have HO342 := n1_; have HO347 := n2_; have HO351 := n3_; have BK335 := n4_; have BK344 := n5_; have BK348 := n6_; have HB := n7_; clear n0_ n1_ n2_ n3_ n4_ n5_ n6_ n7_; (try clear hb); (try clear hb2); (try clear hk); (try clear hi); (try clear ho0); (try clear hF0)) | ((with_reducible refine gate_dst (N := 11) rfl ?_); refine box_event ?hg (N := 11) ?hd (cs := #[.slice none 0 0]) (t := 25) ?hr ?_; (case hd => rfl); (case hg => rfl); (case hr => exact q11_57); intro gb353 hg w33 hbox hb; have n0_ := Aside0.mk (XS_below q11_23 hb); have n1_ := Aside0.mk (XS_below q11_52 hb); have n2_ := Aside0.mk (XS_below q11_61 hb); have n3_ := Aside0.mk (XS_below (by (with_reducible repeat (first | apply XS_alloc | apply XS_drewN | apply XS_drew)); exact HO351.out) hb); have n4_ := Aside0.mk (blk_below (g := gb335) (o := .cells #[.slice A0_0 l0_0.length c0_0] 44 (0, 0)) q11_1 hb); have n5_ := Aside0.mk (blk_below (g := gb344) (o := .cells #[.slice Ao22 t340.length co22] 25 (0, 0)) q11_3 hb); have n6_ := Aside0.mk (blk_below (g := gb348) (o := .cells #[.slice Ao28 t345.length co28] 25 (0, 0)) q11_5 hb); have n7_ := Aside0.mk (below_step q11_13 hb); have n8_ := Aside0.mk (hbox); have n9_ := Aside0.mk ((by rw [hg]; exact (below_size q11_13) : w.heap.size ≤ gb353)); have n10_ := Aside0.mk ((by rw [hg]; exact (below_size q11_13) : w.heap.size ≤ gb353)); have n11_ := Aside0.mk ((q11_24 : gb335 ≠ gb353)); have n12_ := Aside0.mk ((q11_25 : gb353 ≠ gb335)); have n13_ := Aside0.mk ((q11_47 : gb344 ≠ gb353)); have n14_ := Aside0.mk ((q11_48 : gb353 ≠ gb344)); have n15_ := Aside0.mk ((by rw [hg]; exact Nat.ne_of_lt (blk_lt (g := gb348) (o := .cells #[.slice Ao28 t345.length co28] 25 (0, 0)) q11_5) : gb348 ≠ gb353)); have n16_ := Aside0.mk ((by rw [hg]; exact Nat.ne_of_gt (blk_lt (g := gb348) (o := .cells #[.slice Ao28 t345.length co28] 25 (0, 0)) q11_5) : gb353 ≠ gb348)); clear HO339; clear HO342; clear HO347; clear HO351; clear BK335; clear BK344; clear BK348; clear HB; have HO339 := n0_; have HO342 := n1_; have HO347 := n2_; have HO351 := n3_; have BK335 := n4_; have BK344 := n5_; have BK348 := n6_; have HB := n7_; have BK353 := n8_; have GW353 := n9_; have GE353 := n10_; have NB335_353 := n11_; have NB353_335 := n12_; have NB344_353 := n13_; have NB353_344 := n14_; have NB348_353 := n15_; have NB353_348 := n16_; clear n0_ n1_ n2_ n3_ n4_ n5_ n6_ n7_ n8_ n9_ n10_ n11_ n12_ n13_ n14_ n15_ n16_; clear hb hbox hg; obtain ⟨Ao34, co34, eo34⟩ := XS_slice HO351.out; subst eo34; have hnb35 := NB353_335.out; have hnc35 := NB335_353.out; have hnb36 := NB353_344.out; have hnc36 := NB344_353.out; have hnb37 := NB353_348.out; have hnc37 := NB348_353.out; have hcz38_0 : w33.cell? ⟨gb353, 0, none⟩ = some (.slice none 0 0) := (blk_cell BK353.out 0).trans rfl; have hfz38_0 := blk_frozen BK353.out 0))
    (try simp only [Act.put, List.setIfInBounds_toArray, List.set_cons_zero, List.set_cons_succ])
    go_cut [48] (fun v48 wc => ∃ (kq : Nat) (x48_12 : Bool), v48 = .bool x48_12 ∧ Aside0 (laws_FnExactRoughAdd.j0 kq a1 a2 t343 t352 x48_12 l0_0 t340 t345 t349 = some r) ∧ Aside0 (kq ≤ k) ∧ Aside0 (XS F341 wc w.heap.size (fun k_ => ¬ F346 k_ ∧ ¬ F350 k_) (.slice Ao22 t340.length co22) t340) ∧ Aside0 (XS F346 wc w.heap.size (fun k_ => ¬ F341 k_ ∧ ¬ F350 k_) (.slice Ao28 t345.length co28) t345) ∧ Aside0 (XS F350 wc w.heap.size (fun k_ => ¬ F341 k_ ∧ ¬ F346 k_) (.slice Ao34 t349.length co34) t349) ∧ Aside0 (wc.heap[gb335]? = some (.cells #[(.slice A0_0 l0_0.length c0_0)] 44 (0, 0))) ∧ Aside0 (wc.heap[gb344]? = some (.cells #[(.slice Ao22 t340.length co22)] 25 (0, 0))) ∧ Aside0 (wc.heap[gb348]? = some (.cells #[(.slice Ao28 t345.length co28)] 25 (0, 0))) ∧ Aside0 (wc.heap[gb353]? = some (.cells #[(.slice Ao34 t349.length co34)] 25 (0, 0))) ∧ Aside0 (Below w.heap.size w wc))
    case first =>
      have H := HC13.out
      clear HC13
      replace H := Option.bind_eq_some_iff.mp H
      obtain ⟨t354, A390, H⟩ := H
      replace H : (if t354 = true then (laws_FnExactRoughAdd.j0 k a1 a2 t343 t352 (t352 != t343) l0_0 t340 t345 t349) else (laws_FnExactRoughAdd.j0 k a1 a2 t343 t352 true l0_0 t340 t345 t349)) = some r := H
      have A39 := Aside0.mk A390
      clear A390
      by_cases c40 : t354 = true
      · subst c40
        have H1 : (laws_FnExactRoughAdd.j0 k a1 a2 t343 t352 (t352 != t343) l0_0 t340 t345 t349) = some r := by rw [if_pos rfl] at H; exact H
        clear H
        have H := H1
        clear H1
        have H' := Aside0.mk H
        clear H
        have hnb41 := NB353_335.out
        have hnc41 := NB335_353.out
        have hnb42 := NB353_344.out
        have hnc42 := NB344_353.out
        have hnb43 := NB353_348.out
        have hnc43 := NB348_353.out
        have hcz44_0 : w33.cell? ⟨gb353, 0, none⟩ = some (.slice none 0 0) := (blk_cell BK353.out 0).trans rfl
        have hfz44_0 := blk_frozen BK353.out 0
        have hnb45 := NB344_335.out
        have hnc45 := NB335_344.out
        have hnb46 := NB344_348.out
        have hnc46 := NB348_344.out
        have hcz47_0 : w33.cell? ⟨gb344, 0, none⟩ = some (.slice Ao22 t340.length co22) := (blk_cell BK344.out 0).trans rfl
        have hfz47_0 := blk_frozen BK344.out 0
        go_wp2_with (first | ((with_reducible refine gate_callee (f := 28) rfl ?_); refine goesL_ (some 42) rfl rfl Try.func28 (by kernel_rfl) rfl #[.agg #[.slice Ao34 t349.length co34], .agg #[.slice Ao22 t340.length co22]] rfl q11_2 ?_; (with_reducible refine (laws_eqRough.calls k _ _ t349 _ _ t340 true _ ?side1 ?side2 ?side3 ?side4 A39.out).mono ?_); (case side1 => exact q11_55); (case side2 => exact (XS_reads HO351.out).2.1); (case side3 => exact q11_56); (case side4 => exact (XS_reads HO342.out).2.1); rintro e w48 ⟨rfl, hb⟩; refine ⟨_, rfl, ?_⟩; have n0_ := Aside0.mk (XS_below q11_43 hb); have n1_ := Aside0.mk (XS_below q11_19 hb); have n2_ := Aside0.mk (XS_below q11_44 hb); have n3_ := Aside0.mk (XS_below q11_18 hb); have n4_ := Aside0.mk (blk_below (g := gb335) (o := .cells #[.slice A0_0 l0_0.length c0_0] 44 (0, 0)) q11_29 hb); have n5_ := Aside0.mk (blk_below (g := gb344) (o := .cells #[.slice Ao22 t340.length co22] 25 (0, 0)) q11_30 hb); have n6_ := Aside0.mk (blk_below (g := gb348) (o := .cells #[.slice Ao28 t345.length co28] 25 (0, 0)) q11_31 hb); have n7_ := Aside0.mk (blk_below (g := gb353) (o := .cells #[.slice Ao34 t349.length co34] 25 (0, 0)) q11_27 hb); have n8_ := Aside0.mk (below_step q11_0 hb); clear HO339; clear HO342; clear HO347; clear HO351; clear BK335; clear BK344; clear BK348; clear BK353; clear HB; have HO339 := n0_; have HO342 := n1_; have HO347 := n2_; have HO351 := n3_; have BK335 := n4_; have BK344 := n5_; have BK348 := n6_; have BK353 := n7_; have HB := n8_; clear n0_ n1_ n2_ n3_ n4_ n5_ n6_ n7_ n8_; (try clear hb); (try clear hb2); (try clear hk); (try clear hi)))
        go_meet
        case rel => exact ⟨_, ((t352 != t343)), q11_45, H', ⟨by first | omega | exact Nat.le_refl _⟩, ⟨by (with_reducible repeat (first | apply XS_alloc | apply XS_drewN | apply XS_drew)); exact XS_mono HO342.out (fun _ hk => ⟨hk.1.2, hk.2⟩)⟩, ⟨by (with_reducible repeat (first | apply XS_alloc | apply XS_drewN | apply XS_drew)); exact XS_mono HO347.out (fun _ hk => ⟨hk.1.2, hk.2⟩)⟩, ⟨by (with_reducible repeat (first | apply XS_alloc | apply XS_drewN | apply XS_drew)); exact XS_mono HO351.out (fun _ hk => ⟨hk.1.2, hk.2⟩)⟩, ⟨by (with_reducible repeat (first | refine blk_drewN ?_ _ | refine blk_drew ?_ | refine blk_alloc ?_ _)); exact BK335.out⟩, ⟨by (with_reducible repeat (first | refine blk_drewN ?_ _ | refine blk_drew ?_ | refine blk_alloc ?_ _)); exact BK344.out⟩, ⟨by (with_reducible repeat (first | refine blk_drewN ?_ _ | refine blk_drew ?_ | refine blk_alloc ?_ _)); exact BK348.out⟩, ⟨by (with_reducible repeat (first | refine blk_drewN ?_ _ | refine blk_drew ?_ | refine blk_alloc ?_ _)); exact BK353.out⟩, ⟨q11_0⟩⟩
      · replace c40 := Bool.eq_false_iff.mpr c40
        subst c40
        have H1 : (laws_FnExactRoughAdd.j0 k a1 a2 t343 t352 true l0_0 t340 t345 t349) = some r := by rw [if_neg (show ¬ (false = true) by decide)] at H; exact H
        clear H
        have H := H1
        clear H1
        have H' := Aside0.mk H
        clear H
        have hnb49 := NB353_335.out
        have hnc49 := NB335_353.out
        have hnb50 := NB353_344.out
        have hnc50 := NB344_353.out
        have hnb51 := NB353_348.out
        have hnc51 := NB348_353.out
        have hcz52_0 : w33.cell? ⟨gb353, 0, none⟩ = some (.slice none 0 0) := (blk_cell BK353.out 0).trans rfl
        have hfz52_0 := blk_frozen BK353.out 0
        have hnb53 := NB344_335.out
        have hnc53 := NB335_344.out
        have hnb54 := NB344_348.out
        have hnc54 := NB348_344.out
        have hcz55_0 : w33.cell? ⟨gb344, 0, none⟩ = some (.slice Ao22 t340.length co22) := (blk_cell BK344.out 0).trans rfl
        have hfz55_0 := blk_frozen BK344.out 0
        go_wp2_with (first | ((with_reducible refine gate_callee (f := 28) rfl ?_); refine goesL_ (some 42) rfl rfl Try.func28 (by kernel_rfl) rfl #[.agg #[.slice Ao34 t349.length co34], .agg #[.slice Ao22 t340.length co22]] rfl q11_2 ?_; (with_reducible refine (laws_eqRough.calls k _ _ t349 _ _ t340 false _ ?side1 ?side2 ?side3 ?side4 A39.out).mono ?_); (case side1 => exact q11_55); (case side2 => exact (XS_reads HO351.out).2.1); (case side3 => exact q11_56); (case side4 => exact (XS_reads HO342.out).2.1); rintro e w56 ⟨rfl, hb⟩; refine ⟨_, rfl, ?_⟩; have n0_ := Aside0.mk (XS_below q11_43 hb); have n1_ := Aside0.mk (XS_below q11_19 hb); have n2_ := Aside0.mk (XS_below q11_44 hb); have n3_ := Aside0.mk (XS_below q11_18 hb); have n4_ := Aside0.mk (blk_below (g := gb335) (o := .cells #[.slice A0_0 l0_0.length c0_0] 44 (0, 0)) q11_29 hb); have n5_ := Aside0.mk (blk_below (g := gb344) (o := .cells #[.slice Ao22 t340.length co22] 25 (0, 0)) q11_30 hb); have n6_ := Aside0.mk (blk_below (g := gb348) (o := .cells #[.slice Ao28 t345.length co28] 25 (0, 0)) q11_31 hb); have n7_ := Aside0.mk (blk_below (g := gb353) (o := .cells #[.slice Ao34 t349.length co34] 25 (0, 0)) q11_27 hb); have n8_ := Aside0.mk (below_step q11_0 hb); clear HO339; clear HO342; clear HO347; clear HO351; clear BK335; clear BK344; clear BK348; clear BK353; clear HB; have HO339 := n0_; have HO342 := n1_; have HO347 := n2_; have HO351 := n3_; have BK335 := n4_; have BK344 := n5_; have BK348 := n6_; have BK353 := n7_; have HB := n8_; clear n0_ n1_ n2_ n3_ n4_ n5_ n6_ n7_ n8_; (try clear hb); (try clear hb2); (try clear hk); (try clear hi)))
        go_meet
        case rel => exact ⟨_, (true), q11_45, H', ⟨by first | omega | exact Nat.le_refl _⟩, ⟨by (with_reducible repeat (first | apply XS_alloc | apply XS_drewN | apply XS_drew)); exact XS_mono HO342.out (fun _ hk => ⟨hk.1.2, hk.2⟩)⟩, ⟨by (with_reducible repeat (first | apply XS_alloc | apply XS_drewN | apply XS_drew)); exact XS_mono HO347.out (fun _ hk => ⟨hk.1.2, hk.2⟩)⟩, ⟨by (with_reducible repeat (first | apply XS_alloc | apply XS_drewN | apply XS_drew)); exact XS_mono HO351.out (fun _ hk => ⟨hk.1.2, hk.2⟩)⟩, ⟨by (with_reducible repeat (first | refine blk_drewN ?_ _ | refine blk_drew ?_ | refine blk_alloc ?_ _)); exact BK335.out⟩, ⟨by (with_reducible repeat (first | refine blk_drewN ?_ _ | refine blk_drew ?_ | refine blk_alloc ?_ _)); exact BK344.out⟩, ⟨by (with_reducible repeat (first | refine blk_drewN ?_ _ | refine blk_drew ?_ | refine blk_alloc ?_ _)); exact BK348.out⟩, ⟨by (with_reducible repeat (first | refine blk_drewN ?_ _ | refine blk_drew ?_ | refine blk_alloc ?_ _)); exact BK353.out⟩, ⟨q11_0⟩⟩
    case rest =>
      clear HC13
      try clear c1
      try clear c2
      try clear p2
      try clear c3
      try clear c4
      try clear c5
      try clear c5b0
      try clear c11
      try clear c22
      try clear c23
      try clear c24
      try clear c26
      try clear c27
      try clear c28
      try clear c29
      try clear c30
      try clear c35
      try clear c36
      try clear c37
      try clear c40
      try clear c41
      try clear c42
      try clear c43
      try clear c45
      try clear c46
      try clear c49
      try clear c50
      try clear c51
      try clear c53
      try clear c54
      try clear hcz15_0
      try clear hcz17_0
      try clear hcz24_0
      try clear hcz25_0
      try clear hcz31_0
      try clear hcz38_0
      try clear hcz44_0
      try clear hcz47_0
      try clear hcz52_0
      try clear hcz55_0
      try clear hcz7_0
      try clear hfz15_0
      try clear hfz17_0
      try clear hfz24_0
      try clear hfz25_0
      try clear hfz31_0
      try clear hfz38_0
      try clear hfz44_0
      try clear hfz47_0
      try clear hfz52_0
      try clear hfz55_0
      try clear hfz7_0
      obtain ⟨kq, x48_12, rfl, HA, HJ12, HO_345000, HO_349000, HO_354000, BK335, BK344, BK348, BK353, HB⟩ := hcut
      cases kq with
      | zero => exact absurd HA.out (by simp [laws_FnExactRoughAdd.j0])
      | succ kj12 =>
        have H := HA.out
        clear HA
        simp only [laws_FnExactRoughAdd.j0] at H
        by_cases c57 : x48_12 = true
        · subst c57
          have H1 : (some false) = some r := by rw [if_pos rfl] at H; exact H
          clear H
          have H := H1
          clear H1
          obtain rfl := Option.some.inj H
          go_wp2
          go_ret
          exact ⟨q11_15, q11_0⟩
        · replace c57 := Bool.eq_false_iff.mpr c57
          subst c57
          have H1 : ((laws_toRough.f kj12 l0_0).bind fun t355 => ((laws_eqRough.f kj12 t345 t355).bind fun t358 => (if t358 = true then ((laws_markRough.f kj12 t345 1).bind fun bt359 => (if bt359.1 < 0 then (laws_FnExactRoughAdd.j1 kj12 a1 a2 t343 true l0_0 t340 t349) else ((laws_eqRough.f kj12 t349 t340).bind fun t361 => (if t361 = true then (laws_FnExactRoughAdd.j1 kj12 a1 a2 t343 (t352 != t343) l0_0 t340 t349) else (laws_FnExactRoughAdd.j1 kj12 a1 a2 t343 true l0_0 t340 t349))))) else (some false)))) = some r := by rw [if_neg (show ¬ (false = true) by decide)] at H; exact H
          clear H
          have H := H1
          clear H1
          replace H := Option.bind_eq_some_iff.mp H
          obtain ⟨t355, A580, H⟩ := H
          replace H : ((laws_eqRough.f kj12 t345 t355).bind fun t358 => (if t358 = true then ((laws_markRough.f kj12 t345 1).bind fun bt359 => (if bt359.1 < 0 then (laws_FnExactRoughAdd.j1 kj12 a1 a2 t343 true l0_0 t340 t349) else ((laws_eqRough.f kj12 t349 t340).bind fun t361 => (if t361 = true then (laws_FnExactRoughAdd.j1 kj12 a1 a2 t343 (t352 != t343) l0_0 t340 t349) else (laws_FnExactRoughAdd.j1 kj12 a1 a2 t343 true l0_0 t340 t349))))) else (some false))) = some r := H
          have A58 := Aside0.mk A580
          clear A580
          replace H := Option.bind_eq_some_iff.mp H
          obtain ⟨t358, A590, H⟩ := H
          replace H : (if t358 = true then ((laws_markRough.f kj12 t345 1).bind fun bt359 => (if bt359.1 < 0 then (laws_FnExactRoughAdd.j1 kj12 a1 a2 t343 true l0_0 t340 t349) else ((laws_eqRough.f kj12 t349 t340).bind fun t361 => (if t361 = true then (laws_FnExactRoughAdd.j1 kj12 a1 a2 t343 (t352 != t343) l0_0 t340 t349) else (laws_FnExactRoughAdd.j1 kj12 a1 a2 t343 true l0_0 t340 t349))))) else (some false)) = some r := H
          have A59 := Aside0.mk A590
          clear A590
          by_cases c60 : t358 = true
          · subst c60
            have H1 : ((laws_markRough.f kj12 t345 1).bind fun bt359 => (if bt359.1 < 0 then (laws_FnExactRoughAdd.j1 kj12 a1 a2 t343 true l0_0 t340 t349) else ((laws_eqRough.f kj12 t349 t340).bind fun t361 => (if t361 = true then (laws_FnExactRoughAdd.j1 kj12 a1 a2 t343 (t352 != t343) l0_0 t340 t349) else (laws_FnExactRoughAdd.j1 kj12 a1 a2 t343 true l0_0 t340 t349))))) = some r := by rw [if_pos rfl] at H; exact H
            clear H
            have H := H1
            clear H1
            replace H := Option.bind_eq_some_iff.mp H
            obtain ⟨⟨t359, t360⟩, A610, H⟩ := H
            replace H : (if t359 < 0 then (laws_FnExactRoughAdd.j1 kj12 a1 a2 t343 true l0_0 t340 t349) else ((laws_eqRough.f kj12 t349 t340).bind fun t361 => (if t361 = true then (laws_FnExactRoughAdd.j1 kj12 a1 a2 t343 (t352 != t343) l0_0 t340 t349) else (laws_FnExactRoughAdd.j1 kj12 a1 a2 t343 true l0_0 t340 t349)))) = some r := H
            have A61 := Aside0.mk A610
            clear A610
            have HC62 := Aside0.mk H
            clear H
            try go_wp2
            have n0_ := Aside0.mk (XS_drew HO_345000.out)
            have n1_ := Aside0.mk (XS_drew HO_349000.out)
            have n2_ := Aside0.mk (XS_drew HO_354000.out)
            have n3_ := Aside0.mk (blk_drew BK335.out)
            have n4_ := Aside0.mk (blk_drew BK344.out)
            have n5_ := Aside0.mk (blk_drew BK348.out)
            have n6_ := Aside0.mk (blk_drew BK353.out)
            have n7_ := Aside0.mk (below_drew1 HB.out)
            clear HO_345000
            clear HO_349000
            clear HO_354000
            clear BK335
            clear BK344
            clear BK348
            clear BK353
            clear HB
            have HO_345000 := n0_
            have HO_349000 := n1_
            have HO_354000 := n2_
            have BK335 := n3_
            have BK344 := n4_
            have BK348 := n5_
            have BK353 := n6_
            have HB := n7_
            clear n0_ n1_ n2_ n3_ n4_ n5_ n6_ n7_
            refine start_ (n := 5) (S := fun w' => w'.cell? ⟨gb348, 0, none⟩ = some (.slice Ao28 t345.length co28) ∧ w'.cell? ⟨gb335, 0, none⟩ = some (.slice A0_0 l0_0.length c0_0)) (ds := []) #[false, false, false, false, false] (by kernel_rfl) rfl rfl ⟨(blk_cell BK348.out 0).trans rfl, (blk_cell BK335.out 0).trans rfl⟩ (fun hHeld => ?_)
            generalize wc.drew = w63 at HO_345000 HO_349000 HO_354000 BK335 BK344 BK348 BK353 HB hHeld ⊢
            refine take_ (i := 0) (N := some 49) (v := ?_) (a' := ?_) #[true, false, false, false, false] rfl rfl (by kernel_rfl) (fun _ _ _ h => h) (Or.inl ⟨by rfl, ?_⟩) hHeld ?_ ?_
            rotate_left
            · rintro w' ⟨s0, s1⟩
              go_simp
              with_reducible rfl
            rotate_left
            · simp only [Act.put, List.setIfInBounds_toArray, List.set_cons_zero, List.set_cons_succ, i64_w, i32_w]
              rfl
            refine take_ (i := 1) (N := some 50) (v := ?_) (a' := ?_) #[true, true, false, false, false] rfl rfl (by kernel_rfl) (fun _ _ _ h => h) (Or.inl ⟨by rfl, ?_⟩) hHeld ?_ ?_
            rotate_left
            · rintro w' ⟨s0, s1⟩
              go_simp
              with_reducible rfl
            rotate_left
            · simp only [Act.put, List.setIfInBounds_toArray, List.set_cons_zero, List.set_cons_succ, i64_w, i32_w]
              rfl
            refine one_ (i := 2) (N := some 51) #[true, true, true, false, false] rfl rfl (by kernel_rfl) (by decide) (fun K hK => ?_)
            refine goes_ Try.func27 (by kernel_rfl) rfl #[.agg #[.slice A0_0 l0_0.length c0_0]] (by rfl) rfl rfl q11_2 ?_
            with_reducible refine (laws_toRough.calls kj12 _ _ l0_0 t355 _ ?side1 ?side2 A58.out).mono ?_
            (case side1 => exact q11_14)
            (case side2 => exact HC0_0.out)
            rintro e w64 ⟨v356, rfl, ho0, hb⟩; obtain ⟨F356, hF0, ho0⟩ := XS_intro ho0
            refine ⟨_, rfl, ?_⟩
            have n0_ := Aside0.mk (XS_elder q11_7 hF0 hb)
            have n1_ := Aside0.mk (XS_elder q11_8 hF0 hb)
            have n2_ := Aside0.mk (XS_elder q11_9 hF0 hb)
            have n3_ := Aside0.mk (XS_lower (XS_new (XS_new (XS_new ho0 (XS_lt q11_7)) (XS_lt q11_8)) (XS_lt q11_9)) (below_size q11_0))
            have n4_ := Aside0.mk (blk_below (g := gb335) (o := .cells #[.slice A0_0 l0_0.length c0_0] 44 (0, 0)) q11_1 hb)
            have n5_ := Aside0.mk (blk_below (g := gb344) (o := .cells #[.slice Ao22 t340.length co22] 25 (0, 0)) q11_3 hb)
            have n6_ := Aside0.mk (blk_below (g := gb348) (o := .cells #[.slice Ao28 t345.length co28] 25 (0, 0)) q11_5 hb)
            have n7_ := Aside0.mk (blk_below (g := gb353) (o := .cells #[.slice Ao34 t349.length co34] 25 (0, 0)) q11_6 hb)
            have n8_ := Aside0.mk (below_step q11_0 hb)
            clear HO_345000
            clear HO_349000
            clear HO_354000
            clear BK335
            clear BK344
            clear BK348
            clear BK353
            clear HB
            have HO_345000 := n0_
            have HO_349000 := n1_
            have HO_354000 := n2_
            have HO357 := n3_
            have BK335 := n4_
            have BK344 := n5_
            have BK348 := n6_
            have BK353 := n7_
            have HB := n8_
            clear n0_ n1_ n2_ n3_ n4_ n5_ n6_ n7_ n8_
            (try clear hb)
            (try clear hb2)
            (try clear hk)
            (try clear hi)
            (try clear ho0); (try clear hF0)
            obtain ⟨Ao65, co65, eo65⟩ := XS_slice HO357.out
            (first | subst eo65 | (injection eo65 with f1_ f2_ f3_; have f4_ := f1_.symm; have f5_ := f3_.symm; clear f1_ f2_ f3_; subst f4_; subst f5_))
            refine hK.out _ _ ⟨(blk_cell BK348.out 0).trans rfl, (blk_cell BK335.out 0).trans rfl⟩ (fun hHeld => ?_)
            clear hK K
            refine norm_ (a' := ?_) ?_ ?_
            rotate_left
            · show Act.put _ (some 51) _ = _
              simp only [Act.put, List.setIfInBounds_toArray, List.set_cons_zero, List.set_cons_succ, i64_w, i32_w]
              rfl
            refine one_ (i := 3) (N := some 52) #[true, true, true, true, false] rfl rfl (by kernel_rfl) (by decide) (fun K hK => ?_)
            refine goes_ Try.func28 (by kernel_rfl) rfl #[.agg #[.slice Ao28 t345.length co28], .agg #[.slice Ao65 t355.length co65]] (by rfl) rfl rfl q11_2 ?_
            with_reducible refine (laws_eqRough.calls kj12 _ _ t345 _ _ t355 true _ ?side1 ?side2 ?side3 ?side4 A59.out).mono ?_
            (case side1 => exact q11_58)
            (case side2 => exact (XS_reads HO_349000.out).2.1)
            (case side3 => exact q11_60)
            (case side4 => exact (XS_reads HO357.out).2.1)
            rintro e w66 ⟨rfl, hb⟩
            refine ⟨_, rfl, ?_⟩
            have n0_ := Aside0.mk (XS_below q11_7 hb)
            have n1_ := Aside0.mk (XS_below q11_8 hb)
            have n2_ := Aside0.mk (XS_below q11_9 hb)
            have n3_ := Aside0.mk (XS_below q11_26 hb)
            have n4_ := Aside0.mk (blk_below (g := gb335) (o := .cells #[.slice A0_0 l0_0.length c0_0] 44 (0, 0)) q11_1 hb)
            have n5_ := Aside0.mk (blk_below (g := gb344) (o := .cells #[.slice Ao22 t340.length co22] 25 (0, 0)) q11_3 hb)
            have n6_ := Aside0.mk (blk_below (g := gb348) (o := .cells #[.slice Ao28 t345.length co28] 25 (0, 0)) q11_5 hb)
            have n7_ := Aside0.mk (blk_below (g := gb353) (o := .cells #[.slice Ao34 t349.length co34] 25 (0, 0)) q11_6 hb)
            have n8_ := Aside0.mk (below_step q11_0 hb)
            clear HO_345000
            clear HO_349000
            clear HO_354000
            clear HO357
            clear BK335
            clear BK344
            clear BK348
            clear BK353
            clear HB
            have HO_345000 := n0_
            have HO_349000 := n1_
            have HO_354000 := n2_
            have HO357 := n3_
            have BK335 := n4_
            have BK344 := n5_
            have BK348 := n6_
            have BK353 := n7_
            have HB := n8_
            clear n0_ n1_ n2_ n3_ n4_ n5_ n6_ n7_ n8_
            (try clear hb)
            (try clear hb2)
            (try clear hk)
            (try clear hi)
            refine hK.out _ _ ⟨(blk_cell BK348.out 0).trans rfl, (blk_cell BK335.out 0).trans rfl⟩ (fun hHeld => ?_)
            clear hK K
            refine norm_ (a' := ?_) ?_ ?_
            rotate_left
            · show Act.put _ (some 52) _ = _
              simp only [Act.put, List.setIfInBounds_toArray, List.set_cons_zero, List.set_cons_succ, i64_w, i32_w]
              rfl
            refine pure_ (i := 4) (N := some 53) (v := ?_) (a' := ?_) #[true, true, true, true, true] rfl rfl (by kernel_rfl) (fun _ _ _ h => h) (Or.inl ⟨by rfl, ?_⟩) ?_ ?_
            rotate_left
            · intro w'
              go_simp
              with_reducible rfl
            rotate_left
            · simp only [Act.put, List.setIfInBounds_toArray, List.set_cons_zero, List.set_cons_succ, i64_w, i32_w]
              rfl
            refine done_ (by kernel_rfl) ?_
            have hnb67 := NB348_335.out
            have hnc67 := NB335_348.out
            have hnb68 := NB348_344.out
            have hnc68 := NB344_348.out
            have hnb69 := NB348_353.out
            have hnc69 := NB353_348.out
            have hcz70_0 : w66.cell? ⟨gb348, 0, none⟩ = some (.slice Ao28 t345.length co28) := (blk_cell BK348.out 0).trans rfl
            have hfz70_0 := blk_frozen BK348.out 0
            go_upto_region 14 with (first | ((with_reducible refine gate_callee (f := 29) rfl ?_); refine goesL_ (some 56) rfl rfl Try.func29 (by kernel_rfl) rfl #[.agg #[.slice Ao28 t345.length co28], .int .i64 1] rfl q11_2 ?_; (with_reducible refine (laws_markRough.calls kj12 ?p1_ (.slice Ao28 t345.length co28) t345 1 t359 t360 w _ ?side1 ?side2 A61.out).mono ?_); (case side1 => exact q11_0); (case side2 => exact XS_own HO_349000.out); rintro e w71 ⟨rfl, hy0, hb, hkp⟩; refine ⟨_, rfl, ?_⟩; have n0_ := Aside0.mk (XS_mono (ok' := fun k_ => ¬ F346 k_ ∧ ¬ F350 k_ ∧ ¬ F356 k_) (XS_keptB (HO_345000.out) hkp (fun k_ hk_ hs_ => (hk_.1.1) hs_.1.1)) (fun k_ hk_ => ⟨hk_.1.1.1, hk_.1.1.2, hk_.1.2⟩)); have n1_ := Aside0.mk (XS_reok HO_349000.out hy0 hkp); have n2_ := Aside0.mk (XS_mono (ok' := fun k_ => ¬ F341 k_ ∧ ¬ F346 k_ ∧ ¬ F356 k_) (XS_keptB (HO_354000.out) hkp (fun k_ hk_ hs_ => (hk_.1.2) hs_.1.1)) (fun k_ hk_ => ⟨hk_.1.1.1, hk_.1.1.2, hk_.1.2⟩)); have n3_ := Aside0.mk (XS_blk_kept q11_1 hkp (by decide)); have n4_ := Aside0.mk (XS_blk_kept q11_3 hkp (by decide)); have n5_ := Aside0.mk (XS_blk_kept q11_5 hkp (by decide)); have n6_ := Aside0.mk (XS_blk_kept q11_6 hkp (by decide)); have n7_ := Aside0.mk (XS_mono (ok' := fun k_ => ¬ F341 k_ ∧ ¬ F346 k_ ∧ ¬ F350 k_) (XS_keptB (HO357.out) hkp (fun k_ hk_ hs_ => (hk_.1.2) hs_.1.1)) (fun k_ hk_ => ⟨hk_.1.1.1.2, hk_.1.1.2, hk_.1.2⟩)); have n8_ := Aside0.mk (hb); clear HO_345000; clear HO_349000; clear HO_354000; clear BK335; clear BK344; clear BK348; clear BK353; clear HO357; clear HB; have HO_345000 := n0_; have HO_349000 := n1_; have HO_354000 := n2_; have BK335 := n3_; have BK344 := n4_; have BK348 := n5_; have BK353 := n6_; have HO357 := n7_; have HB := n8_; clear n0_ n1_ n2_ n3_ n4_ n5_ n6_ n7_ n8_; (try clear hb); (try clear hkp); (try clear hy0)))
            (try simp only [Act.put, List.setIfInBounds_toArray, List.set_cons_zero, List.set_cons_succ])
            go_cut [69] (fun v69 wc => ∃ (kq : Nat) (x69_61 : Bool), v69 = .bool x69_61 ∧ Aside0 (laws_FnExactRoughAdd.j1 kq a1 a2 t343 x69_61 l0_0 t340 t349 = some r) ∧ Aside0 (kq ≤ kj12) ∧ Aside0 (XS F341 wc w.heap.size (fun k_ => ¬ F346 k_ ∧ ¬ F350 k_) (.slice Ao22 t340.length co22) t340) ∧ Aside0 (XS F346 wc w.heap.size (fun k_ => ¬ F341 k_ ∧ ¬ F350 k_) (.slice Ao28 t345.length co28) t360) ∧ Aside0 (XS F350 wc w.heap.size (fun k_ => ¬ F341 k_ ∧ ¬ F346 k_) (.slice Ao34 t349.length co34) t349) ∧ Aside0 (wc.heap[gb335]? = some (.cells #[(.slice A0_0 l0_0.length c0_0)] 44 (0, 0))) ∧ Aside0 (wc.heap[gb344]? = some (.cells #[(.slice Ao22 t340.length co22)] 25 (0, 0))) ∧ Aside0 (wc.heap[gb348]? = some (.cells #[(.slice Ao28 t345.length co28)] 25 (0, 0))) ∧ Aside0 (wc.heap[gb353]? = some (.cells #[(.slice Ao34 t349.length co34)] 25 (0, 0))) ∧ Aside0 (Below w.heap.size w wc))
            case first =>
              have H := HC62.out
              clear HC62
              by_cases c72 : t359 < 0
              · rw [if_pos c72] at H
                have c72b0 : decide (t359 < 0) = true := decide_eq_true c72
                clear c72
                (first | rw [c72b0] | (simp only [i64_w, i32_w]; rw [c72b0]) | skip)
                have H' := Aside0.mk H
                clear H
                go_wp2
                go_meet
                case rel => exact ⟨_, (true), q11_45, H', ⟨by have := HJ12.out; first | omega | exact Nat.le_refl _⟩, ⟨by (with_reducible repeat (first | apply XS_alloc | apply XS_drewN | apply XS_drew)); exact XS_mono HO_345000.out (fun _ hk => ⟨hk.1, hk.2.1⟩)⟩, ⟨by (with_reducible repeat (first | apply XS_alloc | apply XS_drewN | apply XS_drew)); exact XS_mono HO_349000.out (fun _ hk => ⟨hk.1.1, hk.1.2⟩)⟩, ⟨by (with_reducible repeat (first | apply XS_alloc | apply XS_drewN | apply XS_drew)); exact XS_mono HO_354000.out (fun _ hk => ⟨hk.1, hk.2.1⟩)⟩, ⟨by (with_reducible repeat (first | refine blk_drewN ?_ _ | refine blk_drew ?_ | refine blk_alloc ?_ _)); exact BK335.out⟩, ⟨by (with_reducible repeat (first | refine blk_drewN ?_ _ | refine blk_drew ?_ | refine blk_alloc ?_ _)); exact BK344.out⟩, ⟨by (with_reducible repeat (first | refine blk_drewN ?_ _ | refine blk_drew ?_ | refine blk_alloc ?_ _)); exact BK348.out⟩, ⟨by (with_reducible repeat (first | refine blk_drewN ?_ _ | refine blk_drew ?_ | refine blk_alloc ?_ _)); exact BK353.out⟩, ⟨q11_0⟩⟩
              · rw [if_neg c72] at H
                have c72b0 : decide (t359 < 0) = false := decide_eq_false c72
                clear c72
                (first | rw [c72b0] | (simp only [i64_w, i32_w]; rw [c72b0]) | skip)
                replace H := Option.bind_eq_some_iff.mp H
                obtain ⟨t361, A730, H⟩ := H
                replace H : (if t361 = true then (laws_FnExactRoughAdd.j1 kj12 a1 a2 t343 (t352 != t343) l0_0 t340 t349) else (laws_FnExactRoughAdd.j1 kj12 a1 a2 t343 true l0_0 t340 t349)) = some r := H
                have A73 := Aside0.mk A730
                clear A730
                by_cases c74 : t361 = true
                · subst c74
                  have H1 : (laws_FnExactRoughAdd.j1 kj12 a1 a2 t343 (t352 != t343) l0_0 t340 t349) = some r := by rw [if_pos rfl] at H; exact H
                  clear H
                  have H := H1
                  clear H1
                  have H' := Aside0.mk H
                  clear H
                  have hnb75 := NB353_335.out
                  have hnc75 := NB335_353.out
                  have hnb76 := NB353_344.out
                  have hnc76 := NB344_353.out
                  have hnb77 := NB353_348.out
                  have hnc77 := NB348_353.out
                  have hcz78_0 : w71.cell? ⟨gb353, 0, none⟩ = some (.slice Ao34 t349.length co34) := (blk_cell BK353.out 0).trans rfl
                  have hfz78_0 := blk_frozen BK353.out 0
                  have hnb79 := NB344_335.out
                  have hnc79 := NB335_344.out
                  have hnb80 := NB344_348.out
                  have hnc80 := NB348_344.out
                  have hcz81_0 : w71.cell? ⟨gb344, 0, none⟩ = some (.slice Ao22 t340.length co22) := (blk_cell BK344.out 0).trans rfl
                  have hfz81_0 := blk_frozen BK344.out 0
                  go_wp2_with (first | (go_at_call 28; (with_reducible refine (laws_eqRough.calls kj12 _ _ t349 _ _ t340 true _ ?side1 ?side2 ?side3 ?side4 A73.out).mono ?_); (case side1 => exact q11_11); (case side2 => exact (XS_reads HO_354000.out).2.1); (case side3 => exact q11_59); (case side4 => exact (XS_reads HO_345000.out).2.1); rintro e w82 ⟨rfl, hb⟩; have n0_ := Aside0.mk (XS_below q11_7 hb); have n1_ := Aside0.mk (XS_below q11_8 hb); have n2_ := Aside0.mk (XS_below q11_9 hb); have n3_ := Aside0.mk (XS_below q11_26 hb); have n4_ := Aside0.mk (blk_below (g := gb335) (o := .cells #[.slice A0_0 l0_0.length c0_0] 44 (0, 0)) q11_1 hb); have n5_ := Aside0.mk (blk_below (g := gb344) (o := .cells #[.slice Ao22 t340.length co22] 25 (0, 0)) q11_3 hb); have n6_ := Aside0.mk (blk_below (g := gb348) (o := .cells #[.slice Ao28 t345.length co28] 25 (0, 0)) q11_5 hb); have n7_ := Aside0.mk (blk_below (g := gb353) (o := .cells #[.slice Ao34 t349.length co34] 25 (0, 0)) q11_6 hb); have n8_ := Aside0.mk (below_step q11_0 hb); clear HO_345000; clear HO_349000; clear HO_354000; clear HO357; clear BK335; clear BK344; clear BK348; clear BK353; clear HB; have HO_345000 := n0_; have HO_349000 := n1_; have HO_354000 := n2_; have HO357 := n3_; have BK335 := n4_; have BK344 := n5_; have BK348 := n6_; have BK353 := n7_; have HB := n8_; clear n0_ n1_ n2_ n3_ n4_ n5_ n6_ n7_ n8_; (try clear hb); (try clear hb2); (try clear hk); (try clear hi)))
                  go_meet
                  case rel => exact ⟨_, ((t352 != t343)), q11_45, H', ⟨by have := HJ12.out; first | omega | exact Nat.le_refl _⟩, ⟨by (with_reducible repeat (first | apply XS_alloc | apply XS_drewN | apply XS_drew)); exact XS_mono HO_345000.out (fun _ hk => ⟨hk.1, hk.2.1⟩)⟩, ⟨by (with_reducible repeat (first | apply XS_alloc | apply XS_drewN | apply XS_drew)); exact XS_mono HO_349000.out (fun _ hk => ⟨hk.1.1, hk.1.2⟩)⟩, ⟨by (with_reducible repeat (first | apply XS_alloc | apply XS_drewN | apply XS_drew)); exact XS_mono HO_354000.out (fun _ hk => ⟨hk.1, hk.2.1⟩)⟩, ⟨by (with_reducible repeat (first | refine blk_drewN ?_ _ | refine blk_drew ?_ | refine blk_alloc ?_ _)); exact BK335.out⟩, ⟨by (with_reducible repeat (first | refine blk_drewN ?_ _ | refine blk_drew ?_ | refine blk_alloc ?_ _)); exact BK344.out⟩, ⟨by (with_reducible repeat (first | refine blk_drewN ?_ _ | refine blk_drew ?_ | refine blk_alloc ?_ _)); exact BK348.out⟩, ⟨by (with_reducible repeat (first | refine blk_drewN ?_ _ | refine blk_drew ?_ | refine blk_alloc ?_ _)); exact BK353.out⟩, ⟨q11_0⟩⟩
                · replace c74 := Bool.eq_false_iff.mpr c74
                  subst c74
                  have H1 : (laws_FnExactRoughAdd.j1 kj12 a1 a2 t343 true l0_0 t340 t349) = some r := by rw [if_neg (show ¬ (false = true) by decide)] at H; exact H
                  clear H
                  have H := H1
                  clear H1
                  have H' := Aside0.mk H
                  clear H
                  have hnb83 := NB353_335.out
                  have hnc83 := NB335_353.out
                  have hnb84 := NB353_344.out
                  have hnc84 := NB344_353.out
                  have hnb85 := NB353_348.out
                  have hnc85 := NB348_353.out
                  have hcz86_0 : w71.cell? ⟨gb353, 0, none⟩ = some (.slice Ao34 t349.length co34) := (blk_cell BK353.out 0).trans rfl
                  have hfz86_0 := blk_frozen BK353.out 0
                  have hnb87 := NB344_335.out
                  have hnc87 := NB335_344.out
                  have hnb88 := NB344_348.out
                  have hnc88 := NB348_344.out
                  have hcz89_0 : w71.cell? ⟨gb344, 0, none⟩ = some (.slice Ao22 t340.length co22) := (blk_cell BK344.out 0).trans rfl
                  have hfz89_0 := blk_frozen BK344.out 0
                  go_wp2_with (first | (go_at_call 28; (with_reducible refine (laws_eqRough.calls kj12 _ _ t349 _ _ t340 false _ ?side1 ?side2 ?side3 ?side4 A73.out).mono ?_); (case side1 => exact q11_11); (case side2 => exact (XS_reads HO_354000.out).2.1); (case side3 => exact q11_59); (case side4 => exact (XS_reads HO_345000.out).2.1); rintro e w90 ⟨rfl, hb⟩; have n0_ := Aside0.mk (XS_below q11_7 hb); have n1_ := Aside0.mk (XS_below q11_8 hb); have n2_ := Aside0.mk (XS_below q11_9 hb); have n3_ := Aside0.mk (XS_below q11_26 hb); have n4_ := Aside0.mk (blk_below (g := gb335) (o := .cells #[.slice A0_0 l0_0.length c0_0] 44 (0, 0)) q11_1 hb); have n5_ := Aside0.mk (blk_below (g := gb344) (o := .cells #[.slice Ao22 t340.length co22] 25 (0, 0)) q11_3 hb); have n6_ := Aside0.mk (blk_below (g := gb348) (o := .cells #[.slice Ao28 t345.length co28] 25 (0, 0)) q11_5 hb); have n7_ := Aside0.mk (blk_below (g := gb353) (o := .cells #[.slice Ao34 t349.length co34] 25 (0, 0)) q11_6 hb); have n8_ := Aside0.mk (below_step q11_0 hb); clear HO_345000; clear HO_349000; clear HO_354000; clear HO357; clear BK335; clear BK344; clear BK348; clear BK353; clear HB; have HO_345000 := n0_; have HO_349000 := n1_; have HO_354000 := n2_; have HO357 := n3_; have BK335 := n4_; have BK344 := n5_; have BK348 := n6_; have BK353 := n7_; have HB := n8_; clear n0_ n1_ n2_ n3_ n4_ n5_ n6_ n7_ n8_; (try clear hb); (try clear hb2); (try clear hk); (try clear hi)))
                  go_meet
                  case rel => exact ⟨_, (true), q11_45, H', ⟨by have := HJ12.out; first | omega | exact Nat.le_refl _⟩, ⟨by (with_reducible repeat (first | apply XS_alloc | apply XS_drewN | apply XS_drew)); exact XS_mono HO_345000.out (fun _ hk => ⟨hk.1, hk.2.1⟩)⟩, ⟨by (with_reducible repeat (first | apply XS_alloc | apply XS_drewN | apply XS_drew)); exact XS_mono HO_349000.out (fun _ hk => ⟨hk.1.1, hk.1.2⟩)⟩, ⟨by (with_reducible repeat (first | apply XS_alloc | apply XS_drewN | apply XS_drew)); exact XS_mono HO_354000.out (fun _ hk => ⟨hk.1, hk.2.1⟩)⟩, ⟨by (with_reducible repeat (first | refine blk_drewN ?_ _ | refine blk_drew ?_ | refine blk_alloc ?_ _)); exact BK335.out⟩, ⟨by (with_reducible repeat (first | refine blk_drewN ?_ _ | refine blk_drew ?_ | refine blk_alloc ?_ _)); exact BK344.out⟩, ⟨by (with_reducible repeat (first | refine blk_drewN ?_ _ | refine blk_drew ?_ | refine blk_alloc ?_ _)); exact BK348.out⟩, ⟨by (with_reducible repeat (first | refine blk_drewN ?_ _ | refine blk_drew ?_ | refine blk_alloc ?_ _)); exact BK353.out⟩, ⟨q11_0⟩⟩
            case rest =>
              clear HC62
              try clear c1
              try clear c2
              try clear p2
              try clear c3
              try clear c4
              try clear c5
              try clear c5b0
              try clear c6
              try clear c7
              try clear c8
              try clear c11
              try clear c22
              try clear c23
              try clear c24
              try clear c26
              try clear c27
              try clear c28
              try clear c29
              try clear c30
              try clear c35
              try clear c36
              try clear c37
              try clear c40
              try clear c41
              try clear c42
              try clear c43
              try clear c45
              try clear c46
              try clear c49
              try clear c50
              try clear c51
              try clear c53
              try clear c54
              try clear c57
              try clear c60
              try clear c67
              try clear c68
              try clear c69
              try clear c72
              try clear c72b0
              try clear c74
              try clear c75
              try clear c76
              try clear c77
              try clear c79
              try clear c80
              try clear c83
              try clear c84
              try clear c85
              try clear c87
              try clear c88
              try clear hcz15_0
              try clear hcz17_0
              try clear hcz24_0
              try clear hcz25_0
              try clear hcz31_0
              try clear hcz38_0
              try clear hcz44_0
              try clear hcz47_0
              try clear hcz52_0
              try clear hcz55_0
              try clear hcz70_0
              try clear hcz78_0
              try clear hcz7_0
              try clear hcz81_0
              try clear hcz86_0
              try clear hcz89_0
              try clear hfz15_0
              try clear hfz17_0
              try clear hfz24_0
              try clear hfz25_0
              try clear hfz31_0
              try clear hfz38_0
              try clear hfz44_0
              try clear hfz47_0
              try clear hfz52_0
              try clear hfz55_0
              try clear hfz70_0
              try clear hfz78_0
              try clear hfz7_0
              try clear hfz81_0
              try clear hfz86_0
              try clear hfz89_0
              try clear p2
              obtain ⟨kq, x69_61, rfl, HA, HJ61, HO_345000, HO_349000, HO_354000, BK335, BK344, BK348, BK353, HB⟩ := hcut
              have hl349000_61 := (XS_reads HO_349000.out).1
              rw [hl349000_61] at HO_349000
              (try simp only [hl349000_61])
              (try simp only [hl349000_61] at BK335)
              (try simp only [hl349000_61] at BK344)
              (try simp only [hl349000_61] at BK348)
              (try simp only [hl349000_61] at BK353)
              (try simp only [hl349000_61] at HO_345000)
              (try simp only [hl349000_61] at HO_354000)
              cases kq with
              | zero => exact absurd HA.out (by simp [laws_FnExactRoughAdd.j1])
              | succ kj61 =>
                have H := HA.out
                clear HA
                simp only [laws_FnExactRoughAdd.j1] at H
                by_cases c91 : x69_61 = true
                · subst c91
                  have H1 : (some false) = some r := by rw [if_pos rfl] at H; exact H
                  clear H
                  have H := H1
                  clear H1
                  obtain rfl := Option.some.inj H
                  go_wp2
                  go_ret
                  exact ⟨q11_15, q11_0⟩
                · replace c91 := Bool.eq_false_iff.mpr c91
                  subst c91
                  have H1 : ((laws_markRough.f kj61 t349 1).bind fun bt362 => ((laws_heldRough.f kj61 bt362.2 1).bind fun t364 => (if t364 < 0 then (some false) else (if t364 = bt362.1 then ((laws_toRough.f kj61 l0_0).bind fun t365 => ((impl_RoughAdd.f kj61 t365 a1 a2).bind fun bt368 => ((laws_eqRough.f kj61 bt368.1 t340).bind fun t373 => (if t373 = true then (laws_FnExactRoughAdd.j2 kj61 bt362.1 (bt368.2 != t343) bt362.2) else (laws_FnExactRoughAdd.j2 kj61 bt362.1 true bt362.2))))) else (some false))))) = some r := by rw [if_neg (show ¬ (false = true) by decide)] at H; exact H
                  clear H
                  have H := H1
                  clear H1
                  replace H := Option.bind_eq_some_iff.mp H
                  obtain ⟨⟨t362, t363⟩, A920, H⟩ := H
                  replace H : ((laws_heldRough.f kj61 t363 1).bind fun t364 => (if t364 < 0 then (some false) else (if t364 = t362 then ((laws_toRough.f kj61 l0_0).bind fun t365 => ((impl_RoughAdd.f kj61 t365 a1 a2).bind fun bt368 => ((laws_eqRough.f kj61 bt368.1 t340).bind fun t373 => (if t373 = true then (laws_FnExactRoughAdd.j2 kj61 t362 (bt368.2 != t343) t363) else (laws_FnExactRoughAdd.j2 kj61 t362 true t363))))) else (some false)))) = some r := H
                  have A92 := Aside0.mk A920
                  clear A920
                  replace H := Option.bind_eq_some_iff.mp H
                  obtain ⟨t364, A930, H⟩ := H
                  replace H : (if t364 < 0 then (some false) else (if t364 = t362 then ((laws_toRough.f kj61 l0_0).bind fun t365 => ((impl_RoughAdd.f kj61 t365 a1 a2).bind fun bt368 => ((laws_eqRough.f kj61 bt368.1 t340).bind fun t373 => (if t373 = true then (laws_FnExactRoughAdd.j2 kj61 t362 (bt368.2 != t343) t363) else (laws_FnExactRoughAdd.j2 kj61 t362 true t363))))) else (some false))) = some r := H
                  have A93 := Aside0.mk A930
                  clear A930
                  by_cases c94 : t364 < 0
                  · rw [if_pos c94] at H
                    have c94b0 : decide (t364 < 0) = true := decide_eq_true c94
                    clear c94
                    obtain rfl := Option.some.inj H
                    have hnb95 := NB353_335.out
                    have hnc95 := NB335_353.out
                    have hnb96 := NB353_344.out
                    have hnc96 := NB344_353.out
                    have hnb97 := NB353_348.out
                    have hnc97 := NB348_353.out
                    have hcz98_0 : wc.cell? ⟨gb353, 0, none⟩ = some (.slice Ao34 t349.length co34) := (blk_cell BK353.out 0).trans rfl
                    have hfz98_0 := blk_frozen BK353.out 0
                    go_wp2_with (first | ((with_reducible refine gate_callee (f := 29) rfl ?_); refine goesL_ (some 72) rfl rfl Try.func29 (by kernel_rfl) rfl #[.agg #[.slice Ao34 t349.length co34], .int .i64 1] rfl q11_2 ?_; (with_reducible refine (laws_markRough.calls kj61 ?p2_ (.slice Ao34 t349.length co34) t349 1 t362 t363 w _ ?side1 ?side2 A92.out).mono ?_); (case side1 => exact q11_0); (case side2 => exact XS_own HO_354000.out); rintro e w99 ⟨rfl, hy0, hb, hkp⟩; refine ⟨_, rfl, ?_⟩; have n0_ := Aside0.mk (XS_mono (ok' := fun k_ => ¬ F346 k_ ∧ ¬ F350 k_) (XS_keptB (HO_345000.out) hkp (fun k_ hk_ hs_ => (hk_.2) hs_.1.1)) (fun k_ hk_ => ⟨hk_.1.1, hk_.1.2⟩)); have n1_ := Aside0.mk (XS_mono (ok' := fun k_ => ¬ F341 k_ ∧ ¬ F350 k_) (XS_keptB (HO_349000.out) hkp (fun k_ hk_ hs_ => (hk_.2) hs_.1.1)) (fun k_ hk_ => ⟨hk_.1.1, hk_.1.2⟩)); have n2_ := Aside0.mk (XS_reok HO_354000.out hy0 hkp); have n3_ := Aside0.mk (XS_blk_kept q11_1 hkp (by decide)); have n4_ := Aside0.mk (XS_blk_kept q11_3 hkp (by decide)); have n5_ := Aside0.mk (XS_blk_kept q11_5 hkp (by decide)); have n6_ := Aside0.mk (XS_blk_kept q11_6 hkp (by decide)); have n7_ := Aside0.mk (hb); clear HO_345000; clear HO_349000; clear HO_354000; clear BK335; clear BK344; clear BK348; clear BK353; clear HB; have HO_345000 := n0_; have HO_349000 := n1_; have HO_354000 := n2_; have BK335 := n3_; have BK344 := n4_; have BK348 := n5_; have BK353 := n6_; have HB := n7_; clear n0_ n1_ n2_ n3_ n4_ n5_ n6_ n7_; (try clear hb); (try clear hkp); (try clear hy0); have hcz100_0 : w99.cell? ⟨gb353, 0, none⟩ = some (.slice Ao34 t349.length co34) := (blk_cell BK353.out 0).trans rfl; have hfz100_0 := blk_frozen BK353.out 0) | ((with_reducible refine gate_callee (f := 30) rfl ?_); refine goesL_ (some 75) rfl rfl Try.func30 (by kernel_rfl) rfl #[.agg #[.slice Ao34 t363.length co34], .int .i64 1] rfl q11_22 ?_; (with_reducible refine (laws_heldRough.calls kj61 _ _ t363 1 t364 _ ?side1 ?side2 A93.out).mono ?_); (case side1 => exact q11_11); (case side2 => exact q11_49); rintro e w101 ⟨rfl, hb⟩; refine ⟨_, rfl, ?_⟩; have n0_ := Aside0.mk (XS_below q11_7 hb); have n1_ := Aside0.mk (XS_below q11_8 hb); have n2_ := Aside0.mk (XS_below q11_9 hb); have n3_ := Aside0.mk (blk_below (g := gb335) (o := .cells #[.slice A0_0 l0_0.length c0_0] 44 (0, 0)) q11_1 hb); have n4_ := Aside0.mk (blk_below (g := gb344) (o := .cells #[.slice Ao22 t340.length co22] 25 (0, 0)) q11_3 hb); have n5_ := Aside0.mk (blk_below (g := gb348) (o := .cells #[.slice Ao28 t360.length co28] 25 (0, 0)) q11_5 hb); have n6_ := Aside0.mk (blk_below (g := gb353) (o := .cells #[.slice Ao34 t349.length co34] 25 (0, 0)) q11_6 hb); have n7_ := Aside0.mk (below_step q11_0 hb); clear HO_345000; clear HO_349000; clear HO_354000; clear BK335; clear BK344; clear BK348; clear BK353; clear HB; have HO_345000 := n0_; have HO_349000 := n1_; have HO_354000 := n2_; have BK335 := n3_; have BK344 := n4_; have BK348 := n5_; have BK353 := n6_; have HB := n7_; clear n0_ n1_ n2_ n3_ n4_ n5_ n6_ n7_; (try clear hb); (try clear hb2); (try clear hk); (try clear hi)))
                    go_ret
                    exact ⟨q11_15, q11_0⟩
                  · rw [if_neg c94] at H
                    have c94b0 : decide (t364 < 0) = false := decide_eq_false c94
                    clear c94
                    by_cases c102 : t364 = t362
                    · rw [if_pos c102] at H
                      have c102b0 : (t364 == t362) = true := beq_iff_eq.mpr c102
                      have c102b1 : (t364 != t362) = false := bne_eq_false_iff_eq.mpr c102
                      clear c102
                      replace H := Option.bind_eq_some_iff.mp H
                      obtain ⟨t365, A1030, H⟩ := H
                      replace H : ((impl_RoughAdd.f kj61 t365 a1 a2).bind fun bt368 => ((laws_eqRough.f kj61 bt368.1 t340).bind fun t373 => (if t373 = true then (laws_FnExactRoughAdd.j2 kj61 t362 (bt368.2 != t343) t363) else (laws_FnExactRoughAdd.j2 kj61 t362 true t363)))) = some r := H
                      have A103 := Aside0.mk A1030
                      clear A1030
                      replace H := Option.bind_eq_some_iff.mp H
                      obtain ⟨⟨t368, t371⟩, A1040, H⟩ := H
                      replace H : ((laws_eqRough.f kj61 t368 t340).bind fun t373 => (if t373 = true then (laws_FnExactRoughAdd.j2 kj61 t362 (t371 != t343) t363) else (laws_FnExactRoughAdd.j2 kj61 t362 true t363))) = some r := H
                      have A104 := Aside0.mk A1040
                      clear A1040
                      have HC105 := Aside0.mk H
                      clear H
                      have hnb106 := NB353_335.out
                      have hnc106 := NB335_353.out
                      have hnb107 := NB353_344.out
                      have hnc107 := NB344_353.out
                      have hnb108 := NB353_348.out
                      have hnc108 := NB348_353.out
                      have hcz109_0 : wc.cell? ⟨gb353, 0, none⟩ = some (.slice Ao34 t349.length co34) := (blk_cell BK353.out 0).trans rfl
                      have hfz109_0 := blk_frozen BK353.out 0
                      go_upto_region 25 with (first | ((with_reducible refine gate_callee (f := 29) rfl ?_); refine goesL_ (some 72) rfl rfl Try.func29 (by kernel_rfl) rfl #[.agg #[.slice Ao34 t349.length co34], .int .i64 1] rfl q11_2 ?_; (with_reducible refine (laws_markRough.calls kj61 ?p3_ (.slice Ao34 t349.length co34) t349 1 t362 t363 w _ ?side1 ?side2 A92.out).mono ?_); (case side1 => exact q11_0); (case side2 => exact XS_own HO_354000.out); rintro e w110 ⟨rfl, hy0, hb, hkp⟩; refine ⟨_, rfl, ?_⟩; have n0_ := Aside0.mk (XS_mono (ok' := fun k_ => ¬ F346 k_ ∧ ¬ F350 k_) (XS_keptB (HO_345000.out) hkp (fun k_ hk_ hs_ => (hk_.2) hs_.1.1)) (fun k_ hk_ => ⟨hk_.1.1, hk_.1.2⟩)); have n1_ := Aside0.mk (XS_mono (ok' := fun k_ => ¬ F341 k_ ∧ ¬ F350 k_) (XS_keptB (HO_349000.out) hkp (fun k_ hk_ hs_ => (hk_.2) hs_.1.1)) (fun k_ hk_ => ⟨hk_.1.1, hk_.1.2⟩)); have n2_ := Aside0.mk (XS_reok HO_354000.out hy0 hkp); have n3_ := Aside0.mk (XS_blk_kept q11_1 hkp (by decide)); have n4_ := Aside0.mk (XS_blk_kept q11_3 hkp (by decide)); have n5_ := Aside0.mk (XS_blk_kept q11_5 hkp (by decide)); have n6_ := Aside0.mk (XS_blk_kept q11_6 hkp (by decide)); have n7_ := Aside0.mk (hb); clear HO_345000; clear HO_349000; clear HO_354000; clear BK335; clear BK344; clear BK348; clear BK353; clear HB; have HO_345000 := n0_; have HO_349000 := n1_; have HO_354000 := n2_; have BK335 := n3_; have BK344 := n4_; have BK348 := n5_; have BK353 := n6_; have HB := n7_; clear n0_ n1_ n2_ n3_ n4_ n5_ n6_ n7_; (try clear hb); (try clear hkp); (try clear hy0); have hcz111_0 : w110.cell? ⟨gb353, 0, none⟩ = some (.slice Ao34 t349.length co34) := (blk_cell BK353.out 0).trans rfl; have hfz111_0 := blk_frozen BK353.out 0) | ((with_reducible refine gate_callee (f := 30) rfl ?_); refine goesL_ (some 75) rfl rfl Try.func30 (by kernel_rfl) rfl #[.agg #[.slice Ao34 t363.length co34], .int .i64 1] rfl q11_22 ?_; (with_reducible refine (laws_heldRough.calls kj61 _ _ t363 1 t364 _ ?side1 ?side2 A93.out).mono ?_); (case side1 => exact q11_11); (case side2 => exact q11_49); rintro e w112 ⟨rfl, hb⟩; refine ⟨_, rfl, ?_⟩; have n0_ := Aside0.mk (XS_below q11_7 hb); have n1_ := Aside0.mk (XS_below q11_8 hb); have n2_ := Aside0.mk (XS_below q11_9 hb); have n3_ := Aside0.mk (blk_below (g := gb335) (o := .cells #[.slice A0_0 l0_0.length c0_0] 44 (0, 0)) q11_1 hb); have n4_ := Aside0.mk (blk_below (g := gb344) (o := .cells #[.slice Ao22 t340.length co22] 25 (0, 0)) q11_3 hb); have n5_ := Aside0.mk (blk_below (g := gb348) (o := .cells #[.slice Ao28 t360.length co28] 25 (0, 0)) q11_5 hb); have n6_ := Aside0.mk (blk_below (g := gb353) (o := .cells #[.slice Ao34 t349.length co34] 25 (0, 0)) q11_6 hb); have n7_ := Aside0.mk (below_step q11_0 hb); clear HO_345000; clear HO_349000; clear HO_354000; clear BK335; clear BK344; clear BK348; clear BK353; clear HB; have HO_345000 := n0_; have HO_349000 := n1_; have HO_354000 := n2_; have BK335 := n3_; have BK344 := n4_; have BK348 := n5_; have BK353 := n6_; have HB := n7_; clear n0_ n1_ n2_ n3_ n4_ n5_ n6_ n7_; (try clear hb); (try clear hb2); (try clear hk); (try clear hi); have hnb113 := NB335_344.out; have hnc113 := NB344_335.out; have hnb114 := NB335_348.out; have hnc114 := NB348_335.out; have hcz115_0 : w112.cell? ⟨gb335, 0, none⟩ = some (.slice A0_0 l0_0.length c0_0) := (blk_cell BK335.out 0).trans rfl; have hfz115_0 := blk_frozen BK335.out 0) | ((with_reducible refine gate_callee (f := 27) rfl ?_); refine goesL_ (some 83) rfl rfl Try.func27 (by kernel_rfl) rfl #[.agg #[.slice A0_0 l0_0.length c0_0]] rfl q11_2 ?_; (with_reducible refine (laws_toRough.calls kj61 _ _ l0_0 t365 _ ?side1 ?side2 A103.out).mono ?_); (case side1 => exact q11_14); (case side2 => exact HC0_0.out); rintro e w116 ⟨v366, rfl, ho0, hb⟩; obtain ⟨F366, hF0, ho0⟩ := XS_intro ho0; refine ⟨_, rfl, ?_⟩; have n0_ := Aside0.mk (XS_elder q11_7 hF0 hb); have n1_ := Aside0.mk (XS_elder q11_8 hF0 hb); have n2_ := Aside0.mk (XS_elder q11_9 hF0 hb); have n3_ := Aside0.mk (XS_lower (XS_new (XS_new (XS_new ho0 (XS_lt q11_7)) (XS_lt q11_8)) (XS_lt q11_9)) (below_size q11_0)); have n4_ := Aside0.mk (blk_below (g := gb335) (o := .cells #[.slice A0_0 l0_0.length c0_0] 44 (0, 0)) q11_1 hb); have n5_ := Aside0.mk (blk_below (g := gb344) (o := .cells #[.slice Ao22 t340.length co22] 25 (0, 0)) q11_3 hb); have n6_ := Aside0.mk (blk_below (g := gb348) (o := .cells #[.slice Ao28 t360.length co28] 25 (0, 0)) q11_5 hb); have n7_ := Aside0.mk (blk_below (g := gb353) (o := .cells #[.slice Ao34 t349.length co34] 25 (0, 0)) q11_6 hb); have n8_ := Aside0.mk (below_step q11_0 hb); clear HO_345000; clear HO_349000; clear HO_354000; clear BK335; clear BK344; clear BK348; clear BK353; clear HB; have HO_345000 := n0_; have HO_349000 := n1_; have HO_354000 := n2_; have HO367 := n3_; have BK335 := n4_; have BK344 := n5_; have BK348 := n6_; have BK353 := n7_; have HB := n8_; clear n0_ n1_ n2_ n3_ n4_ n5_ n6_ n7_ n8_; (try clear hb); (try clear hb2); (try clear hk); (try clear hi); (try clear ho0); (try clear hF0); obtain ⟨Ao117, co117, eo117⟩ := XS_slice HO367.out; subst eo117) | ((with_reducible refine gate_callee (f := 22) rfl ?_); refine goesL_ (some 86) rfl rfl Try.func22 (by kernel_rfl) rfl #[.agg #[.slice Ao117 t365.length co117], .int .i64 a1, .int .i64 a2] rfl q11_2 ?_; (with_reducible refine (impl_RoughAdd.calls kj61 _ _ t365 a1 a2 t368 t371 _ ?side1 ?side2 A104.out).mono ?_); (case side1 => repeat (first | exact (XS_reads HO367.out).2.2 | (with_reducible refine Kd.C_alloc ?_ _) | (with_reducible refine Kd.C_drewN ?_ _) | (with_reducible refine Kd.C_drew ?_))); (case side2 => exact (XS_reads HO367.out).2.1); rintro e w118 ⟨v369, rfl, ho0, hb⟩; obtain ⟨F369, hF0, ho0⟩ := XS_intro ho0; refine ⟨_, rfl, ?_⟩; have n0_ := Aside0.mk (XS_elder q11_7 hF0 hb); have n1_ := Aside0.mk (XS_elder q11_8 hF0 hb); have n2_ := Aside0.mk (XS_elder q11_9 hF0 hb); have n3_ := Aside0.mk (XS_elder q11_53 hF0 hb); have n4_ := Aside0.mk (XS_lower (XS_new (XS_new (XS_new (XS_new ho0 (XS_lt q11_7)) (XS_lt q11_8)) (XS_lt q11_9)) (XS_lt q11_53)) (below_size q11_0)); have n5_ := Aside0.mk (blk_below (g := gb335) (o := .cells #[.slice A0_0 l0_0.length c0_0] 44 (0, 0)) q11_1 hb); have n6_ := Aside0.mk (blk_below (g := gb344) (o := .cells #[.slice Ao22 t340.length co22] 25 (0, 0)) q11_3 hb); have n7_ := Aside0.mk (blk_below (g := gb348) (o := .cells #[.slice Ao28 t360.length co28] 25 (0, 0)) q11_5 hb); have n8_ := Aside0.mk (blk_below (g := gb353) (o := .cells #[.slice Ao34 t349.length co34] 25 (0, 0)) q11_6 hb); have n9_ := Aside0.mk (below_step q11_0 hb); clear HO_345000; clear HO_349000; clear HO_354000; clear HO367; clear BK335; clear BK344; clear BK348; clear BK353; clear HB; have HO_345000 := n0_; have HO_349000 := n1_; have HO_354000 := n2_; have HO367 := n3_; have HO370 := n4_; have BK335 := n5_; have BK344 := n6_; have BK348 := n7_; have BK353 := n8_; have HB := n9_; clear n0_ n1_ n2_ n3_ n4_ n5_ n6_ n7_ n8_ n9_; (try clear hb); (try clear hb2); (try clear hk); (try clear hi); (try clear ho0); (try clear hF0)) | ((with_reducible refine gate_dst (N := 16) rfl ?_); refine box_event ?hg (N := 16) ?hd (cs := #[.slice none 0 0]) (t := 25) ?hr ?_; (case hd => rfl); (case hg => rfl); (case hr => exact q11_57); intro gb372 hg w119 hbox hb; have n0_ := Aside0.mk (XS_below q11_7 hb); have n1_ := Aside0.mk (XS_below q11_8 hb); have n2_ := Aside0.mk (XS_below q11_9 hb); have n3_ := Aside0.mk (XS_below q11_53 hb); have n4_ := Aside0.mk (XS_below (by (with_reducible repeat (first | apply XS_alloc | apply XS_drewN | apply XS_drew)); exact HO370.out) hb); have n5_ := Aside0.mk (blk_below (g := gb335) (o := .cells #[.slice A0_0 l0_0.length c0_0] 44 (0, 0)) q11_1 hb); have n6_ := Aside0.mk (blk_below (g := gb344) (o := .cells #[.slice Ao22 t340.length co22] 25 (0, 0)) q11_3 hb); have n7_ := Aside0.mk (blk_below (g := gb348) (o := .cells #[.slice Ao28 t360.length co28] 25 (0, 0)) q11_5 hb); have n8_ := Aside0.mk (blk_below (g := gb353) (o := .cells #[.slice Ao34 t349.length co34] 25 (0, 0)) q11_6 hb); have n9_ := Aside0.mk (below_step q11_0 hb); have n10_ := Aside0.mk (hbox); have n11_ := Aside0.mk ((by rw [hg]; exact (below_size q11_0) : w.heap.size ≤ gb372)); have n12_ := Aside0.mk ((by rw [hg]; exact (below_size q11_0) : w.heap.size ≤ gb372)); have n13_ := Aside0.mk ((q11_24 : gb335 ≠ gb372)); have n14_ := Aside0.mk ((q11_25 : gb372 ≠ gb335)); have n15_ := Aside0.mk ((q11_47 : gb344 ≠ gb372)); have n16_ := Aside0.mk ((q11_48 : gb372 ≠ gb344)); have n17_ := Aside0.mk ((by rw [hg]; exact Nat.ne_of_lt (blk_lt (g := gb348) (o := .cells #[.slice Ao28 t360.length co28] 25 (0, 0)) q11_5) : gb348 ≠ gb372)); have n18_ := Aside0.mk ((by rw [hg]; exact Nat.ne_of_gt (blk_lt (g := gb348) (o := .cells #[.slice Ao28 t360.length co28] 25 (0, 0)) q11_5) : gb372 ≠ gb348)); have n19_ := Aside0.mk ((by rw [hg]; exact Nat.ne_of_lt (blk_lt (g := gb353) (o := .cells #[.slice Ao34 t349.length co34] 25 (0, 0)) q11_6) : gb353 ≠ gb372)); have n20_ := Aside0.mk ((by rw [hg]; exact Nat.ne_of_gt (blk_lt (g := gb353) (o := .cells #[.slice Ao34 t349.length co34] 25 (0, 0)) q11_6) : gb372 ≠ gb353)); clear HO_345000; clear HO_349000; clear HO_354000; clear HO367; clear HO370; clear BK335; clear BK344; clear BK348; clear BK353; clear HB; have HO_345000 := n0_; have HO_349000 := n1_; have HO_354000 := n2_; have HO367 := n3_; have HO370 := n4_; have BK335 := n5_; have BK344 := n6_; have BK348 := n7_; have BK353 := n8_; have HB := n9_; have BK372 := n10_; have GW372 := n11_; have GE372 := n12_; have NB335_372 := n13_; have NB372_335 := n14_; have NB344_372 := n15_; have NB372_344 := n16_; have NB348_372 := n17_; have NB372_348 := n18_; have NB353_372 := n19_; have NB372_353 := n20_; clear n0_ n1_ n2_ n3_ n4_ n5_ n6_ n7_ n8_ n9_ n10_ n11_ n12_ n13_ n14_ n15_ n16_ n17_ n18_ n19_ n20_; clear hb hbox hg; obtain ⟨Ao120, co120, eo120⟩ := XS_slice HO370.out; subst eo120; have hnb121 := NB372_335.out; have hnc121 := NB335_372.out; have hnb122 := NB372_344.out; have hnc122 := NB344_372.out; have hnb123 := NB372_348.out; have hnc123 := NB348_372.out; have hnb124 := NB372_353.out; have hnc124 := NB353_372.out; have hcz125_0 : w119.cell? ⟨gb372, 0, none⟩ = some (.slice none 0 0) := (blk_cell BK372.out 0).trans rfl; have hfz125_0 := blk_frozen BK372.out 0))
                      (try simp only [Act.put, List.setIfInBounds_toArray, List.set_cons_zero, List.set_cons_succ])
                      go_cut [97] (fun v97 wc => ∃ (kq : Nat) (x97_104 : Bool), v97 = .bool x97_104 ∧ Aside0 (laws_FnExactRoughAdd.j2 kq t362 x97_104 t363 = some r) ∧ Aside0 (kq ≤ kj61) ∧ Aside0 (XS F341 wc w.heap.size (fun k_ => ¬ F346 k_ ∧ ¬ F350 k_ ∧ ¬ F369 k_) (.slice Ao22 t340.length co22) t340) ∧ Aside0 (XS F346 wc w.heap.size (fun k_ => ¬ F341 k_ ∧ ¬ F350 k_ ∧ ¬ F369 k_) (.slice Ao28 t360.length co28) t360) ∧ Aside0 (XS F350 wc w.heap.size (fun k_ => ¬ F341 k_ ∧ ¬ F346 k_ ∧ ¬ F369 k_) (.slice Ao34 t349.length co34) t363) ∧ Aside0 (XS F369 wc w.heap.size (fun k_ => ¬ F341 k_ ∧ ¬ F346 k_ ∧ ¬ F350 k_) (.slice Ao120 t368.length co120) t368) ∧ Aside0 (wc.heap[gb335]? = some (.cells #[(.slice A0_0 l0_0.length c0_0)] 44 (0, 0))) ∧ Aside0 (wc.heap[gb344]? = some (.cells #[(.slice Ao22 t340.length co22)] 25 (0, 0))) ∧ Aside0 (wc.heap[gb348]? = some (.cells #[(.slice Ao28 t360.length co28)] 25 (0, 0))) ∧ Aside0 (wc.heap[gb353]? = some (.cells #[(.slice Ao34 t349.length co34)] 25 (0, 0))) ∧ Aside0 (wc.heap[gb372]? = some (.cells #[(.slice Ao120 t368.length co120)] 25 (0, 0))) ∧ Aside0 (Below w.heap.size w wc))
                      case first =>
                        have H := HC105.out
                        clear HC105
                        replace H := Option.bind_eq_some_iff.mp H
                        obtain ⟨t373, A1260, H⟩ := H
                        replace H : (if t373 = true then (laws_FnExactRoughAdd.j2 kj61 t362 (t371 != t343) t363) else (laws_FnExactRoughAdd.j2 kj61 t362 true t363)) = some r := H
                        have A126 := Aside0.mk A1260
                        clear A1260
                        by_cases c127 : t373 = true
                        · subst c127
                          have H1 : (laws_FnExactRoughAdd.j2 kj61 t362 (t371 != t343) t363) = some r := by rw [if_pos rfl] at H; exact H
                          clear H
                          have H := H1
                          clear H1
                          have H' := Aside0.mk H
                          clear H
                          have hnb128 := NB372_335.out
                          have hnc128 := NB335_372.out
                          have hnb129 := NB372_344.out
                          have hnc129 := NB344_372.out
                          have hnb130 := NB372_348.out
                          have hnc130 := NB348_372.out
                          have hnb131 := NB372_353.out
                          have hnc131 := NB353_372.out
                          have hcz132_0 : w119.cell? ⟨gb372, 0, none⟩ = some (.slice none 0 0) := (blk_cell BK372.out 0).trans rfl
                          have hfz132_0 := blk_frozen BK372.out 0
                          have hnb133 := NB344_335.out
                          have hnc133 := NB335_344.out
                          have hnb134 := NB344_348.out
                          have hnc134 := NB348_344.out
                          have hnb135 := NB344_353.out
                          have hnc135 := NB353_344.out
                          have hcz136_0 : w119.cell? ⟨gb344, 0, none⟩ = some (.slice Ao22 t340.length co22) := (blk_cell BK344.out 0).trans rfl
                          have hfz136_0 := blk_frozen BK344.out 0
                          go_wp2_with (first | ((with_reducible refine gate_callee (f := 28) rfl ?_); refine goesL_ (some 91) rfl rfl Try.func28 (by kernel_rfl) rfl #[.agg #[.slice Ao120 t368.length co120], .agg #[.slice Ao22 t340.length co22]] rfl q11_2 ?_; (with_reducible refine (laws_eqRough.calls kj61 _ _ t368 _ _ t340 true _ ?side1 ?side2 ?side3 ?side4 A126.out).mono ?_); (case side1 => exact q11_51); (case side2 => exact (XS_reads HO370.out).2.1); (case side3 => exact q11_54); (case side4 => exact (XS_reads HO_345000.out).2.1); rintro e w137 ⟨rfl, hb⟩; refine ⟨_, rfl, ?_⟩; have n0_ := Aside0.mk (XS_below q11_16 hb); have n1_ := Aside0.mk (XS_below q11_36 hb); have n2_ := Aside0.mk (XS_below q11_37 hb); have n3_ := Aside0.mk (XS_below q11_38 hb); have n4_ := Aside0.mk (XS_below q11_17 hb); have n5_ := Aside0.mk (blk_below (g := gb335) (o := .cells #[.slice A0_0 l0_0.length c0_0] 44 (0, 0)) q11_32 hb); have n6_ := Aside0.mk (blk_below (g := gb344) (o := .cells #[.slice Ao22 t340.length co22] 25 (0, 0)) q11_33 hb); have n7_ := Aside0.mk (blk_below (g := gb348) (o := .cells #[.slice Ao28 t360.length co28] 25 (0, 0)) q11_34 hb); have n8_ := Aside0.mk (blk_below (g := gb353) (o := .cells #[.slice Ao34 t349.length co34] 25 (0, 0)) q11_35 hb); have n9_ := Aside0.mk (blk_below (g := gb372) (o := .cells #[.slice Ao120 t368.length co120] 25 (0, 0)) q11_28 hb); have n10_ := Aside0.mk (below_step q11_4 hb); clear HO_345000; clear HO_349000; clear HO_354000; clear HO367; clear HO370; clear BK335; clear BK344; clear BK348; clear BK353; clear BK372; clear HB; have HO_345000 := n0_; have HO_349000 := n1_; have HO_354000 := n2_; have HO367 := n3_; have HO370 := n4_; have BK335 := n5_; have BK344 := n6_; have BK348 := n7_; have BK353 := n8_; have BK372 := n9_; have HB := n10_; clear n0_ n1_ n2_ n3_ n4_ n5_ n6_ n7_ n8_ n9_ n10_; (try clear hb); (try clear hb2); (try clear hk); (try clear hi)))
                          go_meet
                          case rel => exact ⟨_, ((t371 != t343)), q11_45, H', ⟨by have := HJ12.out; have := HJ61.out; first | omega | exact Nat.le_refl _⟩, ⟨by (try simp only [hl349000_61]); (with_reducible repeat (first | apply XS_alloc | apply XS_drewN | apply XS_drew)); exact XS_mono HO_345000.out (fun _ hk => ⟨hk.1.1.1, ⟨hk.1.1.2, hk.2⟩⟩)⟩, ⟨by (try simp only [hl349000_61]); (with_reducible repeat (first | apply XS_alloc | apply XS_drewN | apply XS_drew)); exact XS_mono HO_349000.out (fun _ hk => ⟨hk.1.1.1, ⟨hk.1.1.2, hk.2⟩⟩)⟩, ⟨by (try simp only [hl349000_61]); (with_reducible repeat (first | apply XS_alloc | apply XS_drewN | apply XS_drew)); exact XS_mono HO_354000.out (fun _ hk => ⟨hk.1.1.1, ⟨hk.1.1.2, hk.2⟩⟩)⟩, ⟨by (try simp only [hl349000_61]); (with_reducible repeat (first | apply XS_alloc | apply XS_drewN | apply XS_drew)); exact XS_mono HO370.out (fun _ hk => ⟨hk.1.1.1.2, ⟨hk.1.1.2, hk.1.2⟩⟩)⟩, ⟨by (try simp only [hl349000_61]); (with_reducible repeat (first | refine blk_drewN ?_ _ | refine blk_drew ?_ | refine blk_alloc ?_ _)); exact BK335.out⟩, ⟨by (try simp only [hl349000_61]); (with_reducible repeat (first | refine blk_drewN ?_ _ | refine blk_drew ?_ | refine blk_alloc ?_ _)); exact BK344.out⟩, ⟨by (try simp only [hl349000_61]); (with_reducible repeat (first | refine blk_drewN ?_ _ | refine blk_drew ?_ | refine blk_alloc ?_ _)); exact BK348.out⟩, ⟨by (try simp only [hl349000_61]); (with_reducible repeat (first | refine blk_drewN ?_ _ | refine blk_drew ?_ | refine blk_alloc ?_ _)); exact BK353.out⟩, ⟨by (try simp only [hl349000_61]); (with_reducible repeat (first | refine blk_drewN ?_ _ | refine blk_drew ?_ | refine blk_alloc ?_ _)); exact BK372.out⟩, ⟨q11_4⟩⟩
                        · replace c127 := Bool.eq_false_iff.mpr c127
                          subst c127
                          have H1 : (laws_FnExactRoughAdd.j2 kj61 t362 true t363) = some r := by rw [if_neg (show ¬ (false = true) by decide)] at H; exact H
                          clear H
                          have H := H1
                          clear H1
                          have H' := Aside0.mk H
                          clear H
                          have hnb138 := NB372_335.out
                          have hnc138 := NB335_372.out
                          have hnb139 := NB372_344.out
                          have hnc139 := NB344_372.out
                          have hnb140 := NB372_348.out
                          have hnc140 := NB348_372.out
                          have hnb141 := NB372_353.out
                          have hnc141 := NB353_372.out
                          have hcz142_0 : w119.cell? ⟨gb372, 0, none⟩ = some (.slice none 0 0) := (blk_cell BK372.out 0).trans rfl
                          have hfz142_0 := blk_frozen BK372.out 0
                          have hnb143 := NB344_335.out
                          have hnc143 := NB335_344.out
                          have hnb144 := NB344_348.out
                          have hnc144 := NB348_344.out
                          have hnb145 := NB344_353.out
                          have hnc145 := NB353_344.out
                          have hcz146_0 : w119.cell? ⟨gb344, 0, none⟩ = some (.slice Ao22 t340.length co22) := (blk_cell BK344.out 0).trans rfl
                          have hfz146_0 := blk_frozen BK344.out 0
                          go_wp2_with (first | ((with_reducible refine gate_callee (f := 28) rfl ?_); refine goesL_ (some 91) rfl rfl Try.func28 (by kernel_rfl) rfl #[.agg #[.slice Ao120 t368.length co120], .agg #[.slice Ao22 t340.length co22]] rfl q11_2 ?_; (with_reducible refine (laws_eqRough.calls kj61 _ _ t368 _ _ t340 false _ ?side1 ?side2 ?side3 ?side4 A126.out).mono ?_); (case side1 => exact q11_51); (case side2 => exact (XS_reads HO370.out).2.1); (case side3 => exact q11_54); (case side4 => exact (XS_reads HO_345000.out).2.1); rintro e w147 ⟨rfl, hb⟩; refine ⟨_, rfl, ?_⟩; have n0_ := Aside0.mk (XS_below q11_16 hb); have n1_ := Aside0.mk (XS_below q11_36 hb); have n2_ := Aside0.mk (XS_below q11_37 hb); have n3_ := Aside0.mk (XS_below q11_38 hb); have n4_ := Aside0.mk (XS_below q11_17 hb); have n5_ := Aside0.mk (blk_below (g := gb335) (o := .cells #[.slice A0_0 l0_0.length c0_0] 44 (0, 0)) q11_32 hb); have n6_ := Aside0.mk (blk_below (g := gb344) (o := .cells #[.slice Ao22 t340.length co22] 25 (0, 0)) q11_33 hb); have n7_ := Aside0.mk (blk_below (g := gb348) (o := .cells #[.slice Ao28 t360.length co28] 25 (0, 0)) q11_34 hb); have n8_ := Aside0.mk (blk_below (g := gb353) (o := .cells #[.slice Ao34 t349.length co34] 25 (0, 0)) q11_35 hb); have n9_ := Aside0.mk (blk_below (g := gb372) (o := .cells #[.slice Ao120 t368.length co120] 25 (0, 0)) q11_28 hb); have n10_ := Aside0.mk (below_step q11_4 hb); clear HO_345000; clear HO_349000; clear HO_354000; clear HO367; clear HO370; clear BK335; clear BK344; clear BK348; clear BK353; clear BK372; clear HB; have HO_345000 := n0_; have HO_349000 := n1_; have HO_354000 := n2_; have HO367 := n3_; have HO370 := n4_; have BK335 := n5_; have BK344 := n6_; have BK348 := n7_; have BK353 := n8_; have BK372 := n9_; have HB := n10_; clear n0_ n1_ n2_ n3_ n4_ n5_ n6_ n7_ n8_ n9_ n10_; (try clear hb); (try clear hb2); (try clear hk); (try clear hi)))
                          go_meet
                          case rel => exact ⟨_, (true), q11_45, H', ⟨by have := HJ12.out; have := HJ61.out; first | omega | exact Nat.le_refl _⟩, ⟨by (try simp only [hl349000_61]); (with_reducible repeat (first | apply XS_alloc | apply XS_drewN | apply XS_drew)); exact XS_mono HO_345000.out (fun _ hk => ⟨hk.1.1.1, ⟨hk.1.1.2, hk.2⟩⟩)⟩, ⟨by (try simp only [hl349000_61]); (with_reducible repeat (first | apply XS_alloc | apply XS_drewN | apply XS_drew)); exact XS_mono HO_349000.out (fun _ hk => ⟨hk.1.1.1, ⟨hk.1.1.2, hk.2⟩⟩)⟩, ⟨by (try simp only [hl349000_61]); (with_reducible repeat (first | apply XS_alloc | apply XS_drewN | apply XS_drew)); exact XS_mono HO_354000.out (fun _ hk => ⟨hk.1.1.1, ⟨hk.1.1.2, hk.2⟩⟩)⟩, ⟨by (try simp only [hl349000_61]); (with_reducible repeat (first | apply XS_alloc | apply XS_drewN | apply XS_drew)); exact XS_mono HO370.out (fun _ hk => ⟨hk.1.1.1.2, ⟨hk.1.1.2, hk.1.2⟩⟩)⟩, ⟨by (try simp only [hl349000_61]); (with_reducible repeat (first | refine blk_drewN ?_ _ | refine blk_drew ?_ | refine blk_alloc ?_ _)); exact BK335.out⟩, ⟨by (try simp only [hl349000_61]); (with_reducible repeat (first | refine blk_drewN ?_ _ | refine blk_drew ?_ | refine blk_alloc ?_ _)); exact BK344.out⟩, ⟨by (try simp only [hl349000_61]); (with_reducible repeat (first | refine blk_drewN ?_ _ | refine blk_drew ?_ | refine blk_alloc ?_ _)); exact BK348.out⟩, ⟨by (try simp only [hl349000_61]); (with_reducible repeat (first | refine blk_drewN ?_ _ | refine blk_drew ?_ | refine blk_alloc ?_ _)); exact BK353.out⟩, ⟨by (try simp only [hl349000_61]); (with_reducible repeat (first | refine blk_drewN ?_ _ | refine blk_drew ?_ | refine blk_alloc ?_ _)); exact BK372.out⟩, ⟨q11_4⟩⟩
                      case rest =>
                        clear HC105
                        try clear c1
                        try clear c2
                        try clear p2
                        try clear c3
                        try clear c4
                        try clear c5
                        try clear c5b0
                        try clear c6
                        try clear c7
                        try clear c8
                        try clear c9
                        try clear c10
                        try clear c11
                        try clear c12
                        try clear c13
                        try clear c14
                        try clear c22
                        try clear c23
                        try clear c24
                        try clear c26
                        try clear c27
                        try clear c28
                        try clear c29
                        try clear c30
                        try clear c35
                        try clear c36
                        try clear c37
                        try clear c40
                        try clear c41
                        try clear c42
                        try clear c43
                        try clear c45
                        try clear c46
                        try clear c49
                        try clear c50
                        try clear c51
                        try clear c53
                        try clear c54
                        try clear c57
                        try clear c60
                        try clear c67
                        try clear c68
                        try clear c69
                        try clear c72
                        try clear c72b0
                        try clear c74
                        try clear c75
                        try clear c76
                        try clear c77
                        try clear c79
                        try clear c80
                        try clear c83
                        try clear c84
                        try clear c85
                        try clear c87
                        try clear c88
                        try clear c91
                        try clear c94
                        try clear c94b0
                        try clear c95
                        try clear c96
                        try clear c97
                        try clear c102
                        try clear c102b0
                        try clear c102b1
                        try clear c106
                        try clear c107
                        try clear c108
                        try clear c113
                        try clear c114
                        try clear c121
                        try clear c122
                        try clear c123
                        try clear c124
                        try clear c127
                        try clear c128
                        try clear c129
                        try clear c130
                        try clear c131
                        try clear c133
                        try clear c134
                        try clear c135
                        try clear c138
                        try clear c139
                        try clear c140
                        try clear c141
                        try clear c143
                        try clear c144
                        try clear c145
                        try clear hcz100_0
                        try clear hcz109_0
                        try clear hcz111_0
                        try clear hcz115_0
                        try clear hcz125_0
                        try clear hcz132_0
                        try clear hcz136_0
                        try clear hcz142_0
                        try clear hcz146_0
                        try clear hcz15_0
                        try clear hcz17_0
                        try clear hcz24_0
                        try clear hcz25_0
                        try clear hcz31_0
                        try clear hcz38_0
                        try clear hcz44_0
                        try clear hcz47_0
                        try clear hcz52_0
                        try clear hcz55_0
                        try clear hcz70_0
                        try clear hcz78_0
                        try clear hcz7_0
                        try clear hcz81_0
                        try clear hcz86_0
                        try clear hcz89_0
                        try clear hcz98_0
                        try clear hfz100_0
                        try clear hfz109_0
                        try clear hfz111_0
                        try clear hfz115_0
                        try clear hfz125_0
                        try clear hfz132_0
                        try clear hfz136_0
                        try clear hfz142_0
                        try clear hfz146_0
                        try clear hfz15_0
                        try clear hfz17_0
                        try clear hfz24_0
                        try clear hfz25_0
                        try clear hfz31_0
                        try clear hfz38_0
                        try clear hfz44_0
                        try clear hfz47_0
                        try clear hfz52_0
                        try clear hfz55_0
                        try clear hfz70_0
                        try clear hfz78_0
                        try clear hfz7_0
                        try clear hfz81_0
                        try clear hfz86_0
                        try clear hfz89_0
                        try clear hfz98_0
                        try clear p2
                        obtain ⟨kq, x97_104, rfl, HA, HJ104, HO_345000, HO_349000, HO_354000, HO_373000, BK335, BK344, BK348, BK353, BK372, HB⟩ := hcut
                        have hl354000_104 := (XS_reads HO_354000.out).1
                        rw [hl354000_104] at HO_354000
                        (try simp only [hl354000_104])
                        (try simp only [hl354000_104] at BK335)
                        (try simp only [hl354000_104] at BK344)
                        (try simp only [hl354000_104] at BK348)
                        (try simp only [hl354000_104] at BK353)
                        (try simp only [hl354000_104] at BK372)
                        (try simp only [hl354000_104] at HO_345000)
                        (try simp only [hl354000_104] at HO_349000)
                        (try simp only [hl354000_104] at HO_373000)
                        cases kq with
                        | zero => exact absurd HA.out (by simp [laws_FnExactRoughAdd.j2])
                        | succ kj104 =>
                          have H := HA.out
                          clear HA
                          simp only [laws_FnExactRoughAdd.j2] at H
                          by_cases c148 : x97_104 = true
                          · subst c148
                            have H1 : (some false) = some r := by rw [if_pos rfl] at H; exact H
                            clear H
                            have H := H1
                            clear H1
                            obtain rfl := Option.some.inj H
                            go_wp2
                            go_ret
                            exact ⟨q11_15, q11_4⟩
                          · replace c148 := Bool.eq_false_iff.mpr c148
                            subst c148
                            have H1 : ((laws_heldRough.f kj104 t363 1).bind fun t374 => (if t374 < 0 then (some false) else (if t374 = t362 then (some true) else (some false)))) = some r := by rw [if_neg (show ¬ (false = true) by decide)] at H; exact H
                            clear H
                            have H := H1
                            clear H1
                            replace H := Option.bind_eq_some_iff.mp H
                            obtain ⟨t374, A1490, H⟩ := H
                            replace H : (if t374 < 0 then (some false) else (if t374 = t362 then (some true) else (some false))) = some r := H
                            have A149 := Aside0.mk A1490
                            clear A1490
                            by_cases c150 : t374 < 0
                            · rw [if_pos c150] at H
                              have c150b0 : decide (t374 < 0) = true := decide_eq_true c150
                              clear c150
                              obtain rfl := Option.some.inj H
                              have hnb151 := NB353_335.out
                              have hnc151 := NB335_353.out
                              have hnb152 := NB353_344.out
                              have hnc152 := NB344_353.out
                              have hnb153 := NB353_348.out
                              have hnc153 := NB348_353.out
                              have hnb154 := NB353_372.out
                              have hnc154 := NB372_353.out
                              have hcz155_0 : wc.cell? ⟨gb353, 0, none⟩ = some (.slice Ao34 t363.length co34) := (blk_cell BK353.out 0).trans rfl
                              have hfz155_0 := blk_frozen BK353.out 0
                              go_wp2_with (first | ((with_reducible refine gate_callee (f := 30) rfl ?_); refine goesL_ (some 100) rfl rfl Try.func30 (by kernel_rfl) rfl #[.agg #[.slice Ao34 t363.length co34], .int .i64 1] rfl q11_2 ?_; (with_reducible refine (laws_heldRough.calls kj104 _ _ t363 1 t374 _ ?side1 ?side2 A149.out).mono ?_); (case side1 => exact q11_11); (case side2 => exact (XS_reads HO_354000.out).2.1); rintro e w156 ⟨rfl, hb⟩; refine ⟨_, rfl, ?_⟩; have n0_ := Aside0.mk (XS_below q11_7 hb); have n1_ := Aside0.mk (XS_below q11_8 hb); have n2_ := Aside0.mk (XS_below q11_9 hb); have n3_ := Aside0.mk (XS_below q11_50 hb); have n4_ := Aside0.mk (blk_below (g := gb335) (o := .cells #[.slice A0_0 l0_0.length c0_0] 44 (0, 0)) q11_1 hb); have n5_ := Aside0.mk (blk_below (g := gb344) (o := .cells #[.slice Ao22 t340.length co22] 25 (0, 0)) q11_3 hb); have n6_ := Aside0.mk (blk_below (g := gb348) (o := .cells #[.slice Ao28 t360.length co28] 25 (0, 0)) q11_5 hb); have n7_ := Aside0.mk (blk_below (g := gb353) (o := .cells #[.slice Ao34 t363.length co34] 25 (0, 0)) q11_6 hb); have n8_ := Aside0.mk (blk_below (g := gb372) (o := .cells #[.slice Ao120 t368.length co120] 25 (0, 0)) q11_46 hb); have n9_ := Aside0.mk (below_step q11_4 hb); clear HO_345000; clear HO_349000; clear HO_354000; clear HO_373000; clear BK335; clear BK344; clear BK348; clear BK353; clear BK372; clear HB; have HO_345000 := n0_; have HO_349000 := n1_; have HO_354000 := n2_; have HO_373000 := n3_; have BK335 := n4_; have BK344 := n5_; have BK348 := n6_; have BK353 := n7_; have BK372 := n8_; have HB := n9_; clear n0_ n1_ n2_ n3_ n4_ n5_ n6_ n7_ n8_ n9_; (try clear hb); (try clear hb2); (try clear hk); (try clear hi)))
                              go_ret
                              exact ⟨q11_15, q11_4⟩
                            · rw [if_neg c150] at H
                              have c150b0 : decide (t374 < 0) = false := decide_eq_false c150
                              clear c150
                              by_cases c157 : t374 = t362
                              · rw [if_pos c157] at H
                                have c157b0 : (t374 == t362) = true := beq_iff_eq.mpr c157
                                have c157b1 : (t374 != t362) = false := bne_eq_false_iff_eq.mpr c157
                                clear c157
                                obtain rfl := Option.some.inj H
                                have hnb158 := NB353_335.out
                                have hnc158 := NB335_353.out
                                have hnb159 := NB353_344.out
                                have hnc159 := NB344_353.out
                                have hnb160 := NB353_348.out
                                have hnc160 := NB348_353.out
                                have hnb161 := NB353_372.out
                                have hnc161 := NB372_353.out
                                have hcz162_0 : wc.cell? ⟨gb353, 0, none⟩ = some (.slice Ao34 t363.length co34) := (blk_cell BK353.out 0).trans rfl
                                have hfz162_0 := blk_frozen BK353.out 0
                                go_wp2_with (first | ((with_reducible refine gate_callee (f := 30) rfl ?_); refine goesL_ (some 100) rfl rfl Try.func30 (by kernel_rfl) rfl #[.agg #[.slice Ao34 t363.length co34], .int .i64 1] rfl q11_2 ?_; (with_reducible refine (laws_heldRough.calls kj104 _ _ t363 1 t374 _ ?side1 ?side2 A149.out).mono ?_); (case side1 => exact q11_11); (case side2 => exact (XS_reads HO_354000.out).2.1); rintro e w163 ⟨rfl, hb⟩; refine ⟨_, rfl, ?_⟩; have n0_ := Aside0.mk (XS_below q11_7 hb); have n1_ := Aside0.mk (XS_below q11_8 hb); have n2_ := Aside0.mk (XS_below q11_9 hb); have n3_ := Aside0.mk (XS_below q11_50 hb); have n4_ := Aside0.mk (blk_below (g := gb335) (o := .cells #[.slice A0_0 l0_0.length c0_0] 44 (0, 0)) q11_1 hb); have n5_ := Aside0.mk (blk_below (g := gb344) (o := .cells #[.slice Ao22 t340.length co22] 25 (0, 0)) q11_3 hb); have n6_ := Aside0.mk (blk_below (g := gb348) (o := .cells #[.slice Ao28 t360.length co28] 25 (0, 0)) q11_5 hb); have n7_ := Aside0.mk (blk_below (g := gb353) (o := .cells #[.slice Ao34 t363.length co34] 25 (0, 0)) q11_6 hb); have n8_ := Aside0.mk (blk_below (g := gb372) (o := .cells #[.slice Ao120 t368.length co120] 25 (0, 0)) q11_46 hb); have n9_ := Aside0.mk (below_step q11_4 hb); clear HO_345000; clear HO_349000; clear HO_354000; clear HO_373000; clear BK335; clear BK344; clear BK348; clear BK353; clear BK372; clear HB; have HO_345000 := n0_; have HO_349000 := n1_; have HO_354000 := n2_; have HO_373000 := n3_; have BK335 := n4_; have BK344 := n5_; have BK348 := n6_; have BK353 := n7_; have BK372 := n8_; have HB := n9_; clear n0_ n1_ n2_ n3_ n4_ n5_ n6_ n7_ n8_ n9_; (try clear hb); (try clear hb2); (try clear hk); (try clear hi)))
                                go_ret
                                exact ⟨q11_15, q11_4⟩
                              · rw [if_neg c157] at H
                                have c157b0 : (t374 == t362) = false := beq_eq_false_iff_ne.mpr c157
                                have c157b1 : (t374 != t362) = true := bne_iff_ne.mpr c157
                                obtain rfl := Option.some.inj H
                                have hnb164 := NB353_335.out
                                have hnc164 := NB335_353.out
                                have hnb165 := NB353_344.out
                                have hnc165 := NB344_353.out
                                have hnb166 := NB353_348.out
                                have hnc166 := NB348_353.out
                                have hnb167 := NB353_372.out
                                have hnc167 := NB372_353.out
                                have hcz168_0 : wc.cell? ⟨gb353, 0, none⟩ = some (.slice Ao34 t363.length co34) := (blk_cell BK353.out 0).trans rfl
                                have hfz168_0 := blk_frozen BK353.out 0
                                go_wp2_with (first | ((with_reducible refine gate_callee (f := 30) rfl ?_); refine goesL_ (some 100) rfl rfl Try.func30 (by kernel_rfl) rfl #[.agg #[.slice Ao34 t363.length co34], .int .i64 1] rfl q11_2 ?_; (with_reducible refine (laws_heldRough.calls kj104 _ _ t363 1 t374 _ ?side1 ?side2 A149.out).mono ?_); (case side1 => exact q11_11); (case side2 => exact (XS_reads HO_354000.out).2.1); rintro e w169 ⟨rfl, hb⟩; refine ⟨_, rfl, ?_⟩; have n0_ := Aside0.mk (XS_below q11_7 hb); have n1_ := Aside0.mk (XS_below q11_8 hb); have n2_ := Aside0.mk (XS_below q11_9 hb); have n3_ := Aside0.mk (XS_below q11_50 hb); have n4_ := Aside0.mk (blk_below (g := gb335) (o := .cells #[.slice A0_0 l0_0.length c0_0] 44 (0, 0)) q11_1 hb); have n5_ := Aside0.mk (blk_below (g := gb344) (o := .cells #[.slice Ao22 t340.length co22] 25 (0, 0)) q11_3 hb); have n6_ := Aside0.mk (blk_below (g := gb348) (o := .cells #[.slice Ao28 t360.length co28] 25 (0, 0)) q11_5 hb); have n7_ := Aside0.mk (blk_below (g := gb353) (o := .cells #[.slice Ao34 t363.length co34] 25 (0, 0)) q11_6 hb); have n8_ := Aside0.mk (blk_below (g := gb372) (o := .cells #[.slice Ao120 t368.length co120] 25 (0, 0)) q11_46 hb); have n9_ := Aside0.mk (below_step q11_4 hb); clear HO_345000; clear HO_349000; clear HO_354000; clear HO_373000; clear BK335; clear BK344; clear BK348; clear BK353; clear BK372; clear HB; have HO_345000 := n0_; have HO_349000 := n1_; have HO_354000 := n2_; have HO_373000 := n3_; have BK335 := n4_; have BK344 := n5_; have BK348 := n6_; have BK353 := n7_; have BK372 := n8_; have HB := n9_; clear n0_ n1_ n2_ n3_ n4_ n5_ n6_ n7_ n8_ n9_; (try clear hb); (try clear hb2); (try clear hk); (try clear hi)))
                                go_ret
                                exact ⟨q11_15, q11_4⟩
                    · rw [if_neg c102] at H
                      have c102b0 : (t364 == t362) = false := beq_eq_false_iff_ne.mpr c102
                      have c102b1 : (t364 != t362) = true := bne_iff_ne.mpr c102
                      obtain rfl := Option.some.inj H
                      have hnb170 := NB353_335.out
                      have hnc170 := NB335_353.out
                      have hnb171 := NB353_344.out
                      have hnc171 := NB344_353.out
                      have hnb172 := NB353_348.out
                      have hnc172 := NB348_353.out
                      have hcz173_0 : wc.cell? ⟨gb353, 0, none⟩ = some (.slice Ao34 t349.length co34) := (blk_cell BK353.out 0).trans rfl
                      have hfz173_0 := blk_frozen BK353.out 0
                      go_wp2_with (first | ((with_reducible refine gate_callee (f := 29) rfl ?_); refine goesL_ (some 72) rfl rfl Try.func29 (by kernel_rfl) rfl #[.agg #[.slice Ao34 t349.length co34], .int .i64 1] rfl q11_2 ?_; (with_reducible refine (laws_markRough.calls kj61 ?p4_ (.slice Ao34 t349.length co34) t349 1 t362 t363 w _ ?side1 ?side2 A92.out).mono ?_); (case side1 => exact q11_0); (case side2 => exact XS_own HO_354000.out); rintro e w174 ⟨rfl, hy0, hb, hkp⟩; refine ⟨_, rfl, ?_⟩; have n0_ := Aside0.mk (XS_mono (ok' := fun k_ => ¬ F346 k_ ∧ ¬ F350 k_) (XS_keptB (HO_345000.out) hkp (fun k_ hk_ hs_ => (hk_.2) hs_.1.1)) (fun k_ hk_ => ⟨hk_.1.1, hk_.1.2⟩)); have n1_ := Aside0.mk (XS_mono (ok' := fun k_ => ¬ F341 k_ ∧ ¬ F350 k_) (XS_keptB (HO_349000.out) hkp (fun k_ hk_ hs_ => (hk_.2) hs_.1.1)) (fun k_ hk_ => ⟨hk_.1.1, hk_.1.2⟩)); have n2_ := Aside0.mk (XS_reok HO_354000.out hy0 hkp); have n3_ := Aside0.mk (XS_blk_kept q11_1 hkp (by decide)); have n4_ := Aside0.mk (XS_blk_kept q11_3 hkp (by decide)); have n5_ := Aside0.mk (XS_blk_kept q11_5 hkp (by decide)); have n6_ := Aside0.mk (XS_blk_kept q11_6 hkp (by decide)); have n7_ := Aside0.mk (hb); clear HO_345000; clear HO_349000; clear HO_354000; clear BK335; clear BK344; clear BK348; clear BK353; clear HB; have HO_345000 := n0_; have HO_349000 := n1_; have HO_354000 := n2_; have BK335 := n3_; have BK344 := n4_; have BK348 := n5_; have BK353 := n6_; have HB := n7_; clear n0_ n1_ n2_ n3_ n4_ n5_ n6_ n7_; (try clear hb); (try clear hkp); (try clear hy0); have hcz175_0 : w174.cell? ⟨gb353, 0, none⟩ = some (.slice Ao34 t349.length co34) := (blk_cell BK353.out 0).trans rfl; have hfz175_0 := blk_frozen BK353.out 0) | ((with_reducible refine gate_callee (f := 30) rfl ?_); refine goesL_ (some 75) rfl rfl Try.func30 (by kernel_rfl) rfl #[.agg #[.slice Ao34 t363.length co34], .int .i64 1] rfl q11_22 ?_; (with_reducible refine (laws_heldRough.calls kj61 _ _ t363 1 t364 _ ?side1 ?side2 A93.out).mono ?_); (case side1 => exact q11_11); (case side2 => exact q11_49); rintro e w176 ⟨rfl, hb⟩; refine ⟨_, rfl, ?_⟩; have n0_ := Aside0.mk (XS_below q11_7 hb); have n1_ := Aside0.mk (XS_below q11_8 hb); have n2_ := Aside0.mk (XS_below q11_9 hb); have n3_ := Aside0.mk (blk_below (g := gb335) (o := .cells #[.slice A0_0 l0_0.length c0_0] 44 (0, 0)) q11_1 hb); have n4_ := Aside0.mk (blk_below (g := gb344) (o := .cells #[.slice Ao22 t340.length co22] 25 (0, 0)) q11_3 hb); have n5_ := Aside0.mk (blk_below (g := gb348) (o := .cells #[.slice Ao28 t360.length co28] 25 (0, 0)) q11_5 hb); have n6_ := Aside0.mk (blk_below (g := gb353) (o := .cells #[.slice Ao34 t349.length co34] 25 (0, 0)) q11_6 hb); have n7_ := Aside0.mk (below_step q11_0 hb); clear HO_345000; clear HO_349000; clear HO_354000; clear BK335; clear BK344; clear BK348; clear BK353; clear HB; have HO_345000 := n0_; have HO_349000 := n1_; have HO_354000 := n2_; have BK335 := n3_; have BK344 := n4_; have BK348 := n5_; have BK353 := n6_; have HB := n7_; clear n0_ n1_ n2_ n3_ n4_ n5_ n6_ n7_; (try clear hb); (try clear hb2); (try clear hk); (try clear hi)))
                      go_ret
                      exact ⟨q11_15, q11_0⟩
          · replace c60 := Bool.eq_false_iff.mpr c60
            subst c60
            have H1 : (some false) = some r := by rw [if_neg (show ¬ (false = true) by decide)] at H; exact H
            clear H
            have H := H1
            clear H1
            obtain rfl := Option.some.inj H
            try go_wp2
            have n0_ := Aside0.mk (XS_drew HO_345000.out)
            have n1_ := Aside0.mk (XS_drew HO_349000.out)
            have n2_ := Aside0.mk (XS_drew HO_354000.out)
            have n3_ := Aside0.mk (blk_drew BK335.out)
            have n4_ := Aside0.mk (blk_drew BK344.out)
            have n5_ := Aside0.mk (blk_drew BK348.out)
            have n6_ := Aside0.mk (blk_drew BK353.out)
            have n7_ := Aside0.mk (below_drew1 HB.out)
            clear HO_345000
            clear HO_349000
            clear HO_354000
            clear BK335
            clear BK344
            clear BK348
            clear BK353
            clear HB
            have HO_345000 := n0_
            have HO_349000 := n1_
            have HO_354000 := n2_
            have BK335 := n3_
            have BK344 := n4_
            have BK348 := n5_
            have BK353 := n6_
            have HB := n7_
            clear n0_ n1_ n2_ n3_ n4_ n5_ n6_ n7_
            refine start_ (n := 5) (S := fun w' => w'.cell? ⟨gb348, 0, none⟩ = some (.slice Ao28 t345.length co28) ∧ w'.cell? ⟨gb335, 0, none⟩ = some (.slice A0_0 l0_0.length c0_0)) (ds := []) #[false, false, false, false, false] (by kernel_rfl) rfl rfl ⟨(blk_cell BK348.out 0).trans rfl, (blk_cell BK335.out 0).trans rfl⟩ (fun hHeld => ?_)
            generalize wc.drew = w177 at HO_345000 HO_349000 HO_354000 BK335 BK344 BK348 BK353 HB hHeld ⊢
            refine take_ (i := 0) (N := some 49) (v := ?_) (a' := ?_) #[true, false, false, false, false] rfl rfl (by kernel_rfl) (fun _ _ _ h => h) (Or.inl ⟨by rfl, ?_⟩) hHeld ?_ ?_
            rotate_left
            · rintro w' ⟨s0, s1⟩
              go_simp
              with_reducible rfl
            rotate_left
            · simp only [Act.put, List.setIfInBounds_toArray, List.set_cons_zero, List.set_cons_succ, i64_w, i32_w]
              rfl
            refine take_ (i := 1) (N := some 50) (v := ?_) (a' := ?_) #[true, true, false, false, false] rfl rfl (by kernel_rfl) (fun _ _ _ h => h) (Or.inl ⟨by rfl, ?_⟩) hHeld ?_ ?_
            rotate_left
            · rintro w' ⟨s0, s1⟩
              go_simp
              with_reducible rfl
            rotate_left
            · simp only [Act.put, List.setIfInBounds_toArray, List.set_cons_zero, List.set_cons_succ, i64_w, i32_w]
              rfl
            refine one_ (i := 2) (N := some 51) #[true, true, true, false, false] rfl rfl (by kernel_rfl) (by decide) (fun K hK => ?_)
            refine goes_ Try.func27 (by kernel_rfl) rfl #[.agg #[.slice A0_0 l0_0.length c0_0]] (by rfl) rfl rfl q11_2 ?_
            with_reducible refine (laws_toRough.calls kj12 _ _ l0_0 t355 _ ?side1 ?side2 A58.out).mono ?_
            (case side1 => exact q11_14)
            (case side2 => exact HC0_0.out)
            rintro e w178 ⟨v356, rfl, ho0, hb⟩; obtain ⟨F356, hF0, ho0⟩ := XS_intro ho0
            refine ⟨_, rfl, ?_⟩
            have n0_ := Aside0.mk (XS_elder q11_7 hF0 hb)
            have n1_ := Aside0.mk (XS_elder q11_8 hF0 hb)
            have n2_ := Aside0.mk (XS_elder q11_9 hF0 hb)
            have n3_ := Aside0.mk (XS_lower (XS_new (XS_new (XS_new ho0 (XS_lt q11_7)) (XS_lt q11_8)) (XS_lt q11_9)) (below_size q11_0))
            have n4_ := Aside0.mk (blk_below (g := gb335) (o := .cells #[.slice A0_0 l0_0.length c0_0] 44 (0, 0)) q11_1 hb)
            have n5_ := Aside0.mk (blk_below (g := gb344) (o := .cells #[.slice Ao22 t340.length co22] 25 (0, 0)) q11_3 hb)
            have n6_ := Aside0.mk (blk_below (g := gb348) (o := .cells #[.slice Ao28 t345.length co28] 25 (0, 0)) q11_5 hb)
            have n7_ := Aside0.mk (blk_below (g := gb353) (o := .cells #[.slice Ao34 t349.length co34] 25 (0, 0)) q11_6 hb)
            have n8_ := Aside0.mk (below_step q11_0 hb)
            clear HO_345000
            clear HO_349000
            clear HO_354000
            clear BK335
            clear BK344
            clear BK348
            clear BK353
            clear HB
            have HO_345000 := n0_
            have HO_349000 := n1_
            have HO_354000 := n2_
            have HO357 := n3_
            have BK335 := n4_
            have BK344 := n5_
            have BK348 := n6_
            have BK353 := n7_
            have HB := n8_
            clear n0_ n1_ n2_ n3_ n4_ n5_ n6_ n7_ n8_
            (try clear hb)
            (try clear hb2)
            (try clear hk)
            (try clear hi)
            (try clear ho0); (try clear hF0)
            obtain ⟨Ao179, co179, eo179⟩ := XS_slice HO357.out
            (first | subst eo179 | (injection eo179 with f1_ f2_ f3_; have f4_ := f1_.symm; have f5_ := f3_.symm; clear f1_ f2_ f3_; subst f4_; subst f5_))
            refine hK.out _ _ ⟨(blk_cell BK348.out 0).trans rfl, (blk_cell BK335.out 0).trans rfl⟩ (fun hHeld => ?_)
            clear hK K
            refine norm_ (a' := ?_) ?_ ?_
            rotate_left
            · show Act.put _ (some 51) _ = _
              simp only [Act.put, List.setIfInBounds_toArray, List.set_cons_zero, List.set_cons_succ, i64_w, i32_w]
              rfl
            refine one_ (i := 3) (N := some 52) #[true, true, true, true, false] rfl rfl (by kernel_rfl) (by decide) (fun K hK => ?_)
            refine goes_ Try.func28 (by kernel_rfl) rfl #[.agg #[.slice Ao28 t345.length co28], .agg #[.slice Ao179 t355.length co179]] (by rfl) rfl rfl q11_2 ?_
            with_reducible refine (laws_eqRough.calls kj12 _ _ t345 _ _ t355 false _ ?side1 ?side2 ?side3 ?side4 A59.out).mono ?_
            (case side1 => exact q11_58)
            (case side2 => exact (XS_reads HO_349000.out).2.1)
            (case side3 => exact q11_60)
            (case side4 => exact (XS_reads HO357.out).2.1)
            rintro e w180 ⟨rfl, hb⟩
            refine ⟨_, rfl, ?_⟩
            have n0_ := Aside0.mk (XS_below q11_7 hb)
            have n1_ := Aside0.mk (XS_below q11_8 hb)
            have n2_ := Aside0.mk (XS_below q11_9 hb)
            have n3_ := Aside0.mk (XS_below q11_26 hb)
            have n4_ := Aside0.mk (blk_below (g := gb335) (o := .cells #[.slice A0_0 l0_0.length c0_0] 44 (0, 0)) q11_1 hb)
            have n5_ := Aside0.mk (blk_below (g := gb344) (o := .cells #[.slice Ao22 t340.length co22] 25 (0, 0)) q11_3 hb)
            have n6_ := Aside0.mk (blk_below (g := gb348) (o := .cells #[.slice Ao28 t345.length co28] 25 (0, 0)) q11_5 hb)
            have n7_ := Aside0.mk (blk_below (g := gb353) (o := .cells #[.slice Ao34 t349.length co34] 25 (0, 0)) q11_6 hb)
            have n8_ := Aside0.mk (below_step q11_0 hb)
            clear HO_345000
            clear HO_349000
            clear HO_354000
            clear HO357
            clear BK335
            clear BK344
            clear BK348
            clear BK353
            clear HB
            have HO_345000 := n0_
            have HO_349000 := n1_
            have HO_354000 := n2_
            have HO357 := n3_
            have BK335 := n4_
            have BK344 := n5_
            have BK348 := n6_
            have BK353 := n7_
            have HB := n8_
            clear n0_ n1_ n2_ n3_ n4_ n5_ n6_ n7_ n8_
            (try clear hb)
            (try clear hb2)
            (try clear hk)
            (try clear hi)
            refine hK.out _ _ ⟨(blk_cell BK348.out 0).trans rfl, (blk_cell BK335.out 0).trans rfl⟩ (fun hHeld => ?_)
            clear hK K
            refine norm_ (a' := ?_) ?_ ?_
            rotate_left
            · show Act.put _ (some 52) _ = _
              simp only [Act.put, List.setIfInBounds_toArray, List.set_cons_zero, List.set_cons_succ, i64_w, i32_w]
              rfl
            refine pure_ (i := 4) (N := some 53) (v := ?_) (a' := ?_) #[true, true, true, true, true] rfl rfl (by kernel_rfl) (fun _ _ _ h => h) (Or.inl ⟨by rfl, ?_⟩) ?_ ?_
            rotate_left
            · intro w'
              go_simp
              with_reducible rfl
            rotate_left
            · simp only [Act.put, List.setIfInBounds_toArray, List.set_cons_zero, List.set_cons_succ, i64_w, i32_w]
              rfl
            refine done_ (by kernel_rfl) ?_
            try go_wp2
            go_ret
            exact ⟨q11_15, q11_0⟩

end Go.Proofs.Ytojhkhpgahhacaa.PA
