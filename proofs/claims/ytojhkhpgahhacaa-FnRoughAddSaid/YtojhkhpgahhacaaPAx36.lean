-- Made by a program of this session (wip/tools/pr2.sh) out of the translation, by way of the printer: shared by the seat's laws.
import Derived.Test.YtojhkhpgahhacaaPAx0
import Derived.Test.YtojhkhpgahhacaaPAx7
import Derived.Test.YtojhkhpgahhacaaPAx14
import Derived.Test.YtojhkhpgahhacaaPAx15
import Derived.Test.YtojhkhpgahhacaaPAx23
import Derived.Test.YtojhkhpgahhacaaPAx30
import Derived.Test.YtojhkhpgahhacaaPAx33
import Derived.Test.YtojhkhpgahhacaaPAx35
namespace Go.Proofs.Ytojhkhpgahhacaa.PA
open Go.RowKit Go.Proofs.YtojhkhpgahhacaaW.PrintWords Go.Proofs.YtojhkhpgahhacaaW.PrintLast Go.Proofs.YtojhkhpgahhacaaW.PrintMore
attribute [local go_sem] max2_int min2_int max_two min_two max_three min_three max_four min_four   -- for this text's walks alone
set_option linter.unusedVariables false
set_option linter.unusedSimpArgs false

/-! ### laws_FnRoughAdd: function 6 -/
mutual
def laws_FnRoughAdd.j0 : Nat → Int → Int → Bool → Bool → Bool → List (List Int) → List (List Int) → List (List Int) → Option (Bool)
  | 0, _, _, _, _, _, _, _, _ => none
  | k + 1, x4, x5, x7, x9, x48, x482000, x487000, x492000 => if x48 = true then (if (x9 == x7) = true then ((laws_lkRough.f k x492000 x487000).bind fun t493 => (some t493)) else (some false)) else (laws_FnRoughAdd.l0 k x4 x5 0 x482000 x492000)
def laws_FnRoughAdd.l0 : Nat → Int → Int → Int → List (List Int) → List (List Int) → Option (Bool)
  | 0, _, _, _, _, _ => none
  | k + 1, x4, x5, x10, x482000, x492000 => if x10 < 3 then (laws_FnRoughAdd.l1 k x4 x5 x10 0 x482000 x492000) else ((impl_RoughOk.f k x492000).bind fun t494 => (if t494 = true then ((impl_RoughAll.f k x492000).bind fun t495 => ((impl_RoughAll.f k x482000).bind fun t496 => (some (t495 == (wrap64 (t496 + x5)))))) else (some false)))
def laws_FnRoughAdd.l1 : Nat → Int → Int → Int → Int → List (List Int) → List (List Int) → Option (Bool)
  | 0, _, _, _, _, _, _ => none
  | k + 1, x4, x5, x10, x11, x482000, x492000 => if x11 < 8 then ((impl_RoughPlace.f x10 x4).bind fun t497 => (if x11 = t497 then (if 0 ≤ x10 then (if x10 < (x492000.length : Int) then (if 0 ≤ x11 then (if x11 < ((rd_L2 x492000 x10).length : Int) then (if x10 < (x482000.length : Int) then (if x11 < ((rd_L2 x482000 x10).length : Int) then (if (rd (rd_L2 x492000 x10) x11) = (wrap64 ((rd (rd_L2 x482000 x10) x11) + x5)) then (laws_FnRoughAdd.l1 k x4 x5 x10 (wrap64 (x11 + 1)) x482000 x492000) else (some false)) else (none)) else (none)) else (none)) else (none)) else (none)) else (none)) else (if 0 ≤ x10 then (if x10 < (x492000.length : Int) then (if 0 ≤ x11 then (if x11 < ((rd_L2 x492000 x10).length : Int) then (if x10 < (x482000.length : Int) then (if x11 < ((rd_L2 x482000 x10).length : Int) then (if (rd (rd_L2 x492000 x10) x11) = (wrap64 ((rd (rd_L2 x482000 x10) x11) + 0)) then (laws_FnRoughAdd.l1 k x4 x5 x10 (wrap64 (x11 + 1)) x482000 x492000) else (some false)) else (none)) else (none)) else (none)) else (none)) else (none)) else (none)))) else (laws_FnRoughAdd.l0 k x4 x5 (wrap64 (x10 + 1)) x482000 x492000)
end
def laws_FnRoughAdd.f (k : Nat) (l0 : List Int) : Option (Bool) := if (l0.length : Int) > 1048576 then (some true) else ((spec_DrawRoughAdd.f k l0).bind fun bt476 => ((spec_RoughAdd.f k bt476.1 bt476.2.1 bt476.2.2).bind fun bt482 => ((impl_RoughAdd.f k bt476.1 bt476.2.1 bt476.2.2).bind fun bt487 => (if (bt487.2 != bt482.2) = true then (laws_FnRoughAdd.j0 k bt476.2.1 bt476.2.2 bt482.2 bt487.2 true bt476.1 bt482.1 bt487.1) else ((laws_lkRough.f k bt487.1 bt482.1).bind fun t492 => (if t492 = true then (laws_FnRoughAdd.j0 k bt476.2.1 bt476.2.2 bt482.2 bt487.2 (!bt487.2) bt476.1 bt482.1 bt487.1) else (laws_FnRoughAdd.j0 k bt476.2.1 bt476.2.2 bt482.2 bt487.2 true bt476.1 bt482.1 bt487.1)))))))
theorem laws_FnRoughAdd.mono_l : ∀ k, (∀ y0 y1 y2 y3 y4 y5 y6 y7, LeO (laws_FnRoughAdd.j0 k y0 y1 y2 y3 y4 y5 y6 y7) (laws_FnRoughAdd.j0 (k + 1) y0 y1 y2 y3 y4 y5 y6 y7)) ∧ (∀ y0 y1 y2 y3 y4, LeO (laws_FnRoughAdd.l0 k y0 y1 y2 y3 y4) (laws_FnRoughAdd.l0 (k + 1) y0 y1 y2 y3 y4)) ∧ (∀ y0 y1 y2 y3 y4 y5, LeO (laws_FnRoughAdd.l1 k y0 y1 y2 y3 y4 y5) (laws_FnRoughAdd.l1 (k + 1) y0 y1 y2 y3 y4 y5))
  | 0 => ⟨fun _ _ _ _ _ _ _ _ r h => by simp [laws_FnRoughAdd.j0] at h, fun _ _ _ _ _ r h => by simp [laws_FnRoughAdd.l0] at h, fun _ _ _ _ _ _ r h => by simp [laws_FnRoughAdd.l1] at h⟩
  | k + 1 => by
    obtain ⟨ih0, ih1, ih2⟩ := laws_FnRoughAdd.mono_l k
    refine ⟨?_, ?_, ?_⟩
    · intro y0 y1 y2 y3 y4 y5 y6 y7
      unfold laws_FnRoughAdd.j0
      repeat' first
      | (with_reducible exact ih0 _ _ _ _ _ _ _ _)
      | (with_reducible exact ih1 _ _ _ _ _)
      | (with_reducible exact ih2 _ _ _ _ _ _)
      | (with_reducible exact impl_RoughAdd.mono _ _ _ _)
      | (with_reducible exact impl_RoughAll.mono _ _)
      | (with_reducible exact impl_RoughOk.mono _ _)
      | (with_reducible exact laws_lkRough.mono _ _ _)
      | (with_reducible exact spec_DrawRoughAdd.mono _ _)
      | (with_reducible exact spec_RoughAdd.mono _ _ _ _)
      | (with_reducible exact LeO.refl _)
      | (with_reducible exact LeO.none _)
      | (with_reducible refine LeO.ite ?_ ?_)
      | (with_reducible refine LeO.bind ?_ (fun _ => ?_))
      | exact ih0 _ _ _ _ _ _ _ _
      | exact ih1 _ _ _ _ _
      | exact ih2 _ _ _ _ _ _
      | exact impl_RoughAdd.mono _ _ _ _
      | exact impl_RoughAll.mono _ _
      | exact impl_RoughOk.mono _ _
      | exact laws_lkRough.mono _ _ _
      | exact spec_DrawRoughAdd.mono _ _
      | exact spec_RoughAdd.mono _ _ _ _
      | exact LeO.none _
      | refine LeO.ite ?_ ?_
      | refine LeO.bind ?_ (fun _ => ?_)
    · intro y0 y1 y2 y3 y4
      unfold laws_FnRoughAdd.l0
      repeat' first
      | (with_reducible exact ih0 _ _ _ _ _ _ _ _)
      | (with_reducible exact ih1 _ _ _ _ _)
      | (with_reducible exact ih2 _ _ _ _ _ _)
      | (with_reducible exact impl_RoughAdd.mono _ _ _ _)
      | (with_reducible exact impl_RoughAll.mono _ _)
      | (with_reducible exact impl_RoughOk.mono _ _)
      | (with_reducible exact laws_lkRough.mono _ _ _)
      | (with_reducible exact spec_DrawRoughAdd.mono _ _)
      | (with_reducible exact spec_RoughAdd.mono _ _ _ _)
      | (with_reducible exact LeO.refl _)
      | (with_reducible exact LeO.none _)
      | (with_reducible refine LeO.ite ?_ ?_)
      | (with_reducible refine LeO.bind ?_ (fun _ => ?_))
      | exact ih0 _ _ _ _ _ _ _ _
      | exact ih1 _ _ _ _ _
      | exact ih2 _ _ _ _ _ _
      | exact impl_RoughAdd.mono _ _ _ _
      | exact impl_RoughAll.mono _ _
      | exact impl_RoughOk.mono _ _
      | exact laws_lkRough.mono _ _ _
      | exact spec_DrawRoughAdd.mono _ _
      | exact spec_RoughAdd.mono _ _ _ _
      | exact LeO.none _
      | refine LeO.ite ?_ ?_
      | refine LeO.bind ?_ (fun _ => ?_)
    · intro y0 y1 y2 y3 y4 y5
      unfold laws_FnRoughAdd.l1
      repeat' first
      | (with_reducible exact ih0 _ _ _ _ _ _ _ _)
      | (with_reducible exact ih1 _ _ _ _ _)
      | (with_reducible exact ih2 _ _ _ _ _ _)
      | (with_reducible exact impl_RoughAdd.mono _ _ _ _)
      | (with_reducible exact impl_RoughAll.mono _ _)
      | (with_reducible exact impl_RoughOk.mono _ _)
      | (with_reducible exact laws_lkRough.mono _ _ _)
      | (with_reducible exact spec_DrawRoughAdd.mono _ _)
      | (with_reducible exact spec_RoughAdd.mono _ _ _ _)
      | (with_reducible exact LeO.refl _)
      | (with_reducible exact LeO.none _)
      | (with_reducible refine LeO.ite ?_ ?_)
      | (with_reducible refine LeO.bind ?_ (fun _ => ?_))
      | exact ih0 _ _ _ _ _ _ _ _
      | exact ih1 _ _ _ _ _
      | exact ih2 _ _ _ _ _ _
      | exact impl_RoughAdd.mono _ _ _ _
      | exact impl_RoughAll.mono _ _
      | exact impl_RoughOk.mono _ _
      | exact laws_lkRough.mono _ _ _
      | exact spec_DrawRoughAdd.mono _ _
      | exact spec_RoughAdd.mono _ _ _ _
      | exact LeO.none _
      | refine LeO.ite ?_ ?_
      | refine LeO.bind ?_ (fun _ => ?_)
theorem laws_FnRoughAdd.mono : ∀ a0 k, LeO (laws_FnRoughAdd.f k a0) (laws_FnRoughAdd.f (k + 1) a0) := by
  intro a0 k
  obtain ⟨ih0, ih1, ih2⟩ := laws_FnRoughAdd.mono_l k
  unfold laws_FnRoughAdd.f
  repeat' first
      | (with_reducible exact ih0 _ _ _ _ _ _ _ _)
      | (with_reducible exact ih1 _ _ _ _ _)
      | (with_reducible exact ih2 _ _ _ _ _ _)
      | (with_reducible exact impl_RoughAdd.mono _ _ _ _)
      | (with_reducible exact impl_RoughAll.mono _ _)
      | (with_reducible exact impl_RoughOk.mono _ _)
      | (with_reducible exact laws_lkRough.mono _ _ _)
      | (with_reducible exact spec_DrawRoughAdd.mono _ _)
      | (with_reducible exact spec_RoughAdd.mono _ _ _ _)
      | (with_reducible exact LeO.refl _)
      | (with_reducible exact LeO.none _)
      | (with_reducible refine LeO.ite ?_ ?_)
      | (with_reducible refine LeO.bind ?_ (fun _ => ?_))
      | exact ih0 _ _ _ _ _ _ _ _
      | exact ih1 _ _ _ _ _
      | exact ih2 _ _ _ _ _ _
      | exact impl_RoughAdd.mono _ _ _ _
      | exact impl_RoughAll.mono _ _
      | exact impl_RoughOk.mono _ _
      | exact laws_lkRough.mono _ _ _
      | exact spec_DrawRoughAdd.mono _ _
      | exact spec_RoughAdd.mono _ _ _ _
      | exact LeO.none _
      | refine LeO.ite ?_ ?_
      | refine LeO.bind ?_ (fun _ => ?_)
def laws_FnRoughAdd.T17 : Bool × List (List Nat × List Nat) := (true, [([], []), ([0], [0]), ([], []), ([1, 2], [1, 2]), ([3], [3]), ([], []), ([4, 5], [4, 5]), ([6], [6]), ([], []), ([8], [8]), ([], []), ([9, 10], [9, 10]), ([11], [11]), ([], []), ([12, 13], [12, 13]), ([14], [14]), ([], []), ([15, 16], [15, 16]), ([7, 17], [7, 17])])
def laws_FnRoughAdd.B17 : List Nat := [0, 1, 0, 7, 15, 0, 63, 127, 0, 256, 0, 1792, 3840, 0, 16128, 32512, 0, 130816, 262143]
theorem laws_FnRoughAdd.tab17 : rtab .any (opsOf Try.f6 17) = laws_FnRoughAdd.T17 := by kernel_rfl
theorem laws_FnRoughAdd.bits17 : waitsOk laws_FnRoughAdd.T17.2 laws_FnRoughAdd.B17 = true := by kernel_rfl
def laws_FnRoughAdd.T19 : Bool × List (List Nat × List Nat) := (true, [([], []), ([0], [0]), ([1, 1], [1]), ([2], [2]), ([3, 2, 2], [2, 3]), ([2], [2]), ([5, 4, 2], [2, 5]), ([2], [2]), ([6, 7, 2], [2, 6, 7]), ([4, 8, 2], [2, 4, 8]), ([2, 9], [2, 9]), ([10, 6, 0, 1, 2, 3, 4, 5, 6, 7, 8, 9, 10], [10])])
def laws_FnRoughAdd.B19 : List Nat := [0, 1, 3, 7, 15, 7, 63, 7, 255, 511, 1023, 2047]
theorem laws_FnRoughAdd.tab19 : rtab .any (opsOf Try.f6 19) = laws_FnRoughAdd.T19 := by kernel_rfl
theorem laws_FnRoughAdd.bits19 : waitsOk laws_FnRoughAdd.T19.2 laws_FnRoughAdd.B19 = true := by kernel_rfl
theorem q6_0 {p : Prop} (h : p := by repeat (first | (with_reducible first | exact HB.out | apply below_alloc | apply pw_below_drewN | apply below_drew1 | refine below_set ?_ GE481.out | refine below_set ?_ GE486.out | refine below_set ?_ GE491.out) | exact HB.out)) : p := h
theorem q6_1 {p : Prop} (h : p := by (with_reducible repeat (first | refine blk_drewN ?_ _ | refine blk_drew ?_ | refine blk_alloc ?_ _)); exact BK481.out) : p := h
theorem q6_2 {p : Prop} (h : p := by (try simp only [List.map_toArray, List.map_cons, List.map_nil]); first | done | rfl | (simp only [List.length_drop, List.length_take]; rfl)) : p := h
theorem q6_3 {p : Prop} (h : p := by first | (with_reducible assumption) | assumption) : p := h
theorem q6_4 {p : Prop} (h : p := by (with_reducible repeat (first | refine blk_drewN ?_ _ | refine blk_drew ?_ | refine blk_alloc ?_ _)); exact BK486.out) : p := h
theorem q6_5 {p : Prop} (h : p := by (with_reducible repeat (first | refine blk_drewN ?_ _ | refine blk_drew ?_ | refine blk_alloc ?_ _)); exact BK491.out) : p := h
theorem q6_6 {p : Prop} (h : p := by (with_reducible repeat (first | apply Kd.Q_alloc | apply Kd.Q_drewN | apply Kd.Q_drew)); exact HO_482000.out) : p := h
theorem q6_7 {p : Prop} (h : p := by (with_reducible repeat (first | apply Kd.Q_alloc | apply Kd.Q_drewN | apply Kd.Q_drew)); exact HO_487000.out) : p := h
theorem q6_8 {p : Prop} (h : p := by (with_reducible repeat (first | apply Kd.Q_alloc | apply Kd.Q_drewN | apply Kd.Q_drew)); exact HO_492000.out) : p := h
theorem q6_9 {p : Prop} (h : p := by repeat (first | (with_reducible first | exact HB.out | apply below_alloc | apply pw_below_drewN | apply below_drew1 | refine below_set ?_ GE481.out | refine below_set ?_ GE486.out) | exact HB.out)) : p := h
theorem q6_10 {p : Prop} (h : p := by (with_reducible repeat (first | apply Kd.S_alloc | apply Kd.S_drewN | apply Kd.S_drew)); exact (Kd.S_mono (Kd.S_far (p := ⟨gb491, 0, none⟩) (Kd.S_types HO489.out BK491.out (by decide)) (fun _ hk => hk.2) (.slice Ao19 t487.length co19)) (fun _ h_ => h_.1))) : p := h
theorem q6_11 {p : Prop} (h : p := by (with_reducible repeat (first | apply Kd.S_alloc | apply Kd.S_drewN | apply Kd.S_drew)); exact (Kd.S_mono (Kd.S_far (p := ⟨gb491, 0, none⟩) (Kd.S_types HO484.out BK491.out (by decide)) (fun _ hk => hk.2) (.slice Ao19 t487.length co19)) (fun _ h_ => h_.1))) : p := h
theorem q6_12 {p : Prop} (h : p := by repeat (first | (with_reducible first | exact HB.out | apply below_alloc | apply pw_below_drewN | apply below_drew1 | refine below_set ?_ GE481.out) | exact HB.out)) : p := h
theorem q6_13 {p : Prop} (h : p := by repeat (first | (with_reducible first | exact HB.out | apply below_alloc | apply pw_below_drewN | apply below_drew1) | exact HB.out)) : p := h
theorem q6_14 {p : Prop} (h : p := by first | rfl | (simp [errW_none, errW_some] <;> rfl) | (simp [*, errW_none, errW_some] <;> rfl)) : p := h
theorem q6_15 {p : Prop} (h : p := by repeat (first | exact (Kd.Q_reads' HO_492000.out).2.2 | (with_reducible refine Kd.C_alloc ?_ _) | (with_reducible refine Kd.C_drewN ?_ _) | (with_reducible refine Kd.C_drew ?_))) : p := h
theorem q6_16 {p : Prop} (h : p := by (with_reducible repeat (first | apply Kd.Q_alloc | apply Kd.Q_drewN | apply Kd.Q_drew)); exact (Kd.Q_mono (Kd.Q_far (p := ⟨gb486, 0, none⟩) (Kd.Q_types HO478.out BK486.out (by decide)) (fun _ hk => hk.2) (.slice Ao13 t482.length co13)) (fun _ h_ => h_.1))) : p := h
theorem q6_17 {p : Prop} (h : p := by (with_reducible repeat (first | apply Kd.Q_alloc | apply Kd.Q_drewN | apply Kd.Q_drew)); exact (Kd.Q_mono (Kd.Q_far (p := ⟨gb481, 0, none⟩) (Kd.Q_types HO478.out BK481.out (by decide)) (fun _ hk => hk.2) (.slice Ao9 t476.length co9)) (fun _ h_ => h_.1))) : p := h
theorem q6_18 {p : Prop} (h : p := by first | rfl | (simp; done) | (simp [*]; done)) : p := h
theorem q6_19 {p : Prop} (h : p := by (with_reducible repeat (first | refine blk_drewN ?_ _ | refine blk_drew ?_ | refine blk_alloc ?_ _)); refine blk_put (cs := #[.slice none 0 0]) ?_ 0 _ rfl; (with_reducible repeat (first | refine blk_drewN ?_ _ | refine blk_drew ?_ | refine blk_alloc ?_ _)); exact BK491.out) : p := h
theorem q6_20 {p : Prop} (h : p := by (with_reducible repeat (first | apply Kd.S_alloc | apply Kd.S_drewN | apply Kd.S_drew)); exact (Kd.S_mono (Kd.S_far (p := ⟨gb486, 0, none⟩) (Kd.S_types HO484.out BK486.out (by decide)) (fun _ hk => hk.2) (.slice Ao13 t482.length co13)) (fun _ h_ => h_.1))) : p := h
theorem q6_21 {p : Prop} (h : p := by (with_reducible repeat (first | apply Kd.Q_alloc | apply Kd.Q_drewN | apply Kd.Q_drew)); exact (Kd.Q_mono (Kd.Q_far (p := ⟨gb491, 0, none⟩) (Kd.Q_types HO478.out BK491.out (by decide)) (fun _ hk => hk.2) (.slice Ao19 t487.length co19)) (fun _ h_ => h_.1))) : p := h
theorem q6_22 {p : Prop} (h : p := by refine (Kd.S_reads' (e := 43) (base := w.heap.size) (ok := fun k_ => ((True ∧ some k_ ≠ (.slice Ao9 t476.length co9 : Value).ownBlock) ∧ some k_ ≠ (.slice Ao13 t482.length co13 : Value).ownBlock)) (n := t487.length) (c := co19) ?_).2.2; exact q6_10) : p := h
theorem q6_23 {p : Prop} (h : p := by refine (Kd.S_reads' (e := 43) (base := w.heap.size) (ok := fun k_ => ((True ∧ some k_ ≠ (.slice Ao9 t476.length co9 : Value).ownBlock) ∧ some k_ ≠ (.slice Ao19 t487.length co19 : Value).ownBlock)) (n := t482.length) (c := co13) ?_).2.2; exact q6_11) : p := h
theorem q6_24 {p : Prop} (h : p := by (with_reducible repeat (first | refine blk_drewN ?_ _ | refine blk_drew ?_ | refine blk_alloc ?_ _)); refine blk_far ?_ NB481_491.out _; (with_reducible repeat (first | refine blk_drewN ?_ _ | refine blk_drew ?_ | refine blk_alloc ?_ _)); exact BK481.out) : p := h
theorem q6_25 {p : Prop} (h : p := by (with_reducible repeat (first | refine blk_drewN ?_ _ | refine blk_drew ?_ | refine blk_alloc ?_ _)); refine blk_far ?_ NB486_491.out _; (with_reducible repeat (first | refine blk_drewN ?_ _ | refine blk_drew ?_ | refine blk_alloc ?_ _)); exact BK486.out) : p := h
theorem q6_26 {p : Prop} (h : p := by (with_reducible repeat (first | apply Kd.Q_alloc | apply Kd.Q_drewN | apply Kd.Q_drew)); exact HO478.out) : p := h
theorem q6_27 {p : Prop} (h : p := by repeat (first | (with_reducible exact HR498_0.out) | (with_reducible refine Kd.C_alloc ?_ _) | (with_reducible refine Kd.C_drewN ?_ _) | (with_reducible refine Kd.C_drew ?_) | exact HR498_0.out)) : p := h
theorem q6_28 {p : Prop} (h : p := by repeat (first | (with_reducible exact HR500_0.out) | (with_reducible refine Kd.C_alloc ?_ _) | (with_reducible refine Kd.C_drewN ?_ _) | (with_reducible refine Kd.C_drew ?_) | exact HR500_0.out)) : p := h
theorem q6_29 {p : Prop} (h : p := by repeat (first | (with_reducible exact HR502_0.out) | (with_reducible refine Kd.C_alloc ?_ _) | (with_reducible refine Kd.C_drewN ?_ _) | (with_reducible refine Kd.C_drew ?_) | exact HR502_0.out)) : p := h
theorem q6_30 {p : Prop} (h : p := by repeat (first | (with_reducible exact HR504_0.out) | (with_reducible refine Kd.C_alloc ?_ _) | (with_reducible refine Kd.C_drewN ?_ _) | (with_reducible refine Kd.C_drew ?_) | exact HR504_0.out)) : p := h
theorem q6_31 {p : Prop} (h : p := by (with_reducible repeat (first | apply Kd.S_alloc | apply Kd.S_drewN | apply Kd.S_drew)); exact Kd.S_mono HO484.out (fun _ hk => ⟨hk.1.2, hk.2⟩)) : p := h
theorem q6_32 {p : Prop} (h : p := by (with_reducible repeat (first | apply Kd.S_alloc | apply Kd.S_drewN | apply Kd.S_drew)); exact Kd.S_mono HO489.out (fun _ hk => ⟨hk.1.2, hk.2⟩)) : p := h
theorem q6_33 {p : Prop} (h : p := by rw [hg]; exact Nat.ne_of_lt (blk_lt (g := gb481) (o := .cells #[.slice Ao9 t476.length co9] 25 (0, 0)) q6_1)) : p := h
theorem q6_34 {p : Prop} (h : p := by rw [hg]; exact Nat.ne_of_gt (blk_lt (g := gb481) (o := .cells #[.slice Ao9 t476.length co9] 25 (0, 0)) q6_1)) : p := h
theorem q6_35 {p : Prop} (h : p := by (with_reducible repeat (first | apply Kd.S_alloc | apply Kd.S_drewN | apply Kd.S_drew)); exact HO484.out) : p := h
set_option maxHeartbeats 8000000 in
set_option maxRecDepth 100000 in
theorem laws_FnRoughAdd.calls (k : Nat) (A0 : Option Addr) (c0 : Nat) (l0 : List Int) (r : Bool) (w : World) (hr0 : Kd.C (Kd.int .u8) w A0 l0.length l0) (hc0 : l0.length ≤ c0) (h : laws_FnRoughAdd.f k l0 = some r) :
    Calls Try.prog 6 #[.slice A0 l0.length c0] w fun e w' => e = .returned (.bool r) ∧ Below w.heap.size w w' := by
  have hu25 := Try.underlying25
  have HR0 := Aside0.mk hr0
  have HC0 := Aside0.mk hc0
  clear hr0 hc0
  have HB := Aside0.mk (Below.refl w.heap.size w)
  have H : (if (l0.length : Int) > 1048576 then (some true) else ((spec_DrawRoughAdd.f k l0).bind fun bt476 => ((spec_RoughAdd.f k bt476.1 bt476.2.1 bt476.2.2).bind fun bt482 => ((impl_RoughAdd.f k bt476.1 bt476.2.1 bt476.2.2).bind fun bt487 => (if (bt487.2 != bt482.2) = true then (laws_FnRoughAdd.j0 k bt476.2.1 bt476.2.2 bt482.2 bt487.2 true bt476.1 bt482.1 bt487.1) else ((laws_lkRough.f k bt487.1 bt482.1).bind fun t492 => (if t492 = true then (laws_FnRoughAdd.j0 k bt476.2.1 bt476.2.2 bt482.2 bt487.2 (!bt487.2) bt476.1 bt482.1 bt487.1) else (laws_FnRoughAdd.j0 k bt476.2.1 bt476.2.2 bt482.2 bt487.2 true bt476.1 bt482.1 bt487.1)))))))) = some r := h
  clear h
  by_cases c2 : (l0.length : Int) > 1048576
  · rw [if_pos c2] at H
    have c2b0 : decide (1048576 < (l0.length : Int)) = true := decide_eq_true c2
    have c2b1 : decide (1048576 < l0.length) = true := decide_eq_true (by omega)
    clear c2
    obtain rfl := Option.some.inj H
    go_enter Try.func6, Try.ntmps6
    go_wp2
    go_ret
    exact ⟨q6_14, q6_13⟩
  · rw [if_neg c2] at H
    have c2b0 : decide (1048576 < (l0.length : Int)) = false := decide_eq_false c2
    have c2b1 : decide (1048576 < l0.length) = false := decide_eq_false (by omega)
    clear c2
    replace H := Option.bind_eq_some_iff.mp H
    obtain ⟨⟨t476, t479, t480⟩, A30, H⟩ := H
    replace H : ((spec_RoughAdd.f k t476 t479 t480).bind fun bt482 => ((impl_RoughAdd.f k t476 t479 t480).bind fun bt487 => (if (bt487.2 != bt482.2) = true then (laws_FnRoughAdd.j0 k t479 t480 bt482.2 bt487.2 true t476 bt482.1 bt487.1) else ((laws_lkRough.f k bt487.1 bt482.1).bind fun t492 => (if t492 = true then (laws_FnRoughAdd.j0 k t479 t480 bt482.2 bt487.2 (!bt487.2) t476 bt482.1 bt487.1) else (laws_FnRoughAdd.j0 k t479 t480 bt482.2 bt487.2 true t476 bt482.1 bt487.1)))))) = some r := H
    have A3 := Aside0.mk A30
    clear A30
    replace H := Option.bind_eq_some_iff.mp H
    obtain ⟨⟨t482, t485⟩, A40, H⟩ := H
    replace H : ((impl_RoughAdd.f k t476 t479 t480).bind fun bt487 => (if (bt487.2 != t485) = true then (laws_FnRoughAdd.j0 k t479 t480 t485 bt487.2 true t476 t482 bt487.1) else ((laws_lkRough.f k bt487.1 t482).bind fun t492 => (if t492 = true then (laws_FnRoughAdd.j0 k t479 t480 t485 bt487.2 (!bt487.2) t476 t482 bt487.1) else (laws_FnRoughAdd.j0 k t479 t480 t485 bt487.2 true t476 t482 bt487.1))))) = some r := H
    have A4 := Aside0.mk A40
    clear A40
    replace H := Option.bind_eq_some_iff.mp H
    obtain ⟨⟨t487, t490⟩, A50, H⟩ := H
    replace H : (if (t490 != t485) = true then (laws_FnRoughAdd.j0 k t479 t480 t485 t490 true t476 t482 t487) else ((laws_lkRough.f k t487 t482).bind fun t492 => (if t492 = true then (laws_FnRoughAdd.j0 k t479 t480 t485 t490 (!t490) t476 t482 t487) else (laws_FnRoughAdd.j0 k t479 t480 t485 t490 true t476 t482 t487)))) = some r := H
    have A5 := Aside0.mk A50
    clear A50
    have HC6 := Aside0.mk H
    clear H
    go_enter Try.func6, Try.ntmps6
    go_upto_region 6 with (first | ((with_reducible refine gate_callee (f := 23) rfl ?_); refine goesL_ (some 18) rfl rfl Try.func23 (by kernel_rfl) rfl #[.slice A0 l0.length c0] rfl q6_2 ?_; (with_reducible refine (spec_DrawRoughAdd.calls k _ _ l0 t476 t479 t480 _ ?side1 ?side2 A3.out).mono ?_); (case side1 => repeat (first | exact HR0.out | (with_reducible refine Kd.C_alloc ?_ _) | (with_reducible refine Kd.C_drewN ?_ _) | (with_reducible refine Kd.C_drew ?_))); (case side2 => exact HC0.out); rintro e w7 ⟨v477, rfl, ho0, hb⟩; refine ⟨_, rfl, ?_⟩; have n0_ := Aside0.mk (Kd.Q_lower ho0 (below_size q6_13)); have n1_ := Aside0.mk (below_step q6_13 hb); clear HB; have HO478 := n0_; have HB := n1_; clear n0_ n1_; (try clear hb); (try clear hb2); (try clear hk); (try clear hi); (try clear ho0)) | ((with_reducible refine gate_dst (N := 3) rfl ?_); refine box_event ?hg (N := 3) ?hd (cs := #[.slice none 0 0]) (t := 25) ?hr ?_; (case hd => rfl); (case hg => rfl); (case hr => first | (go_simp; done) | (go_simp; rfl)); intro gb481 hg w8 hbox hb; have n0_ := Aside0.mk (Kd.Q_below q6_26 hb); have n1_ := Aside0.mk (below_step q6_13 hb); have n2_ := Aside0.mk (hbox); have n3_ := Aside0.mk ((by rw [hg]; exact (below_size q6_13) : w.heap.size ≤ gb481)); have n4_ := Aside0.mk ((by rw [hg]; exact (below_size q6_13) : w.heap.size ≤ gb481)); clear HO478; clear HB; have HO478 := n0_; have HB := n1_; have BK481 := n2_; have GW481 := n3_; have GE481 := n4_; clear n0_ n1_ n2_ n3_ n4_; clear hb hbox hg; obtain ⟨Ao9, co9, eo9, _⟩ := Kd.Q_slice HO478.out; subst eo9; have hcz10_0 : w8.cell? ⟨gb481, 0, none⟩ = some (.slice none 0 0) := (blk_cell BK481.out 0).trans rfl; have hfz10_0 := blk_frozen BK481.out 0) | ((with_reducible refine gate_callee (f := 24) rfl ?_); refine goesL_ (some 26) rfl rfl Try.func24 (by kernel_rfl) rfl #[.agg #[.slice Ao9 t476.length co9], .int .i64 t479, .int .i64 t480] rfl q6_2 ?_; (with_reducible refine (spec_RoughAdd.calls k _ _ t476 t479 t480 t482 t485 _ ?side1 ?side2 A4.out).mono ?_); (case side1 => refine (Kd.Q_reads' (e := 43) (base := w.heap.size) (ok := fun k_ => True) (n := t476.length) (c := co9) ?_).2.2; exact q6_17); (case side2 => exact (Kd.Q_reads' HO478.out).2.1); rintro e w11 ⟨v483, rfl, ho0, hb⟩; refine ⟨_, rfl, ?_⟩; have n0_ := Aside0.mk (Kd.Q_elder' q6_17 (Kd.S_base ho0) hb); have n1_ := Aside0.mk (Kd.S_lower (Kd.S_new' ho0 (Kd.Q_lt q6_17)) (below_size q6_12)); have n2_ := Aside0.mk (blk_below (g := gb481) (o := .cells #[.slice Ao9 t476.length co9] 25 (0, 0)) (by (with_reducible repeat (first | refine blk_drewN ?_ _ | refine blk_drew ?_ | refine blk_alloc ?_ _)); refine blk_put (cs := #[.slice none 0 0]) ?_ 0 _ rfl; (with_reducible repeat (first | refine blk_drewN ?_ _ | refine blk_drew ?_ | refine blk_alloc ?_ _)); exact BK481.out) hb); have n3_ := Aside0.mk (below_step q6_12 hb); clear HO478; clear BK481; clear HB; have HO478 := n0_; have HO484 := n1_; have BK481 := n2_; have HB := n3_; clear n0_ n1_ n2_ n3_; (try clear hb); (try clear hb2); (try clear hk); (try clear hi); (try clear ho0)) | ((with_reducible refine gate_dst (N := 6) rfl ?_); refine box_event ?hg (N := 6) ?hd (cs := #[.slice none 0 0]) (t := 25) ?hr ?_; (case hd => rfl); (case hg => rfl); (case hr => first | (go_simp; done) | (go_simp; rfl)); intro gb486 hg w12 hbox hb; have n0_ := Aside0.mk (Kd.Q_below q6_26 hb); have n1_ := Aside0.mk (Kd.S_below q6_35 hb); have n2_ := Aside0.mk (blk_below (g := gb481) (o := .cells #[.slice Ao9 t476.length co9] 25 (0, 0)) q6_1 hb); have n3_ := Aside0.mk (below_step q6_12 hb); have n4_ := Aside0.mk (hbox); have n5_ := Aside0.mk ((by rw [hg]; exact (below_size q6_12) : w.heap.size ≤ gb486)); have n6_ := Aside0.mk ((by rw [hg]; exact (below_size q6_12) : w.heap.size ≤ gb486)); have n7_ := Aside0.mk ((q6_33 : gb481 ≠ gb486)); have n8_ := Aside0.mk ((q6_34 : gb486 ≠ gb481)); clear HO478; clear HO484; clear BK481; clear HB; have HO478 := n0_; have HO484 := n1_; have BK481 := n2_; have HB := n3_; have BK486 := n4_; have GW486 := n5_; have GE486 := n6_; have NB481_486 := n7_; have NB486_481 := n8_; clear n0_ n1_ n2_ n3_ n4_ n5_ n6_ n7_ n8_; clear hb hbox hg; obtain ⟨Ao13, co13, eo13⟩ := Kd.S_slice HO484.out; subst eo13; have hnb14 := NB486_481.out; have hnc14 := NB481_486.out; have hcz15_0 : w12.cell? ⟨gb486, 0, none⟩ = some (.slice none 0 0) := (blk_cell BK486.out 0).trans rfl; have hfz15_0 := blk_frozen BK486.out 0; have hcz16_0 : w12.cell? ⟨gb481, 0, none⟩ = some (.slice Ao9 t476.length co9) := (blk_cell BK481.out 0).trans rfl; have hfz16_0 := blk_frozen BK481.out 0) | ((with_reducible refine gate_callee (f := 22) rfl ?_); refine goesL_ (some 33) rfl rfl Try.func22 (by kernel_rfl) rfl #[.agg #[.slice Ao9 t476.length co9], .int .i64 t479, .int .i64 t480] rfl q6_2 ?_; (with_reducible refine (impl_RoughAdd.calls k _ _ t476 t479 t480 t487 t490 _ ?side1 ?side2 A5.out).mono ?_); (case side1 => refine (Kd.Q_reads' (e := 43) (base := w.heap.size) (ok := fun k_ => (True ∧ some k_ ≠ (.slice Ao13 t482.length co13 : Value).ownBlock)) (n := t476.length) (c := co9) ?_).2.2; exact q6_16); (case side2 => exact (Kd.Q_reads' HO478.out).2.1); rintro e w17 ⟨v488, rfl, ho0, hb⟩; refine ⟨_, rfl, ?_⟩; have n0_ := Aside0.mk (Kd.Q_elder' q6_16 (Kd.S_base ho0) hb); have n1_ := Aside0.mk (Kd.S_elder' q6_20 (Kd.S_base ho0) hb); have n2_ := Aside0.mk (Kd.S_lower (Kd.S_new' (Kd.S_new' ho0 (Kd.Q_lt q6_16)) (Kd.S_lt q6_20)) (below_size q6_9)); have n3_ := Aside0.mk (blk_below (g := gb481) (o := .cells #[.slice Ao9 t476.length co9] 25 (0, 0)) (by (with_reducible repeat (first | refine blk_drewN ?_ _ | refine blk_drew ?_ | refine blk_alloc ?_ _)); refine blk_far ?_ NB481_486.out _; (with_reducible repeat (first | refine blk_drewN ?_ _ | refine blk_drew ?_ | refine blk_alloc ?_ _)); exact BK481.out) hb); have n4_ := Aside0.mk (blk_below (g := gb486) (o := .cells #[.slice Ao13 t482.length co13] 25 (0, 0)) (by (with_reducible repeat (first | refine blk_drewN ?_ _ | refine blk_drew ?_ | refine blk_alloc ?_ _)); refine blk_put (cs := #[.slice none 0 0]) ?_ 0 _ rfl; (with_reducible repeat (first | refine blk_drewN ?_ _ | refine blk_drew ?_ | refine blk_alloc ?_ _)); exact BK486.out) hb); have n5_ := Aside0.mk (below_step q6_9 hb); clear HO478; clear HO484; clear BK481; clear BK486; clear HB; have HO478 := n0_; have HO484 := n1_; have HO489 := n2_; have BK481 := n3_; have BK486 := n4_; have HB := n5_; clear n0_ n1_ n2_ n3_ n4_ n5_; (try clear hb); (try clear hb2); (try clear hk); (try clear hi); (try clear ho0)) | ((with_reducible refine gate_dst (N := 8) rfl ?_); refine box_event ?hg (N := 8) ?hd (cs := #[.slice none 0 0]) (t := 25) ?hr ?_; (case hd => rfl); (case hg => rfl); (case hr => first | (go_simp; done) | (go_simp; rfl)); intro gb491 hg w18 hbox hb; have n0_ := Aside0.mk (Kd.Q_below q6_26 hb); have n1_ := Aside0.mk (Kd.S_below q6_35 hb); have n2_ := Aside0.mk (Kd.S_below (by (with_reducible repeat (first | apply Kd.S_alloc | apply Kd.S_drewN | apply Kd.S_drew)); exact HO489.out) hb); have n3_ := Aside0.mk (blk_below (g := gb481) (o := .cells #[.slice Ao9 t476.length co9] 25 (0, 0)) q6_1 hb); have n4_ := Aside0.mk (blk_below (g := gb486) (o := .cells #[.slice Ao13 t482.length co13] 25 (0, 0)) q6_4 hb); have n5_ := Aside0.mk (below_step q6_9 hb); have n6_ := Aside0.mk (hbox); have n7_ := Aside0.mk ((by rw [hg]; exact (below_size q6_9) : w.heap.size ≤ gb491)); have n8_ := Aside0.mk ((by rw [hg]; exact (below_size q6_9) : w.heap.size ≤ gb491)); have n9_ := Aside0.mk ((q6_33 : gb481 ≠ gb491)); have n10_ := Aside0.mk ((q6_34 : gb491 ≠ gb481)); have n11_ := Aside0.mk ((by rw [hg]; exact Nat.ne_of_lt (blk_lt (g := gb486) (o := .cells #[.slice Ao13 t482.length co13] 25 (0, 0)) q6_4) : gb486 ≠ gb491)); have n12_ := Aside0.mk ((by rw [hg]; exact Nat.ne_of_gt (blk_lt (g := gb486) (o := .cells #[.slice Ao13 t482.length co13] 25 (0, 0)) q6_4) : gb491 ≠ gb486)); clear HO478; clear HO484; clear HO489; clear BK481; clear BK486; clear HB; have HO478 := n0_; have HO484 := n1_; have HO489 := n2_; have BK481 := n3_; have BK486 := n4_; have HB := n5_; have BK491 := n6_; have GW491 := n7_; have GE491 := n8_; have NB481_491 := n9_; have NB491_481 := n10_; have NB486_491 := n11_; have NB491_486 := n12_; clear n0_ n1_ n2_ n3_ n4_ n5_ n6_ n7_ n8_ n9_ n10_ n11_ n12_; clear hb hbox hg; obtain ⟨Ao19, co19, eo19⟩ := Kd.S_slice HO489.out; subst eo19; have hnb20 := NB491_481.out; have hnc20 := NB481_491.out; have hnb21 := NB491_486.out; have hnc21 := NB486_491.out; have hcz22_0 : w18.cell? ⟨gb491, 0, none⟩ = some (.slice none 0 0) := (blk_cell BK491.out 0).trans rfl; have hfz22_0 := blk_frozen BK491.out 0))
    (try simp only [Act.put, List.setIfInBounds_toArray, List.set_cons_zero, List.set_cons_succ])
    go_cut [48] (fun v48 wc => ∃ (kq : Nat) (x48_5 : Bool), v48 = .bool x48_5 ∧ Aside0 (laws_FnRoughAdd.j0 kq t479 t480 t485 t490 x48_5 t476 t482 t487 = some r) ∧ Aside0 (kq ≤ k) ∧ Aside0 (Kd.Q (Kd.slice 3 (Kd.int .i64)) 43 wc w.heap.size (fun k_ => some k_ ≠ ((.slice Ao13 t482.length co13) : Value).ownBlock ∧ some k_ ≠ ((.slice Ao19 t487.length co19) : Value).ownBlock) (.slice Ao9 t476.length co9) t476) ∧ Aside0 (Kd.Q (Kd.slice 3 (Kd.int .i64)) 43 wc w.heap.size (fun k_ => some k_ ≠ ((.slice Ao9 t476.length co9) : Value).ownBlock ∧ some k_ ≠ ((.slice Ao19 t487.length co19) : Value).ownBlock) (.slice Ao13 t482.length co13) t482) ∧ Aside0 (Kd.Q (Kd.slice 3 (Kd.int .i64)) 43 wc w.heap.size (fun k_ => some k_ ≠ ((.slice Ao9 t476.length co9) : Value).ownBlock ∧ some k_ ≠ ((.slice Ao13 t482.length co13) : Value).ownBlock) (.slice Ao19 t487.length co19) t487) ∧ Aside0 (wc.heap[gb481]? = some (.cells #[(.slice Ao9 t476.length co9)] 25 (0, 0))) ∧ Aside0 (wc.heap[gb486]? = some (.cells #[(.slice Ao13 t482.length co13)] 25 (0, 0))) ∧ Aside0 (wc.heap[gb491]? = some (.cells #[(.slice Ao19 t487.length co19)] 25 (0, 0))) ∧ Aside0 (Below w.heap.size w wc))
    case first =>
      have H := HC6.out
      clear HC6
      by_cases c23 : (t490 != t485) = true
      · rw [if_pos c23] at H
        have c23b0 : (t490 != t485) = true := c23
        (try (have c23b1 : decide (t490 = t485) = false := by simpa using c23))
        (try (have c23b2 : (t490 == t485) = false := by simpa using c23))
        (try (have c23b3 : ¬ (t490 = t485) := by simpa using c23))
        clear c23
        (first | rw [c23b0] | (simp only [i64_w, i32_w]; rw [c23b0]) | skip)
        have H' := Aside0.mk H
        clear H
        go_wp2
        go_meet
        case rel => exact ⟨_, (true), q6_18, H', ⟨by first | omega | exact Nat.le_refl _⟩, ⟨by (with_reducible repeat (first | apply Kd.Q_alloc | apply Kd.Q_drewN | apply Kd.Q_drew)); exact Kd.Q_mono (Kd.Q_far (p := ⟨gb491, 0, none⟩) (Kd.Q_types HO478.out BK491.out (by decide)) (fun _ hk => hk.2) (.slice Ao19 t487.length co19)) (fun _ hk => ⟨hk.1.1.2, hk.1.2⟩)⟩, ⟨Kd.Q_of_R ((Kd.S_R (by (with_reducible repeat (first | apply Kd.S_alloc | apply Kd.S_drewN | apply Kd.S_drew)); exact Kd.S_mono (Kd.S_far (p := ⟨gb491, 0, none⟩) (Kd.S_types HO484.out BK491.out (by decide)) (fun _ hk => hk.2) (.slice Ao19 t487.length co19)) (fun _ hk => ⟨hk.1.1.2, hk.1.2⟩))))⟩, ⟨Kd.Q_of_R ((Kd.S_R (by (with_reducible repeat (first | apply Kd.S_alloc | apply Kd.S_drewN | apply Kd.S_drew)); exact Kd.S_mono (Kd.S_far (p := ⟨gb491, 0, none⟩) (Kd.S_types HO489.out BK491.out (by decide)) (fun _ hk => hk.2) (.slice Ao19 t487.length co19)) (fun _ hk => ⟨hk.1.1.2, hk.1.2⟩))))⟩, ⟨by (with_reducible repeat (first | refine blk_drewN ?_ _ | refine blk_drew ?_ | refine blk_alloc ?_ _)); refine blk_far ?_ NB481_491.out _; (with_reducible repeat (first | refine blk_drewN ?_ _ | refine blk_drew ?_ | refine blk_alloc ?_ _)); exact BK481.out⟩, ⟨by (with_reducible repeat (first | refine blk_drewN ?_ _ | refine blk_drew ?_ | refine blk_alloc ?_ _)); refine blk_far ?_ NB486_491.out _; (with_reducible repeat (first | refine blk_drewN ?_ _ | refine blk_drew ?_ | refine blk_alloc ?_ _)); exact BK486.out⟩, ⟨by (with_reducible repeat (first | refine blk_drewN ?_ _ | refine blk_drew ?_ | refine blk_alloc ?_ _)); refine blk_put (cs := #[.slice none 0 0]) ?_ 0 _ rfl; (with_reducible repeat (first | refine blk_drewN ?_ _ | refine blk_drew ?_ | refine blk_alloc ?_ _)); exact BK491.out⟩, ⟨q6_0⟩⟩
      · rw [if_neg c23] at H
        have c23b0 : (t490 != t485) = false := by simpa using c23
        (try (have c23b1 : decide (t490 = t485) = true := by simpa using c23))
        (try (have c23b2 : (t490 == t485) = true := by simpa using c23))
        clear c23
        (first | rw [c23b0] | (simp only [i64_w, i32_w]; rw [c23b0]) | skip)
        replace H := Option.bind_eq_some_iff.mp H
        obtain ⟨t492, A240, H⟩ := H
        replace H : (if t492 = true then (laws_FnRoughAdd.j0 k t479 t480 t485 t490 (!t490) t476 t482 t487) else (laws_FnRoughAdd.j0 k t479 t480 t485 t490 true t476 t482 t487)) = some r := H
        have A24 := Aside0.mk A240
        clear A240
        by_cases c25 : t492 = true
        · subst c25
          have H1 : (laws_FnRoughAdd.j0 k t479 t480 t485 t490 (!t490) t476 t482 t487) = some r := by rw [if_pos rfl] at H; exact H
          clear H
          have H := H1
          clear H1
          have H' := Aside0.mk H
          clear H
          have hnb26 := NB491_481.out
          have hnc26 := NB481_491.out
          have hnb27 := NB491_486.out
          have hnc27 := NB486_491.out
          have hcz28_0 : w18.cell? ⟨gb491, 0, none⟩ = some (.slice none 0 0) := (blk_cell BK491.out 0).trans rfl
          have hfz28_0 := blk_frozen BK491.out 0
          have hnb29 := NB486_481.out
          have hnc29 := NB481_486.out
          have hcz30_0 : w18.cell? ⟨gb486, 0, none⟩ = some (.slice Ao13 t482.length co13) := (blk_cell BK486.out 0).trans rfl
          have hfz30_0 := blk_frozen BK486.out 0
          go_wp2_with (first | (go_at_call 15; (with_reducible refine (laws_lkRough.calls k _ _ t487 _ _ t482 true _ ?side1 ?side2 ?side3 ?side4 A24.out).mono ?_); (case side1 => exact q6_22); (case side2 => exact (Kd.S_reads' HO489.out).2.1); (case side3 => exact q6_23); (case side4 => exact (Kd.S_reads' HO484.out).2.1); rintro e w31 ⟨rfl, hb⟩; have n0_ := Aside0.mk (Kd.Q_below q6_21 hb); have n1_ := Aside0.mk (Kd.S_below q6_11 hb); have n2_ := Aside0.mk (Kd.S_below q6_10 hb); have n3_ := Aside0.mk (blk_below (g := gb481) (o := .cells #[.slice Ao9 t476.length co9] 25 (0, 0)) q6_24 hb); have n4_ := Aside0.mk (blk_below (g := gb486) (o := .cells #[.slice Ao13 t482.length co13] 25 (0, 0)) q6_25 hb); have n5_ := Aside0.mk (blk_below (g := gb491) (o := .cells #[.slice Ao19 t487.length co19] 25 (0, 0)) q6_19 hb); have n6_ := Aside0.mk (below_step q6_0 hb); clear HO478; clear HO484; clear HO489; clear BK481; clear BK486; clear BK491; clear HB; have HO478 := n0_; have HO484 := n1_; have HO489 := n2_; have BK481 := n3_; have BK486 := n4_; have BK491 := n5_; have HB := n6_; clear n0_ n1_ n2_ n3_ n4_ n5_ n6_; (try clear hb); (try clear hb2); (try clear hk); (try clear hi)))
          go_meet
          case rel => exact ⟨_, (!t490), q6_18, H', ⟨by first | omega | exact Nat.le_refl _⟩, ⟨by (with_reducible repeat (first | apply Kd.Q_alloc | apply Kd.Q_drewN | apply Kd.Q_drew)); exact Kd.Q_mono HO478.out (fun _ hk => ⟨hk.1.2, hk.2⟩)⟩, ⟨Kd.Q_of_R ((Kd.S_R q6_31))⟩, ⟨Kd.Q_of_R ((Kd.S_R q6_32))⟩, ⟨by (with_reducible repeat (first | refine blk_drewN ?_ _ | refine blk_drew ?_ | refine blk_alloc ?_ _)); exact BK481.out⟩, ⟨by (with_reducible repeat (first | refine blk_drewN ?_ _ | refine blk_drew ?_ | refine blk_alloc ?_ _)); exact BK486.out⟩, ⟨by (with_reducible repeat (first | refine blk_drewN ?_ _ | refine blk_drew ?_ | refine blk_alloc ?_ _)); exact BK491.out⟩, ⟨q6_0⟩⟩
        · replace c25 := Bool.eq_false_iff.mpr c25
          subst c25
          have H1 : (laws_FnRoughAdd.j0 k t479 t480 t485 t490 true t476 t482 t487) = some r := by rw [if_neg (show ¬ (false = true) by decide)] at H; exact H
          clear H
          have H := H1
          clear H1
          have H' := Aside0.mk H
          clear H
          have hnb32 := NB491_481.out
          have hnc32 := NB481_491.out
          have hnb33 := NB491_486.out
          have hnc33 := NB486_491.out
          have hcz34_0 : w18.cell? ⟨gb491, 0, none⟩ = some (.slice none 0 0) := (blk_cell BK491.out 0).trans rfl
          have hfz34_0 := blk_frozen BK491.out 0
          have hnb35 := NB486_481.out
          have hnc35 := NB481_486.out
          have hcz36_0 : w18.cell? ⟨gb486, 0, none⟩ = some (.slice Ao13 t482.length co13) := (blk_cell BK486.out 0).trans rfl
          have hfz36_0 := blk_frozen BK486.out 0
          go_wp2_with (first | (go_at_call 15; (with_reducible refine (laws_lkRough.calls k _ _ t487 _ _ t482 false _ ?side1 ?side2 ?side3 ?side4 A24.out).mono ?_); (case side1 => exact q6_22); (case side2 => exact (Kd.S_reads' HO489.out).2.1); (case side3 => exact q6_23); (case side4 => exact (Kd.S_reads' HO484.out).2.1); rintro e w37 ⟨rfl, hb⟩; have n0_ := Aside0.mk (Kd.Q_below q6_21 hb); have n1_ := Aside0.mk (Kd.S_below q6_11 hb); have n2_ := Aside0.mk (Kd.S_below q6_10 hb); have n3_ := Aside0.mk (blk_below (g := gb481) (o := .cells #[.slice Ao9 t476.length co9] 25 (0, 0)) q6_24 hb); have n4_ := Aside0.mk (blk_below (g := gb486) (o := .cells #[.slice Ao13 t482.length co13] 25 (0, 0)) q6_25 hb); have n5_ := Aside0.mk (blk_below (g := gb491) (o := .cells #[.slice Ao19 t487.length co19] 25 (0, 0)) q6_19 hb); have n6_ := Aside0.mk (below_step q6_0 hb); clear HO478; clear HO484; clear HO489; clear BK481; clear BK486; clear BK491; clear HB; have HO478 := n0_; have HO484 := n1_; have HO489 := n2_; have BK481 := n3_; have BK486 := n4_; have BK491 := n5_; have HB := n6_; clear n0_ n1_ n2_ n3_ n4_ n5_ n6_; (try clear hb); (try clear hb2); (try clear hk); (try clear hi)))
          go_meet
          case rel => exact ⟨_, (true), q6_18, H', ⟨by first | omega | exact Nat.le_refl _⟩, ⟨by (with_reducible repeat (first | apply Kd.Q_alloc | apply Kd.Q_drewN | apply Kd.Q_drew)); exact Kd.Q_mono HO478.out (fun _ hk => ⟨hk.1.2, hk.2⟩)⟩, ⟨Kd.Q_of_R ((Kd.S_R q6_31))⟩, ⟨Kd.Q_of_R ((Kd.S_R q6_32))⟩, ⟨by (with_reducible repeat (first | refine blk_drewN ?_ _ | refine blk_drew ?_ | refine blk_alloc ?_ _)); exact BK481.out⟩, ⟨by (with_reducible repeat (first | refine blk_drewN ?_ _ | refine blk_drew ?_ | refine blk_alloc ?_ _)); exact BK486.out⟩, ⟨by (with_reducible repeat (first | refine blk_drewN ?_ _ | refine blk_drew ?_ | refine blk_alloc ?_ _)); exact BK491.out⟩, ⟨q6_0⟩⟩
    case rest =>
      clear HC6
      try clear c1
      try clear c2
      try clear c2b0
      try clear c2b1
      try clear p2
      try clear c3
      try clear c6
      try clear c14
      try clear c20
      try clear c21
      try clear c22
      try clear c23
      try clear c23b0
      try clear c23b1
      try clear c23b2
      try clear c24
      try clear c25
      try clear c26
      try clear c27
      try clear c29
      try clear c32
      try clear c33
      try clear c35
      try clear hcz10_0
      try clear hcz15_0
      try clear hcz16_0
      try clear hcz22_0
      try clear hcz28_0
      try clear hcz30_0
      try clear hcz34_0
      try clear hcz36_0
      try clear hfz10_0
      try clear hfz15_0
      try clear hfz16_0
      try clear hfz22_0
      try clear hfz28_0
      try clear hfz30_0
      try clear hfz34_0
      try clear hfz36_0
      obtain ⟨kq, x48_5, rfl, HA, HJ5, HO_482000, HO_487000, HO_492000, BK481, BK486, BK491, HB⟩ := hcut
      cases kq with
      | zero => exact absurd HA.out (by simp [laws_FnRoughAdd.j0])
      | succ kj5 =>
        have H := HA.out
        clear HA
        simp only [laws_FnRoughAdd.j0] at H
        by_cases c38 : x48_5 = true
        · subst c38
          have H1 : (if (t490 == t485) = true then ((laws_lkRough.f kj5 t487 t482).bind fun t493 => (some t493)) else (some false)) = some r := by rw [if_pos rfl] at H; exact H
          clear H
          have H := H1
          clear H1
          by_cases c39 : (t490 == t485) = true
          · rw [if_pos c39] at H
            have c39b0 : (t490 == t485) = true := c39
            (try (have c39b1 : decide (t490 = t485) = true := by simpa using c39))
            (try (have c39b2 : (t490 == t485) = true := by simpa using c39))
            clear c39
            replace H := Option.bind_eq_some_iff.mp H
            obtain ⟨t493, A400, H⟩ := H
            replace H : (some t493) = some r := H
            have A40 := Aside0.mk A400
            clear A400
            obtain rfl := Option.some.inj H
            have hnb41 := NB491_481.out
            have hnc41 := NB481_491.out
            have hnb42 := NB491_486.out
            have hnc42 := NB486_491.out
            have hcz43_0 : wc.cell? ⟨gb491, 0, none⟩ = some (.slice Ao19 t487.length co19) := (blk_cell BK491.out 0).trans rfl
            have hfz43_0 := blk_frozen BK491.out 0
            have hnb44 := NB486_481.out
            have hnc44 := NB481_486.out
            have hcz45_0 : wc.cell? ⟨gb486, 0, none⟩ = some (.slice Ao13 t482.length co13) := (blk_cell BK486.out 0).trans rfl
            have hfz45_0 := blk_frozen BK486.out 0
            go_wp2_with (first | (go_at_call 15; (with_reducible refine (laws_lkRough.calls kj5 _ _ t487 _ _ t482 t493 _ ?side1 ?side2 ?side3 ?side4 A40.out).mono ?_); (case side1 => exact q6_15); (case side2 => exact (Kd.Q_reads' HO_492000.out).2.1); (case side3 => repeat (first | exact (Kd.Q_reads' HO_487000.out).2.2 | (with_reducible refine Kd.C_alloc ?_ _) | (with_reducible refine Kd.C_drewN ?_ _) | (with_reducible refine Kd.C_drew ?_))); (case side4 => exact (Kd.Q_reads' HO_487000.out).2.1); rintro e w46 ⟨rfl, hb⟩; have n0_ := Aside0.mk (Kd.Q_below q6_6 hb); have n1_ := Aside0.mk (Kd.Q_below q6_7 hb); have n2_ := Aside0.mk (Kd.Q_below q6_8 hb); have n3_ := Aside0.mk (blk_below (g := gb481) (o := .cells #[.slice Ao9 t476.length co9] 25 (0, 0)) q6_1 hb); have n4_ := Aside0.mk (blk_below (g := gb486) (o := .cells #[.slice Ao13 t482.length co13] 25 (0, 0)) q6_4 hb); have n5_ := Aside0.mk (blk_below (g := gb491) (o := .cells #[.slice Ao19 t487.length co19] 25 (0, 0)) q6_5 hb); have n6_ := Aside0.mk (below_step q6_0 hb); clear HO_482000; clear HO_487000; clear HO_492000; clear BK481; clear BK486; clear BK491; clear HB; have HO_482000 := n0_; have HO_487000 := n1_; have HO_492000 := n2_; have BK481 := n3_; have BK486 := n4_; have BK491 := n5_; have HB := n6_; clear n0_ n1_ n2_ n3_ n4_ n5_ n6_; (try clear hb); (try clear hb2); (try clear hk); (try clear hi)))
            go_ret
            exact ⟨q6_14, q6_0⟩
          · rw [if_neg c39] at H
            have c39b0 : (t490 == t485) = false := by simpa using c39
            (try (have c39b1 : decide (t490 = t485) = false := by simpa using c39))
            (try (have c39b2 : (t490 == t485) = false := by simpa using c39))
            (try (have c39b3 : ¬ (t490 = t485) := by simpa using c39))
            clear c39
            obtain rfl := Option.some.inj H
            go_wp2
            go_ret
            exact ⟨q6_14, q6_0⟩
        · replace c38 := Bool.eq_false_iff.mpr c38
          subst c38
          have H1 : (laws_FnRoughAdd.l0 kj5 t479 t480 0 t476 t487) = some r := by rw [if_neg (show ¬ (false = true) by decide)] at H; exact H
          clear H
          have H := H1
          clear H1
          have H' := Aside0.mk H
          clear H
          go_wp2
          go_loopg [10] kj5 (fun kq v10 w' => ∃ (x10_2 : Int), v10 = .int .i64 x10_2 ∧ Aside0 (laws_FnRoughAdd.l0 kq t479 t480 x10_2 t476 t487 = some r) ∧ Aside0 (kq ≤ kj5) ∧ Aside0 (Kd.Q (Kd.slice 3 (Kd.int .i64)) 43 w' w.heap.size (fun k_ => some k_ ≠ ((.slice Ao13 t482.length co13) : Value).ownBlock ∧ some k_ ≠ ((.slice Ao19 t487.length co19) : Value).ownBlock) (.slice Ao9 t476.length co9) t476) ∧ Aside0 (Kd.Q (Kd.slice 3 (Kd.int .i64)) 43 w' w.heap.size (fun k_ => some k_ ≠ ((.slice Ao9 t476.length co9) : Value).ownBlock ∧ some k_ ≠ ((.slice Ao19 t487.length co19) : Value).ownBlock) (.slice Ao13 t482.length co13) t482) ∧ Aside0 (Kd.Q (Kd.slice 3 (Kd.int .i64)) 43 w' w.heap.size (fun k_ => some k_ ≠ ((.slice Ao9 t476.length co9) : Value).ownBlock ∧ some k_ ≠ ((.slice Ao13 t482.length co13) : Value).ownBlock) (.slice Ao19 t487.length co19) t487) ∧ Aside0 (w'.heap[gb481]? = some (.cells #[(.slice Ao9 t476.length co9)] 25 (0, 0))) ∧ Aside0 (w'.heap[gb486]? = some (.cells #[(.slice Ao13 t482.length co13)] 25 (0, 0))) ∧ Aside0 (w'.heap[gb491]? = some (.cells #[(.slice Ao19 t487.length co19)] 25 (0, 0))) ∧ Aside0 (Below w.heap.size w w'))
          case atStart => exact ⟨(0), q6_18, H', ⟨Nat.le_refl _⟩, ⟨by (with_reducible repeat (first | apply Kd.Q_alloc | apply Kd.Q_drewN | apply Kd.Q_drew)); exact HO_482000.out⟩, ⟨by (with_reducible repeat (first | apply Kd.Q_alloc | apply Kd.Q_drewN | apply Kd.Q_drew)); exact HO_487000.out⟩, ⟨by (with_reducible repeat (first | apply Kd.Q_alloc | apply Kd.Q_drewN | apply Kd.Q_drew)); exact HO_492000.out⟩, ⟨by (with_reducible repeat (first | refine blk_drewN ?_ _ | refine blk_drew ?_ | refine blk_alloc ?_ _)); exact BK481.out⟩, ⟨by (with_reducible repeat (first | refine blk_drewN ?_ _ | refine blk_drew ?_ | refine blk_alloc ?_ _)); exact BK486.out⟩, ⟨by (with_reducible repeat (first | refine blk_drewN ?_ _ | refine blk_drew ?_ | refine blk_alloc ?_ _)); exact BK491.out⟩, ⟨q6_0⟩⟩
          case round =>
            clear H'
            try clear c1
            try clear c2
            try clear c2b0
            try clear c2b1
            try clear p2
            try clear c3
            try clear c4
            try clear c6
            try clear c14
            try clear c20
            try clear c21
            try clear c22
            try clear c23
            try clear c23b0
            try clear c23b1
            try clear c23b2
            try clear c24
            try clear c25
            try clear c26
            try clear c27
            try clear c29
            try clear c32
            try clear c33
            try clear c35
            try clear c38
            try clear c39
            try clear c39b0
            try clear c39b1
            try clear c39b2
            try clear c41
            try clear c42
            try clear c44
            try clear hcz10_0
            try clear hcz15_0
            try clear hcz16_0
            try clear hcz22_0
            try clear hcz28_0
            try clear hcz30_0
            try clear hcz34_0
            try clear hcz36_0
            try clear hcz43_0
            try clear hcz45_0
            try clear hfz10_0
            try clear hfz15_0
            try clear hfz16_0
            try clear hfz22_0
            try clear hfz28_0
            try clear hfz30_0
            try clear hfz34_0
            try clear hfz36_0
            try clear hfz43_0
            try clear hfz45_0
            try clear p2
            obtain ⟨x10_2, rfl, HA, HK2, HO_482000, HO_487000, HO_492000, BK481, BK486, BK491, HB⟩ := hrel
            cases gk with
            | zero => exact absurd HA.out (by simp [laws_FnRoughAdd.l0])
            | succ k2 =>
              have H := HA.out
              clear HA
              simp only [laws_FnRoughAdd.l0] at H
              by_cases c47 : x10_2 < 3
              · rw [if_pos c47] at H
                have c47b0 : decide (x10_2 < 3) = true := decide_eq_true c47
                clear c47
                have H' := Aside0.mk H
                clear H
                go_wp2
                go_loopg [11] k2 (fun kq v11 w' => ∃ (x11_3 : Int), v11 = .int .i64 x11_3 ∧ Aside0 (laws_FnRoughAdd.l1 kq t479 t480 x10_2 x11_3 t476 t487 = some r) ∧ Aside0 (kq ≤ k2) ∧ Aside0 (Kd.Q (Kd.slice 3 (Kd.int .i64)) 43 w' w.heap.size (fun k_ => some k_ ≠ ((.slice Ao13 t482.length co13) : Value).ownBlock ∧ some k_ ≠ ((.slice Ao19 t487.length co19) : Value).ownBlock) (.slice Ao9 t476.length co9) t476) ∧ Aside0 (Kd.Q (Kd.slice 3 (Kd.int .i64)) 43 w' w.heap.size (fun k_ => some k_ ≠ ((.slice Ao9 t476.length co9) : Value).ownBlock ∧ some k_ ≠ ((.slice Ao19 t487.length co19) : Value).ownBlock) (.slice Ao13 t482.length co13) t482) ∧ Aside0 (Kd.Q (Kd.slice 3 (Kd.int .i64)) 43 w' w.heap.size (fun k_ => some k_ ≠ ((.slice Ao9 t476.length co9) : Value).ownBlock ∧ some k_ ≠ ((.slice Ao13 t482.length co13) : Value).ownBlock) (.slice Ao19 t487.length co19) t487) ∧ Aside0 (w'.heap[gb481]? = some (.cells #[(.slice Ao9 t476.length co9)] 25 (0, 0))) ∧ Aside0 (w'.heap[gb486]? = some (.cells #[(.slice Ao13 t482.length co13)] 25 (0, 0))) ∧ Aside0 (w'.heap[gb491]? = some (.cells #[(.slice Ao19 t487.length co19)] 25 (0, 0))) ∧ Aside0 (Below w.heap.size w w'))
                case atStart => exact ⟨(0), q6_18, H', ⟨Nat.le_refl _⟩, ⟨by (with_reducible repeat (first | apply Kd.Q_alloc | apply Kd.Q_drewN | apply Kd.Q_drew)); exact HO_482000.out⟩, ⟨by (with_reducible repeat (first | apply Kd.Q_alloc | apply Kd.Q_drewN | apply Kd.Q_drew)); exact HO_487000.out⟩, ⟨by (with_reducible repeat (first | apply Kd.Q_alloc | apply Kd.Q_drewN | apply Kd.Q_drew)); exact HO_492000.out⟩, ⟨by (with_reducible repeat (first | refine blk_drewN ?_ _ | refine blk_drew ?_ | refine blk_alloc ?_ _)); exact BK481.out⟩, ⟨by (with_reducible repeat (first | refine blk_drewN ?_ _ | refine blk_drew ?_ | refine blk_alloc ?_ _)); exact BK486.out⟩, ⟨by (with_reducible repeat (first | refine blk_drewN ?_ _ | refine blk_drew ?_ | refine blk_alloc ?_ _)); exact BK491.out⟩, ⟨q6_0⟩⟩
                case round =>
                  clear H'
                  try clear c1
                  try clear c2
                  try clear c2b0
                  try clear c2b1
                  try clear p2
                  try clear c3
                  try clear c4
                  try clear c6
                  try clear c14
                  try clear c20
                  try clear c21
                  try clear c22
                  try clear c23
                  try clear c23b0
                  try clear c23b1
                  try clear c23b2
                  try clear c24
                  try clear c25
                  try clear c26
                  try clear c27
                  try clear c29
                  try clear c32
                  try clear c33
                  try clear c35
                  try clear c38
                  try clear c39
                  try clear c39b0
                  try clear c39b1
                  try clear c39b2
                  try clear c41
                  try clear c42
                  try clear c44
                  try clear c47
                  try clear c47b0
                  try clear hcz10_0
                  try clear hcz15_0
                  try clear hcz16_0
                  try clear hcz22_0
                  try clear hcz28_0
                  try clear hcz30_0
                  try clear hcz34_0
                  try clear hcz36_0
                  try clear hcz43_0
                  try clear hcz45_0
                  try clear hfz10_0
                  try clear hfz15_0
                  try clear hfz16_0
                  try clear hfz22_0
                  try clear hfz28_0
                  try clear hfz30_0
                  try clear hfz34_0
                  try clear hfz36_0
                  try clear hfz43_0
                  try clear hfz45_0
                  try clear p2
                  obtain ⟨x11_3, rfl, HA, HK3, HO_482000, HO_487000, HO_492000, BK481, BK486, BK491, HB⟩ := hrel
                  cases gk with
                  | zero => exact absurd HA.out (by simp [laws_FnRoughAdd.l1])
                  | succ k3 =>
                    have H := HA.out
                    clear HA
                    simp only [laws_FnRoughAdd.l1] at H
                    by_cases c48 : x11_3 < 8
                    · rw [if_pos c48] at H
                      have c48b0 : decide (x11_3 < 8) = true := decide_eq_true c48
                      clear c48
                      replace H := Option.bind_eq_some_iff.mp H
                      obtain ⟨t497, A490, H⟩ := H
                      replace H : (if x11_3 = t497 then (if 0 ≤ x10_2 then (if x10_2 < (t487.length : Int) then (if 0 ≤ x11_3 then (if x11_3 < ((rd_L2 t487 x10_2).length : Int) then (if x10_2 < (t476.length : Int) then (if x11_3 < ((rd_L2 t476 x10_2).length : Int) then (if (rd (rd_L2 t487 x10_2) x11_3) = (wrap64 ((rd (rd_L2 t476 x10_2) x11_3) + t480)) then (laws_FnRoughAdd.l1 k3 t479 t480 x10_2 (wrap64 (x11_3 + 1)) t476 t487) else (some false)) else (none)) else (none)) else (none)) else (none)) else (none)) else (none)) else (if 0 ≤ x10_2 then (if x10_2 < (t487.length : Int) then (if 0 ≤ x11_3 then (if x11_3 < ((rd_L2 t487 x10_2).length : Int) then (if x10_2 < (t476.length : Int) then (if x11_3 < ((rd_L2 t476 x10_2).length : Int) then (if (rd (rd_L2 t487 x10_2) x11_3) = (wrap64 ((rd (rd_L2 t476 x10_2) x11_3) + 0)) then (laws_FnRoughAdd.l1 k3 t479 t480 x10_2 (wrap64 (x11_3 + 1)) t476 t487) else (some false)) else (none)) else (none)) else (none)) else (none)) else (none)) else (none))) = some r := H
                      have A49 := Aside0.mk A490
                      clear A490
                      by_cases c50 : x11_3 = t497
                      · rw [if_pos c50] at H
                        have c50b0 : (x11_3 == t497) = true := beq_iff_eq.mpr c50
                        have c50b1 : (x11_3 != t497) = false := bne_eq_false_iff_eq.mpr c50
                        clear c50
                        by_cases c51 : 0 ≤ x10_2
                        · rw [if_pos c51] at H
                          have c51b0 : decide (0 ≤ x10_2) = true := decide_eq_true c51
                          clear c51
                          by_cases c52 : x10_2 < (t487.length : Int)
                          · rw [if_pos c52] at H
                            have c52b0 : decide (x10_2 < (t487.length : Int)) = true := decide_eq_true c52
                            clear c52
                            by_cases c53 : 0 ≤ x11_3
                            · rw [if_pos c53] at H
                              have c53b0 : decide (0 ≤ x11_3) = true := decide_eq_true c53
                              clear c53
                              by_cases c54 : x11_3 < ((rd_L2 t487 x10_2).length : Int)
                              · rw [if_pos c54] at H
                                have c54b0 : decide (x11_3 < ((rd_L2 t487 x10_2).length : Int)) = true := decide_eq_true c54
                                clear c54
                                by_cases c55 : x10_2 < (t476.length : Int)
                                · rw [if_pos c55] at H
                                  have c55b0 : decide (x10_2 < (t476.length : Int)) = true := decide_eq_true c55
                                  clear c55
                                  by_cases c56 : x11_3 < ((rd_L2 t476 x10_2).length : Int)
                                  · rw [if_pos c56] at H
                                    have c56b0 : decide (x11_3 < ((rd_L2 t476 x10_2).length : Int)) = true := decide_eq_true c56
                                    clear c56
                                    by_cases c57 : (rd (rd_L2 t487 x10_2) x11_3) = (wrap64 ((rd (rd_L2 t476 x10_2) x11_3) + t480))
                                    · rw [if_pos c57] at H
                                      have c57b0 : ((rd (rd_L2 t487 x10_2) x11_3) == (wrap64 ((rd (rd_L2 t476 x10_2) x11_3) + t480))) = true := beq_iff_eq.mpr c57
                                      have c57b1 : ((rd (rd_L2 t487 x10_2) x11_3) != (wrap64 ((rd (rd_L2 t476 x10_2) x11_3) + t480))) = false := bne_eq_false_iff_eq.mpr c57
                                      clear c57
                                      have H' := Aside0.mk H
                                      clear H
                                      try go_wp2_with (first | ((with_reducible refine gate_callee (f := 25) rfl ?_); refine goesL_ (some 68) rfl rfl Try.func25 (by kernel_rfl) rfl #[.int .i64 x10_2, .int .i64 t479] rfl q6_2 ?_; (with_reducible refine (impl_RoughPlace.calls x10_2 t479 t497 _ A49.out).mono ?_); rintro e w' ⟨rfl, ⟨nd, rfl⟩⟩; refine ⟨_, rfl, ?_⟩))
                                      (try (rw [drewN_self wr]; generalize hq_ : World.drewN wr _ = wr; have n0_ : Aside0 (Kd.Q (Kd.slice 3 (Kd.int .i64)) 43 wr w.heap.size (fun k_ => some k_ ≠ (.slice Ao13 t482.length co13 : Value).ownBlock ∧ some k_ ≠ (.slice Ao19 t487.length co19 : Value).ownBlock) (.slice Ao9 t476.length co9) t476) := ⟨by rw [← hq_]; exact q6_6⟩; have n1_ : Aside0 (Kd.Q (Kd.slice 3 (Kd.int .i64)) 43 wr w.heap.size (fun k_ => some k_ ≠ (.slice Ao9 t476.length co9 : Value).ownBlock ∧ some k_ ≠ (.slice Ao19 t487.length co19 : Value).ownBlock) (.slice Ao13 t482.length co13) t482) := ⟨by rw [← hq_]; exact q6_7⟩; have n2_ : Aside0 (Kd.Q (Kd.slice 3 (Kd.int .i64)) 43 wr w.heap.size (fun k_ => some k_ ≠ (.slice Ao9 t476.length co9 : Value).ownBlock ∧ some k_ ≠ (.slice Ao13 t482.length co13 : Value).ownBlock) (.slice Ao19 t487.length co19) t487) := ⟨by rw [← hq_]; exact q6_8⟩; have n3_ : Aside0 (wr.heap[gb481]? = some (.cells #[.slice Ao9 t476.length co9] 25 (0, 0))) := ⟨by rw [← hq_]; exact q6_1⟩; have n4_ : Aside0 (wr.heap[gb486]? = some (.cells #[.slice Ao13 t482.length co13] 25 (0, 0))) := ⟨by rw [← hq_]; exact q6_4⟩; have n5_ : Aside0 (wr.heap[gb491]? = some (.cells #[.slice Ao19 t487.length co19] 25 (0, 0))) := ⟨by rw [← hq_]; exact q6_5⟩; have n6_ : Aside0 (Below w.heap.size w wr) := ⟨by rw [← hq_]; exact q6_0⟩; clear HO_482000 HO_487000 HO_492000 BK481 BK486 BK491 HB hq_; have HO_482000 := n0_; have HO_487000 := n1_; have HO_492000 := n2_; have BK481 := n3_; have BK486 := n4_; have BK491 := n5_; have HB := n6_; clear n0_ n1_ n2_ n3_ n4_ n5_ n6_))
                                      have n0_ := Aside0.mk (Kd.Q_drew HO_482000.out)
                                      have n1_ := Aside0.mk (Kd.Q_drew HO_487000.out)
                                      have n2_ := Aside0.mk (Kd.Q_drew HO_492000.out)
                                      have n3_ := Aside0.mk (blk_drew BK481.out)
                                      have n4_ := Aside0.mk (blk_drew BK486.out)
                                      have n5_ := Aside0.mk (blk_drew BK491.out)
                                      have n6_ := Aside0.mk (below_drew1 HB.out)
                                      clear HO_482000
                                      clear HO_487000
                                      clear HO_492000
                                      clear BK481
                                      clear BK486
                                      clear BK491
                                      clear HB
                                      have HO_482000 := n0_
                                      have HO_487000 := n1_
                                      have HO_492000 := n2_
                                      have BK481 := n3_
                                      have BK486 := n4_
                                      have BK491 := n5_
                                      have HB := n6_
                                      clear n0_ n1_ n2_ n3_ n4_ n5_ n6_
                                      have p498 : 0 ≤ (x10_2 : Int) := of_decide_eq_true q6_3
                                      have q498 : x10_2 < (t487.length : Int) := of_decide_eq_true q6_3
                                      obtain ⟨ad498, A498_0, c498_0, e498, hx498_0, hl498_0, hi498_0⟩ := at_L2 (Kd.Q_reads' HO_492000.out).2.2 x10_2 p498 q498
                                      cases e498
                                      have HR498_0 := Aside0.mk hi498_0
                                      have HC498_0 := Aside0.mk hl498_0
                                      clear hi498_0 hl498_0
                                      replace p498 := eq_true p498
                                      replace q498 := eq_true q498
                                      have p499 : 0 ≤ (x11_3 : Int) := of_decide_eq_true q6_3
                                      have q499 : x11_3 < ((rd_L2 t487 x10_2).length : Int) := of_decide_eq_true q6_3
                                      obtain ⟨ad499, e499, hx499_0⟩ := Kd.at_int q6_27 x11_3 p499 q499
                                      cases e499
                                      replace p499 := eq_true p499
                                      replace q499 := eq_true q499
                                      have p500 : 0 ≤ (x10_2 : Int) := of_decide_eq_true q6_3
                                      have q500 : x10_2 < (t476.length : Int) := of_decide_eq_true q6_3
                                      obtain ⟨ad500, A500_0, c500_0, e500, hx500_0, hl500_0, hi500_0⟩ := at_L2 (Kd.Q_reads' HO_482000.out).2.2 x10_2 p500 q500
                                      cases e500
                                      have HR500_0 := Aside0.mk hi500_0
                                      have HC500_0 := Aside0.mk hl500_0
                                      clear hi500_0 hl500_0
                                      replace p500 := eq_true p500
                                      replace q500 := eq_true q500
                                      have p501 : 0 ≤ (x11_3 : Int) := of_decide_eq_true q6_3
                                      have q501 : x11_3 < ((rd_L2 t476 x10_2).length : Int) := of_decide_eq_true q6_3
                                      obtain ⟨ad501, e501, hx501_0⟩ := Kd.at_int q6_28 x11_3 p501 q501
                                      cases e501
                                      replace p501 := eq_true p501
                                      replace q501 := eq_true q501
                                      refine start_ (n := 19) (S := fun w' => w'.cell? ⟨gb491, 0, none⟩ = some (.slice (some ad498) t487.length co19) ∧ w'.cell? ⟨gb481, 0, none⟩ = some (.slice (some ad500) t476.length co9) ∧ w'.cell? (ad498.add (x10_2).toNat) = some (.slice (some ad499) (rd_L2 t487 x10_2).length c498_0) ∧ w'.cell? (ad499.add (x11_3).toNat) = some (.int .i64 (rd (rd_L2 t487 x10_2) x11_3)) ∧ w'.cell? (ad500.add (x10_2).toNat) = some (.slice (some ad501) (rd_L2 t476 x10_2).length c500_0) ∧ w'.cell? (ad501.add (x11_3).toNat) = some (.int .i64 (rd (rd_L2 t476 x10_2) x11_3))) (ds := []) #[false, false, false, false, false, false, false, false, false, false, false, false, false, false, false, false, false, false, false] (by kernel_rfl) rfl rfl ⟨(blk_cell BK491.out 0).trans rfl, (blk_cell BK481.out 0).trans rfl, hx498_0, hx499_0, hx500_0, hx501_0⟩ (fun hHeld => ?_); refine with_tabW laws_FnRoughAdd.tab17 laws_FnRoughAdd.bits17 (fun HT_ HW_ => ?_)
                                      generalize wr.drew = w58 at HO_482000 HO_487000 HO_492000 BK481 BK486 BK491 HB HR498_0 HR500_0 hx498_0 hx499_0 hx500_0 hx501_0 hHeld ⊢
                                      refine pure_ (i := 0) (N := some 71) (v := ?_) (a' := ?_) #[true, false, false, false, false, false, false, false, false, false, false, false, false, false, false, false, false, false, false] rfl rfl (any_of HT_.out (by kernel_rfl)) (fun _ _ _ h => h) (Or.inl ⟨by rfl, ?_⟩) ?_ ?_
                                      rotate_left
                                      · intro w'
                                        go_simp
                                        with_reducible rfl
                                      rotate_left
                                      · simp only [Act.put, List.setIfInBounds_toArray, List.set_cons_zero, List.set_cons_succ, i64_w, i32_w]
                                        rfl
                                      refine pure_ (i := 2) (N := some 73) (v := ?_) (a' := ?_) #[true, false, true, false, false, false, false, false, false, false, false, false, false, false, false, false, false, false, false] rfl rfl (any_of HT_.out (by kernel_rfl)) (fun _ _ _ h => h) (Or.inl ⟨by rfl, ?_⟩) ?_ ?_
                                      rotate_left
                                      · intro w'
                                        go_simp
                                        with_reducible rfl
                                      rotate_left
                                      · simp only [Act.put, List.setIfInBounds_toArray, List.set_cons_zero, List.set_cons_succ, i64_w, i32_w]
                                        rfl
                                      refine pure_ (i := 5) (N := some 76) (v := ?_) (a' := ?_) #[true, false, true, false, false, true, false, false, false, false, false, false, false, false, false, false, false, false, false] rfl rfl (any_of HT_.out (by kernel_rfl)) (fun _ _ _ h => h) (Or.inl ⟨by rfl, ?_⟩) ?_ ?_
                                      rotate_left
                                      · intro w'
                                        go_simp
                                        with_reducible rfl
                                      rotate_left
                                      · simp only [Act.put, List.setIfInBounds_toArray, List.set_cons_zero, List.set_cons_succ, i64_w, i32_w]
                                        rfl
                                      refine pure_ (i := 8) (N := some 79) (v := ?_) (a' := ?_) #[true, false, true, false, false, true, false, false, true, false, false, false, false, false, false, false, false, false, false] rfl rfl (any_of HT_.out (by kernel_rfl)) (fun _ _ _ h => h) (Or.inl ⟨by rfl, ?_⟩) ?_ ?_
                                      rotate_left
                                      · intro w'
                                        go_simp
                                        with_reducible rfl
                                      rotate_left
                                      · simp only [Act.put, List.setIfInBounds_toArray, List.set_cons_zero, List.set_cons_succ, i64_w, i32_w]
                                        rfl
                                      refine pure_ (i := 10) (N := some 81) (v := ?_) (a' := ?_) #[true, false, true, false, false, true, false, false, true, false, true, false, false, false, false, false, false, false, false] rfl rfl (any_of HT_.out (by kernel_rfl)) (fun _ _ _ h => h) (Or.inl ⟨by rfl, ?_⟩) ?_ ?_
                                      rotate_left
                                      · intro w'
                                        go_simp
                                        with_reducible rfl
                                      rotate_left
                                      · simp only [Act.put, List.setIfInBounds_toArray, List.set_cons_zero, List.set_cons_succ, i64_w, i32_w]
                                        rfl
                                      refine pure_ (i := 13) (N := some 84) (v := ?_) (a' := ?_) #[true, false, true, false, false, true, false, false, true, false, true, false, false, true, false, false, false, false, false] rfl rfl (any_of HT_.out (by kernel_rfl)) (fun _ _ _ h => h) (Or.inl ⟨by rfl, ?_⟩) ?_ ?_
                                      rotate_left
                                      · intro w'
                                        go_simp
                                        with_reducible rfl
                                      rotate_left
                                      · simp only [Act.put, List.setIfInBounds_toArray, List.set_cons_zero, List.set_cons_succ, i64_w, i32_w]
                                        rfl
                                      refine pure_ (i := 16) (N := some 87) (v := ?_) (a' := ?_) #[true, false, true, false, false, true, false, false, true, false, true, false, false, true, false, false, true, false, false] rfl rfl (any_of HT_.out (by kernel_rfl)) (fun _ _ _ h => h) (Or.inl ⟨by rfl, ?_⟩) ?_ ?_
                                      rotate_left
                                      · intro w'
                                        go_simp
                                        with_reducible rfl
                                      rotate_left
                                      · simp only [Act.put, List.setIfInBounds_toArray, List.set_cons_zero, List.set_cons_succ, i64_w, i32_w]
                                        rfl
                                      refine take_ (i := 1) (N := some 72) (v := ?_) (a' := ?_) #[true, true, true, false, false, true, false, false, true, false, true, false, false, true, false, false, true, false, false] rfl rfl (take_ofW HT_.out HW_.out (by kernel_rfl)) (fun _ _ _ h => h) (Or.inl ⟨by rfl, ?_⟩) hHeld ?_ ?_
                                      rotate_left
                                      · rintro w' ⟨s0, s1, s2, s3, s4, s5⟩
                                        go_simp
                                        with_reducible rfl
                                      rotate_left
                                      · simp only [Act.put, List.setIfInBounds_toArray, List.set_cons_zero, List.set_cons_succ, i64_w, i32_w]
                                        rfl
                                      refine pure_ (i := 3) (N := some 74) (v := ?_) (a' := ?_) #[true, true, true, true, false, true, false, false, true, false, true, false, false, true, false, false, true, false, false] rfl rfl (any_of HT_.out (by kernel_rfl)) (fun _ _ _ h => h) (Or.inl ⟨by rfl, ?_⟩) ?_ ?_
                                      rotate_left
                                      · intro w'
                                        go_simp
                                        with_reducible rfl
                                      rotate_left
                                      · simp only [Act.put, List.setIfInBounds_toArray, List.set_cons_zero, List.set_cons_succ, i64_w, i32_w]
                                        rfl
                                      refine take_ (i := 4) (N := some 75) (v := ?_) (a' := ?_) #[true, true, true, true, true, true, false, false, true, false, true, false, false, true, false, false, true, false, false] rfl rfl (take_ofW HT_.out HW_.out (by kernel_rfl)) (fun _ _ _ h => h) (Or.inl ⟨by rfl, ?_⟩) hHeld ?_ ?_
                                      rotate_left
                                      · rintro w' ⟨s0, s1, s2, s3, s4, s5⟩
                                        go_simp
                                        with_reducible rfl
                                      rotate_left
                                      · simp only [Act.put, List.setIfInBounds_toArray, List.set_cons_zero, List.set_cons_succ, i64_w, i32_w]
                                        rfl
                                      refine pure_ (i := 6) (N := some 77) (v := ?_) (a' := ?_) #[true, true, true, true, true, true, true, false, true, false, true, false, false, true, false, false, true, false, false] rfl rfl (any_of HT_.out (by kernel_rfl)) (fun _ _ _ h => h) (Or.inl ⟨by rfl, ?_⟩) ?_ ?_
                                      rotate_left
                                      · intro w'
                                        go_simp
                                        with_reducible rfl
                                      rotate_left
                                      · simp only [Act.put, List.setIfInBounds_toArray, List.set_cons_zero, List.set_cons_succ, i64_w, i32_w]
                                        rfl
                                      refine take_ (i := 7) (N := some 78) (v := ?_) (a' := ?_) #[true, true, true, true, true, true, true, true, true, false, true, false, false, true, false, false, true, false, false] rfl rfl (take_ofW HT_.out HW_.out (by kernel_rfl)) (fun _ _ _ h => h) (Or.inl ⟨by rfl, ?_⟩) hHeld ?_ ?_
                                      rotate_left
                                      · rintro w' ⟨s0, s1, s2, s3, s4, s5⟩
                                        go_simp
                                        with_reducible rfl
                                      rotate_left
                                      · simp only [Act.put, List.setIfInBounds_toArray, List.set_cons_zero, List.set_cons_succ, i64_w, i32_w]
                                        rfl
                                      refine take_ (i := 9) (N := some 80) (v := ?_) (a' := ?_) #[true, true, true, true, true, true, true, true, true, true, true, false, false, true, false, false, true, false, false] rfl rfl (take_ofW HT_.out HW_.out (by kernel_rfl)) (fun _ _ _ h => h) (Or.inl ⟨by rfl, ?_⟩) hHeld ?_ ?_
                                      rotate_left
                                      · rintro w' ⟨s0, s1, s2, s3, s4, s5⟩
                                        go_simp
                                        with_reducible rfl
                                      rotate_left
                                      · simp only [Act.put, List.setIfInBounds_toArray, List.set_cons_zero, List.set_cons_succ, i64_w, i32_w]
                                        rfl
                                      refine pure_ (i := 11) (N := some 82) (v := ?_) (a' := ?_) #[true, true, true, true, true, true, true, true, true, true, true, true, false, true, false, false, true, false, false] rfl rfl (any_of HT_.out (by kernel_rfl)) (fun _ _ _ h => h) (Or.inl ⟨by rfl, ?_⟩) ?_ ?_
                                      rotate_left
                                      · intro w'
                                        go_simp
                                        with_reducible rfl
                                      rotate_left
                                      · simp only [Act.put, List.setIfInBounds_toArray, List.set_cons_zero, List.set_cons_succ, i64_w, i32_w]
                                        rfl
                                      refine take_ (i := 12) (N := some 83) (v := ?_) (a' := ?_) #[true, true, true, true, true, true, true, true, true, true, true, true, true, true, false, false, true, false, false] rfl rfl (take_ofW HT_.out HW_.out (by kernel_rfl)) (fun _ _ _ h => h) (Or.inl ⟨by rfl, ?_⟩) hHeld ?_ ?_
                                      rotate_left
                                      · rintro w' ⟨s0, s1, s2, s3, s4, s5⟩
                                        go_simp
                                        with_reducible rfl
                                      rotate_left
                                      · simp only [Act.put, List.setIfInBounds_toArray, List.set_cons_zero, List.set_cons_succ, i64_w, i32_w]
                                        rfl
                                      refine pure_ (i := 14) (N := some 85) (v := ?_) (a' := ?_) #[true, true, true, true, true, true, true, true, true, true, true, true, true, true, true, false, true, false, false] rfl rfl (any_of HT_.out (by kernel_rfl)) (fun _ _ _ h => h) (Or.inl ⟨by rfl, ?_⟩) ?_ ?_
                                      rotate_left
                                      · intro w'
                                        go_simp
                                        with_reducible rfl
                                      rotate_left
                                      · simp only [Act.put, List.setIfInBounds_toArray, List.set_cons_zero, List.set_cons_succ, i64_w, i32_w]
                                        rfl
                                      refine take_ (i := 15) (N := some 86) (v := ?_) (a' := ?_) #[true, true, true, true, true, true, true, true, true, true, true, true, true, true, true, true, true, false, false] rfl rfl (take_ofW HT_.out HW_.out (by kernel_rfl)) (fun _ _ _ h => h) (Or.inl ⟨by rfl, ?_⟩) hHeld ?_ ?_
                                      rotate_left
                                      · rintro w' ⟨s0, s1, s2, s3, s4, s5⟩
                                        go_simp
                                        with_reducible rfl
                                      rotate_left
                                      · simp only [Act.put, List.setIfInBounds_toArray, List.set_cons_zero, List.set_cons_succ, i64_w, i32_w]
                                        rfl
                                      refine pure_ (i := 17) (N := some 88) (v := ?_) (a' := ?_) #[true, true, true, true, true, true, true, true, true, true, true, true, true, true, true, true, true, true, false] rfl rfl (any_of HT_.out (by kernel_rfl)) (fun _ _ _ h => h) (Or.inl ⟨by rfl, ?_⟩) ?_ ?_
                                      rotate_left
                                      · intro w'
                                        go_simp
                                        with_reducible rfl
                                      rotate_left
                                      · simp only [Act.put, List.setIfInBounds_toArray, List.set_cons_zero, List.set_cons_succ, i64_w, i32_w]
                                        rfl
                                      refine pure_ (i := 18) (N := some 89) (v := ?_) (a' := ?_) #[true, true, true, true, true, true, true, true, true, true, true, true, true, true, true, true, true, true, true] rfl rfl (any_of HT_.out (by kernel_rfl)) (fun _ _ _ h => h) (Or.inl ⟨by rfl, ?_⟩) ?_ ?_
                                      rotate_left
                                      · intro w'
                                        go_simp
                                        with_reducible rfl
                                      rotate_left
                                      · simp only [Act.put, List.setIfInBounds_toArray, List.set_cons_zero, List.set_cons_succ, i64_w, i32_w]
                                        rfl
                                      refine done_ (done_of HT_.out (by kernel_rfl)) ?_
                                      try go_wp2
                                      go_roundg k3
                                      case measure => have := HJ5.out; have := HK2.out; have := HK3.out; omega
                                      case rel => exact ⟨(wrap64 (x11_3 + 1)), q6_18, H', ⟨by have := HJ5.out; have := HK2.out; have := HK3.out; omega⟩, ⟨by (with_reducible repeat (first | apply Kd.Q_alloc | apply Kd.Q_drewN | apply Kd.Q_drew)); exact HO_482000.out⟩, ⟨by (with_reducible repeat (first | apply Kd.Q_alloc | apply Kd.Q_drewN | apply Kd.Q_drew)); exact HO_487000.out⟩, ⟨by (with_reducible repeat (first | apply Kd.Q_alloc | apply Kd.Q_drewN | apply Kd.Q_drew)); exact HO_492000.out⟩, ⟨by (with_reducible repeat (first | refine blk_drewN ?_ _ | refine blk_drew ?_ | refine blk_alloc ?_ _)); exact BK481.out⟩, ⟨by (with_reducible repeat (first | refine blk_drewN ?_ _ | refine blk_drew ?_ | refine blk_alloc ?_ _)); exact BK486.out⟩, ⟨by (with_reducible repeat (first | refine blk_drewN ?_ _ | refine blk_drew ?_ | refine blk_alloc ?_ _)); exact BK491.out⟩, ⟨q6_0⟩⟩
                                    · rw [if_neg c57] at H
                                      have c57b0 : ((rd (rd_L2 t487 x10_2) x11_3) == (wrap64 ((rd (rd_L2 t476 x10_2) x11_3) + t480))) = false := beq_eq_false_iff_ne.mpr c57
                                      have c57b1 : ((rd (rd_L2 t487 x10_2) x11_3) != (wrap64 ((rd (rd_L2 t476 x10_2) x11_3) + t480))) = true := bne_iff_ne.mpr c57
                                      obtain rfl := Option.some.inj H
                                      try go_wp2_with (first | ((with_reducible refine gate_callee (f := 25) rfl ?_); refine goesL_ (some 68) rfl rfl Try.func25 (by kernel_rfl) rfl #[.int .i64 x10_2, .int .i64 t479] rfl q6_2 ?_; (with_reducible refine (impl_RoughPlace.calls x10_2 t479 t497 _ A49.out).mono ?_); rintro e w' ⟨rfl, ⟨nd, rfl⟩⟩; refine ⟨_, rfl, ?_⟩))
                                      (try (rw [drewN_self wr]; generalize hq_ : World.drewN wr _ = wr; have n0_ : Aside0 (Kd.Q (Kd.slice 3 (Kd.int .i64)) 43 wr w.heap.size (fun k_ => some k_ ≠ (.slice Ao13 t482.length co13 : Value).ownBlock ∧ some k_ ≠ (.slice Ao19 t487.length co19 : Value).ownBlock) (.slice Ao9 t476.length co9) t476) := ⟨by rw [← hq_]; exact q6_6⟩; have n1_ : Aside0 (Kd.Q (Kd.slice 3 (Kd.int .i64)) 43 wr w.heap.size (fun k_ => some k_ ≠ (.slice Ao9 t476.length co9 : Value).ownBlock ∧ some k_ ≠ (.slice Ao19 t487.length co19 : Value).ownBlock) (.slice Ao13 t482.length co13) t482) := ⟨by rw [← hq_]; exact q6_7⟩; have n2_ : Aside0 (Kd.Q (Kd.slice 3 (Kd.int .i64)) 43 wr w.heap.size (fun k_ => some k_ ≠ (.slice Ao9 t476.length co9 : Value).ownBlock ∧ some k_ ≠ (.slice Ao13 t482.length co13 : Value).ownBlock) (.slice Ao19 t487.length co19) t487) := ⟨by rw [← hq_]; exact q6_8⟩; have n3_ : Aside0 (wr.heap[gb481]? = some (.cells #[.slice Ao9 t476.length co9] 25 (0, 0))) := ⟨by rw [← hq_]; exact q6_1⟩; have n4_ : Aside0 (wr.heap[gb486]? = some (.cells #[.slice Ao13 t482.length co13] 25 (0, 0))) := ⟨by rw [← hq_]; exact q6_4⟩; have n5_ : Aside0 (wr.heap[gb491]? = some (.cells #[.slice Ao19 t487.length co19] 25 (0, 0))) := ⟨by rw [← hq_]; exact q6_5⟩; have n6_ : Aside0 (Below w.heap.size w wr) := ⟨by rw [← hq_]; exact q6_0⟩; clear HO_482000 HO_487000 HO_492000 BK481 BK486 BK491 HB hq_; have HO_482000 := n0_; have HO_487000 := n1_; have HO_492000 := n2_; have BK481 := n3_; have BK486 := n4_; have BK491 := n5_; have HB := n6_; clear n0_ n1_ n2_ n3_ n4_ n5_ n6_))
                                      have n0_ := Aside0.mk (Kd.Q_drew HO_482000.out)
                                      have n1_ := Aside0.mk (Kd.Q_drew HO_487000.out)
                                      have n2_ := Aside0.mk (Kd.Q_drew HO_492000.out)
                                      have n3_ := Aside0.mk (blk_drew BK481.out)
                                      have n4_ := Aside0.mk (blk_drew BK486.out)
                                      have n5_ := Aside0.mk (blk_drew BK491.out)
                                      have n6_ := Aside0.mk (below_drew1 HB.out)
                                      clear HO_482000
                                      clear HO_487000
                                      clear HO_492000
                                      clear BK481
                                      clear BK486
                                      clear BK491
                                      clear HB
                                      have HO_482000 := n0_
                                      have HO_487000 := n1_
                                      have HO_492000 := n2_
                                      have BK481 := n3_
                                      have BK486 := n4_
                                      have BK491 := n5_
                                      have HB := n6_
                                      clear n0_ n1_ n2_ n3_ n4_ n5_ n6_
                                      have p498 : 0 ≤ (x10_2 : Int) := of_decide_eq_true q6_3
                                      have q498 : x10_2 < (t487.length : Int) := of_decide_eq_true q6_3
                                      obtain ⟨ad498, A498_0, c498_0, e498, hx498_0, hl498_0, hi498_0⟩ := at_L2 (Kd.Q_reads' HO_492000.out).2.2 x10_2 p498 q498
                                      cases e498
                                      have HR498_0 := Aside0.mk hi498_0
                                      have HC498_0 := Aside0.mk hl498_0
                                      clear hi498_0 hl498_0
                                      replace p498 := eq_true p498
                                      replace q498 := eq_true q498
                                      have p499 : 0 ≤ (x11_3 : Int) := of_decide_eq_true q6_3
                                      have q499 : x11_3 < ((rd_L2 t487 x10_2).length : Int) := of_decide_eq_true q6_3
                                      obtain ⟨ad499, e499, hx499_0⟩ := Kd.at_int q6_27 x11_3 p499 q499
                                      cases e499
                                      replace p499 := eq_true p499
                                      replace q499 := eq_true q499
                                      have p500 : 0 ≤ (x10_2 : Int) := of_decide_eq_true q6_3
                                      have q500 : x10_2 < (t476.length : Int) := of_decide_eq_true q6_3
                                      obtain ⟨ad500, A500_0, c500_0, e500, hx500_0, hl500_0, hi500_0⟩ := at_L2 (Kd.Q_reads' HO_482000.out).2.2 x10_2 p500 q500
                                      cases e500
                                      have HR500_0 := Aside0.mk hi500_0
                                      have HC500_0 := Aside0.mk hl500_0
                                      clear hi500_0 hl500_0
                                      replace p500 := eq_true p500
                                      replace q500 := eq_true q500
                                      have p501 : 0 ≤ (x11_3 : Int) := of_decide_eq_true q6_3
                                      have q501 : x11_3 < ((rd_L2 t476 x10_2).length : Int) := of_decide_eq_true q6_3
                                      obtain ⟨ad501, e501, hx501_0⟩ := Kd.at_int q6_28 x11_3 p501 q501
                                      cases e501
                                      replace p501 := eq_true p501
                                      replace q501 := eq_true q501
                                      refine start_ (n := 19) (S := fun w' => w'.cell? ⟨gb491, 0, none⟩ = some (.slice (some ad498) t487.length co19) ∧ w'.cell? ⟨gb481, 0, none⟩ = some (.slice (some ad500) t476.length co9) ∧ w'.cell? (ad498.add (x10_2).toNat) = some (.slice (some ad499) (rd_L2 t487 x10_2).length c498_0) ∧ w'.cell? (ad499.add (x11_3).toNat) = some (.int .i64 (rd (rd_L2 t487 x10_2) x11_3)) ∧ w'.cell? (ad500.add (x10_2).toNat) = some (.slice (some ad501) (rd_L2 t476 x10_2).length c500_0) ∧ w'.cell? (ad501.add (x11_3).toNat) = some (.int .i64 (rd (rd_L2 t476 x10_2) x11_3))) (ds := []) #[false, false, false, false, false, false, false, false, false, false, false, false, false, false, false, false, false, false, false] (by kernel_rfl) rfl rfl ⟨(blk_cell BK491.out 0).trans rfl, (blk_cell BK481.out 0).trans rfl, hx498_0, hx499_0, hx500_0, hx501_0⟩ (fun hHeld => ?_); refine with_tabW laws_FnRoughAdd.tab17 laws_FnRoughAdd.bits17 (fun HT_ HW_ => ?_)
                                      generalize wr.drew = w59 at HO_482000 HO_487000 HO_492000 BK481 BK486 BK491 HB HR498_0 HR500_0 hx498_0 hx499_0 hx500_0 hx501_0 hHeld ⊢
                                      refine pure_ (i := 0) (N := some 71) (v := ?_) (a' := ?_) #[true, false, false, false, false, false, false, false, false, false, false, false, false, false, false, false, false, false, false] rfl rfl (any_of HT_.out (by kernel_rfl)) (fun _ _ _ h => h) (Or.inl ⟨by rfl, ?_⟩) ?_ ?_
                                      rotate_left
                                      · intro w'
                                        go_simp
                                        with_reducible rfl
                                      rotate_left
                                      · simp only [Act.put, List.setIfInBounds_toArray, List.set_cons_zero, List.set_cons_succ, i64_w, i32_w]
                                        rfl
                                      refine pure_ (i := 2) (N := some 73) (v := ?_) (a' := ?_) #[true, false, true, false, false, false, false, false, false, false, false, false, false, false, false, false, false, false, false] rfl rfl (any_of HT_.out (by kernel_rfl)) (fun _ _ _ h => h) (Or.inl ⟨by rfl, ?_⟩) ?_ ?_
                                      rotate_left
                                      · intro w'
                                        go_simp
                                        with_reducible rfl
                                      rotate_left
                                      · simp only [Act.put, List.setIfInBounds_toArray, List.set_cons_zero, List.set_cons_succ, i64_w, i32_w]
                                        rfl
                                      refine pure_ (i := 5) (N := some 76) (v := ?_) (a' := ?_) #[true, false, true, false, false, true, false, false, false, false, false, false, false, false, false, false, false, false, false] rfl rfl (any_of HT_.out (by kernel_rfl)) (fun _ _ _ h => h) (Or.inl ⟨by rfl, ?_⟩) ?_ ?_
                                      rotate_left
                                      · intro w'
                                        go_simp
                                        with_reducible rfl
                                      rotate_left
                                      · simp only [Act.put, List.setIfInBounds_toArray, List.set_cons_zero, List.set_cons_succ, i64_w, i32_w]
                                        rfl
                                      refine pure_ (i := 8) (N := some 79) (v := ?_) (a' := ?_) #[true, false, true, false, false, true, false, false, true, false, false, false, false, false, false, false, false, false, false] rfl rfl (any_of HT_.out (by kernel_rfl)) (fun _ _ _ h => h) (Or.inl ⟨by rfl, ?_⟩) ?_ ?_
                                      rotate_left
                                      · intro w'
                                        go_simp
                                        with_reducible rfl
                                      rotate_left
                                      · simp only [Act.put, List.setIfInBounds_toArray, List.set_cons_zero, List.set_cons_succ, i64_w, i32_w]
                                        rfl
                                      refine pure_ (i := 10) (N := some 81) (v := ?_) (a' := ?_) #[true, false, true, false, false, true, false, false, true, false, true, false, false, false, false, false, false, false, false] rfl rfl (any_of HT_.out (by kernel_rfl)) (fun _ _ _ h => h) (Or.inl ⟨by rfl, ?_⟩) ?_ ?_
                                      rotate_left
                                      · intro w'
                                        go_simp
                                        with_reducible rfl
                                      rotate_left
                                      · simp only [Act.put, List.setIfInBounds_toArray, List.set_cons_zero, List.set_cons_succ, i64_w, i32_w]
                                        rfl
                                      refine pure_ (i := 13) (N := some 84) (v := ?_) (a' := ?_) #[true, false, true, false, false, true, false, false, true, false, true, false, false, true, false, false, false, false, false] rfl rfl (any_of HT_.out (by kernel_rfl)) (fun _ _ _ h => h) (Or.inl ⟨by rfl, ?_⟩) ?_ ?_
                                      rotate_left
                                      · intro w'
                                        go_simp
                                        with_reducible rfl
                                      rotate_left
                                      · simp only [Act.put, List.setIfInBounds_toArray, List.set_cons_zero, List.set_cons_succ, i64_w, i32_w]
                                        rfl
                                      refine pure_ (i := 16) (N := some 87) (v := ?_) (a' := ?_) #[true, false, true, false, false, true, false, false, true, false, true, false, false, true, false, false, true, false, false] rfl rfl (any_of HT_.out (by kernel_rfl)) (fun _ _ _ h => h) (Or.inl ⟨by rfl, ?_⟩) ?_ ?_
                                      rotate_left
                                      · intro w'
                                        go_simp
                                        with_reducible rfl
                                      rotate_left
                                      · simp only [Act.put, List.setIfInBounds_toArray, List.set_cons_zero, List.set_cons_succ, i64_w, i32_w]
                                        rfl
                                      refine take_ (i := 1) (N := some 72) (v := ?_) (a' := ?_) #[true, true, true, false, false, true, false, false, true, false, true, false, false, true, false, false, true, false, false] rfl rfl (take_ofW HT_.out HW_.out (by kernel_rfl)) (fun _ _ _ h => h) (Or.inl ⟨by rfl, ?_⟩) hHeld ?_ ?_
                                      rotate_left
                                      · rintro w' ⟨s0, s1, s2, s3, s4, s5⟩
                                        go_simp
                                        with_reducible rfl
                                      rotate_left
                                      · simp only [Act.put, List.setIfInBounds_toArray, List.set_cons_zero, List.set_cons_succ, i64_w, i32_w]
                                        rfl
                                      refine pure_ (i := 3) (N := some 74) (v := ?_) (a' := ?_) #[true, true, true, true, false, true, false, false, true, false, true, false, false, true, false, false, true, false, false] rfl rfl (any_of HT_.out (by kernel_rfl)) (fun _ _ _ h => h) (Or.inl ⟨by rfl, ?_⟩) ?_ ?_
                                      rotate_left
                                      · intro w'
                                        go_simp
                                        with_reducible rfl
                                      rotate_left
                                      · simp only [Act.put, List.setIfInBounds_toArray, List.set_cons_zero, List.set_cons_succ, i64_w, i32_w]
                                        rfl
                                      refine take_ (i := 4) (N := some 75) (v := ?_) (a' := ?_) #[true, true, true, true, true, true, false, false, true, false, true, false, false, true, false, false, true, false, false] rfl rfl (take_ofW HT_.out HW_.out (by kernel_rfl)) (fun _ _ _ h => h) (Or.inl ⟨by rfl, ?_⟩) hHeld ?_ ?_
                                      rotate_left
                                      · rintro w' ⟨s0, s1, s2, s3, s4, s5⟩
                                        go_simp
                                        with_reducible rfl
                                      rotate_left
                                      · simp only [Act.put, List.setIfInBounds_toArray, List.set_cons_zero, List.set_cons_succ, i64_w, i32_w]
                                        rfl
                                      refine pure_ (i := 6) (N := some 77) (v := ?_) (a' := ?_) #[true, true, true, true, true, true, true, false, true, false, true, false, false, true, false, false, true, false, false] rfl rfl (any_of HT_.out (by kernel_rfl)) (fun _ _ _ h => h) (Or.inl ⟨by rfl, ?_⟩) ?_ ?_
                                      rotate_left
                                      · intro w'
                                        go_simp
                                        with_reducible rfl
                                      rotate_left
                                      · simp only [Act.put, List.setIfInBounds_toArray, List.set_cons_zero, List.set_cons_succ, i64_w, i32_w]
                                        rfl
                                      refine take_ (i := 7) (N := some 78) (v := ?_) (a' := ?_) #[true, true, true, true, true, true, true, true, true, false, true, false, false, true, false, false, true, false, false] rfl rfl (take_ofW HT_.out HW_.out (by kernel_rfl)) (fun _ _ _ h => h) (Or.inl ⟨by rfl, ?_⟩) hHeld ?_ ?_
                                      rotate_left
                                      · rintro w' ⟨s0, s1, s2, s3, s4, s5⟩
                                        go_simp
                                        with_reducible rfl
                                      rotate_left
                                      · simp only [Act.put, List.setIfInBounds_toArray, List.set_cons_zero, List.set_cons_succ, i64_w, i32_w]
                                        rfl
                                      refine take_ (i := 9) (N := some 80) (v := ?_) (a' := ?_) #[true, true, true, true, true, true, true, true, true, true, true, false, false, true, false, false, true, false, false] rfl rfl (take_ofW HT_.out HW_.out (by kernel_rfl)) (fun _ _ _ h => h) (Or.inl ⟨by rfl, ?_⟩) hHeld ?_ ?_
                                      rotate_left
                                      · rintro w' ⟨s0, s1, s2, s3, s4, s5⟩
                                        go_simp
                                        with_reducible rfl
                                      rotate_left
                                      · simp only [Act.put, List.setIfInBounds_toArray, List.set_cons_zero, List.set_cons_succ, i64_w, i32_w]
                                        rfl
                                      refine pure_ (i := 11) (N := some 82) (v := ?_) (a' := ?_) #[true, true, true, true, true, true, true, true, true, true, true, true, false, true, false, false, true, false, false] rfl rfl (any_of HT_.out (by kernel_rfl)) (fun _ _ _ h => h) (Or.inl ⟨by rfl, ?_⟩) ?_ ?_
                                      rotate_left
                                      · intro w'
                                        go_simp
                                        with_reducible rfl
                                      rotate_left
                                      · simp only [Act.put, List.setIfInBounds_toArray, List.set_cons_zero, List.set_cons_succ, i64_w, i32_w]
                                        rfl
                                      refine take_ (i := 12) (N := some 83) (v := ?_) (a' := ?_) #[true, true, true, true, true, true, true, true, true, true, true, true, true, true, false, false, true, false, false] rfl rfl (take_ofW HT_.out HW_.out (by kernel_rfl)) (fun _ _ _ h => h) (Or.inl ⟨by rfl, ?_⟩) hHeld ?_ ?_
                                      rotate_left
                                      · rintro w' ⟨s0, s1, s2, s3, s4, s5⟩
                                        go_simp
                                        with_reducible rfl
                                      rotate_left
                                      · simp only [Act.put, List.setIfInBounds_toArray, List.set_cons_zero, List.set_cons_succ, i64_w, i32_w]
                                        rfl
                                      refine pure_ (i := 14) (N := some 85) (v := ?_) (a' := ?_) #[true, true, true, true, true, true, true, true, true, true, true, true, true, true, true, false, true, false, false] rfl rfl (any_of HT_.out (by kernel_rfl)) (fun _ _ _ h => h) (Or.inl ⟨by rfl, ?_⟩) ?_ ?_
                                      rotate_left
                                      · intro w'
                                        go_simp
                                        with_reducible rfl
                                      rotate_left
                                      · simp only [Act.put, List.setIfInBounds_toArray, List.set_cons_zero, List.set_cons_succ, i64_w, i32_w]
                                        rfl
                                      refine take_ (i := 15) (N := some 86) (v := ?_) (a' := ?_) #[true, true, true, true, true, true, true, true, true, true, true, true, true, true, true, true, true, false, false] rfl rfl (take_ofW HT_.out HW_.out (by kernel_rfl)) (fun _ _ _ h => h) (Or.inl ⟨by rfl, ?_⟩) hHeld ?_ ?_
                                      rotate_left
                                      · rintro w' ⟨s0, s1, s2, s3, s4, s5⟩
                                        go_simp
                                        with_reducible rfl
                                      rotate_left
                                      · simp only [Act.put, List.setIfInBounds_toArray, List.set_cons_zero, List.set_cons_succ, i64_w, i32_w]
                                        rfl
                                      refine pure_ (i := 17) (N := some 88) (v := ?_) (a' := ?_) #[true, true, true, true, true, true, true, true, true, true, true, true, true, true, true, true, true, true, false] rfl rfl (any_of HT_.out (by kernel_rfl)) (fun _ _ _ h => h) (Or.inl ⟨by rfl, ?_⟩) ?_ ?_
                                      rotate_left
                                      · intro w'
                                        go_simp
                                        with_reducible rfl
                                      rotate_left
                                      · simp only [Act.put, List.setIfInBounds_toArray, List.set_cons_zero, List.set_cons_succ, i64_w, i32_w]
                                        rfl
                                      refine pure_ (i := 18) (N := some 89) (v := ?_) (a' := ?_) #[true, true, true, true, true, true, true, true, true, true, true, true, true, true, true, true, true, true, true] rfl rfl (any_of HT_.out (by kernel_rfl)) (fun _ _ _ h => h) (Or.inl ⟨by rfl, ?_⟩) ?_ ?_
                                      rotate_left
                                      · intro w'
                                        go_simp
                                        with_reducible rfl
                                      rotate_left
                                      · simp only [Act.put, List.setIfInBounds_toArray, List.set_cons_zero, List.set_cons_succ, i64_w, i32_w]
                                        rfl
                                      refine done_ (done_of HT_.out (by kernel_rfl)) ?_
                                      try go_wp2
                                      go_ret
                                      exact ⟨q6_14, q6_0⟩
                                  · rw [if_neg c56] at H
                                    exact absurd H (by simp)
                                · rw [if_neg c55] at H
                                  exact absurd H (by simp)
                              · rw [if_neg c54] at H
                                exact absurd H (by simp)
                            · rw [if_neg c53] at H
                              exact absurd H (by simp)
                          · rw [if_neg c52] at H
                            exact absurd H (by simp)
                        · rw [if_neg c51] at H
                          exact absurd H (by simp)
                      · rw [if_neg c50] at H
                        have c50b0 : (x11_3 == t497) = false := beq_eq_false_iff_ne.mpr c50
                        have c50b1 : (x11_3 != t497) = true := bne_iff_ne.mpr c50
                        by_cases c60 : 0 ≤ x10_2
                        · rw [if_pos c60] at H
                          have c60b0 : decide (0 ≤ x10_2) = true := decide_eq_true c60
                          clear c60
                          by_cases c61 : x10_2 < (t487.length : Int)
                          · rw [if_pos c61] at H
                            have c61b0 : decide (x10_2 < (t487.length : Int)) = true := decide_eq_true c61
                            clear c61
                            by_cases c62 : 0 ≤ x11_3
                            · rw [if_pos c62] at H
                              have c62b0 : decide (0 ≤ x11_3) = true := decide_eq_true c62
                              clear c62
                              by_cases c63 : x11_3 < ((rd_L2 t487 x10_2).length : Int)
                              · rw [if_pos c63] at H
                                have c63b0 : decide (x11_3 < ((rd_L2 t487 x10_2).length : Int)) = true := decide_eq_true c63
                                clear c63
                                by_cases c64 : x10_2 < (t476.length : Int)
                                · rw [if_pos c64] at H
                                  have c64b0 : decide (x10_2 < (t476.length : Int)) = true := decide_eq_true c64
                                  clear c64
                                  by_cases c65 : x11_3 < ((rd_L2 t476 x10_2).length : Int)
                                  · rw [if_pos c65] at H
                                    have c65b0 : decide (x11_3 < ((rd_L2 t476 x10_2).length : Int)) = true := decide_eq_true c65
                                    clear c65
                                    by_cases c66 : (rd (rd_L2 t487 x10_2) x11_3) = (wrap64 ((rd (rd_L2 t476 x10_2) x11_3) + 0))
                                    · rw [if_pos c66] at H
                                      have c66b0 : ((rd (rd_L2 t487 x10_2) x11_3) == (wrap64 ((rd (rd_L2 t476 x10_2) x11_3) + 0))) = true := beq_iff_eq.mpr c66
                                      (try (have c66b8 := c66b0; rw [Int.add_zero] at c66b8))
                                      have c66b1 : ((rd (rd_L2 t487 x10_2) x11_3) != (wrap64 ((rd (rd_L2 t476 x10_2) x11_3) + 0))) = false := bne_eq_false_iff_eq.mpr c66
                                      (try (have c66b9 := c66b1; rw [Int.add_zero] at c66b9))
                                      clear c66
                                      have H' := Aside0.mk H
                                      clear H
                                      try go_wp2_with (first | ((with_reducible refine gate_callee (f := 25) rfl ?_); refine goesL_ (some 68) rfl rfl Try.func25 (by kernel_rfl) rfl #[.int .i64 x10_2, .int .i64 t479] rfl q6_2 ?_; (with_reducible refine (impl_RoughPlace.calls x10_2 t479 t497 _ A49.out).mono ?_); rintro e w' ⟨rfl, ⟨nd, rfl⟩⟩; refine ⟨_, rfl, ?_⟩))
                                      (try (rw [drewN_self wr]; generalize hq_ : World.drewN wr _ = wr; have n0_ : Aside0 (Kd.Q (Kd.slice 3 (Kd.int .i64)) 43 wr w.heap.size (fun k_ => some k_ ≠ (.slice Ao13 t482.length co13 : Value).ownBlock ∧ some k_ ≠ (.slice Ao19 t487.length co19 : Value).ownBlock) (.slice Ao9 t476.length co9) t476) := ⟨by rw [← hq_]; exact q6_6⟩; have n1_ : Aside0 (Kd.Q (Kd.slice 3 (Kd.int .i64)) 43 wr w.heap.size (fun k_ => some k_ ≠ (.slice Ao9 t476.length co9 : Value).ownBlock ∧ some k_ ≠ (.slice Ao19 t487.length co19 : Value).ownBlock) (.slice Ao13 t482.length co13) t482) := ⟨by rw [← hq_]; exact q6_7⟩; have n2_ : Aside0 (Kd.Q (Kd.slice 3 (Kd.int .i64)) 43 wr w.heap.size (fun k_ => some k_ ≠ (.slice Ao9 t476.length co9 : Value).ownBlock ∧ some k_ ≠ (.slice Ao13 t482.length co13 : Value).ownBlock) (.slice Ao19 t487.length co19) t487) := ⟨by rw [← hq_]; exact q6_8⟩; have n3_ : Aside0 (wr.heap[gb481]? = some (.cells #[.slice Ao9 t476.length co9] 25 (0, 0))) := ⟨by rw [← hq_]; exact q6_1⟩; have n4_ : Aside0 (wr.heap[gb486]? = some (.cells #[.slice Ao13 t482.length co13] 25 (0, 0))) := ⟨by rw [← hq_]; exact q6_4⟩; have n5_ : Aside0 (wr.heap[gb491]? = some (.cells #[.slice Ao19 t487.length co19] 25 (0, 0))) := ⟨by rw [← hq_]; exact q6_5⟩; have n6_ : Aside0 (Below w.heap.size w wr) := ⟨by rw [← hq_]; exact q6_0⟩; clear HO_482000 HO_487000 HO_492000 BK481 BK486 BK491 HB hq_; have HO_482000 := n0_; have HO_487000 := n1_; have HO_492000 := n2_; have BK481 := n3_; have BK486 := n4_; have BK491 := n5_; have HB := n6_; clear n0_ n1_ n2_ n3_ n4_ n5_ n6_))
                                      have n0_ := Aside0.mk (Kd.Q_drew HO_482000.out)
                                      have n1_ := Aside0.mk (Kd.Q_drew HO_487000.out)
                                      have n2_ := Aside0.mk (Kd.Q_drew HO_492000.out)
                                      have n3_ := Aside0.mk (blk_drew BK481.out)
                                      have n4_ := Aside0.mk (blk_drew BK486.out)
                                      have n5_ := Aside0.mk (blk_drew BK491.out)
                                      have n6_ := Aside0.mk (below_drew1 HB.out)
                                      clear HO_482000
                                      clear HO_487000
                                      clear HO_492000
                                      clear BK481
                                      clear BK486
                                      clear BK491
                                      clear HB
                                      have HO_482000 := n0_
                                      have HO_487000 := n1_
                                      have HO_492000 := n2_
                                      have BK481 := n3_
                                      have BK486 := n4_
                                      have BK491 := n5_
                                      have HB := n6_
                                      clear n0_ n1_ n2_ n3_ n4_ n5_ n6_
                                      have p502 : 0 ≤ (x10_2 : Int) := of_decide_eq_true q6_3
                                      have q502 : x10_2 < (t487.length : Int) := of_decide_eq_true q6_3
                                      obtain ⟨ad502, A502_0, c502_0, e502, hx502_0, hl502_0, hi502_0⟩ := at_L2 (Kd.Q_reads' HO_492000.out).2.2 x10_2 p502 q502
                                      cases e502
                                      have HR502_0 := Aside0.mk hi502_0
                                      have HC502_0 := Aside0.mk hl502_0
                                      clear hi502_0 hl502_0
                                      replace p502 := eq_true p502
                                      replace q502 := eq_true q502
                                      have p503 : 0 ≤ (x11_3 : Int) := of_decide_eq_true q6_3
                                      have q503 : x11_3 < ((rd_L2 t487 x10_2).length : Int) := of_decide_eq_true q6_3
                                      obtain ⟨ad503, e503, hx503_0⟩ := Kd.at_int q6_29 x11_3 p503 q503
                                      cases e503
                                      replace p503 := eq_true p503
                                      replace q503 := eq_true q503
                                      have p504 : 0 ≤ (x10_2 : Int) := of_decide_eq_true q6_3
                                      have q504 : x10_2 < (t476.length : Int) := of_decide_eq_true q6_3
                                      obtain ⟨ad504, A504_0, c504_0, e504, hx504_0, hl504_0, hi504_0⟩ := at_L2 (Kd.Q_reads' HO_482000.out).2.2 x10_2 p504 q504
                                      cases e504
                                      have HR504_0 := Aside0.mk hi504_0
                                      have HC504_0 := Aside0.mk hl504_0
                                      clear hi504_0 hl504_0
                                      replace p504 := eq_true p504
                                      replace q504 := eq_true q504
                                      have p505 : 0 ≤ (x11_3 : Int) := of_decide_eq_true q6_3
                                      have q505 : x11_3 < ((rd_L2 t476 x10_2).length : Int) := of_decide_eq_true q6_3
                                      obtain ⟨ad505, e505, hx505_0⟩ := Kd.at_int q6_30 x11_3 p505 q505
                                      cases e505
                                      replace p505 := eq_true p505
                                      replace q505 := eq_true q505
                                      refine start_ (n := 19) (S := fun w' => w'.cell? ⟨gb491, 0, none⟩ = some (.slice (some ad502) t487.length co19) ∧ w'.cell? ⟨gb481, 0, none⟩ = some (.slice (some ad504) t476.length co9) ∧ w'.cell? (ad502.add (x10_2).toNat) = some (.slice (some ad503) (rd_L2 t487 x10_2).length c502_0) ∧ w'.cell? (ad503.add (x11_3).toNat) = some (.int .i64 (rd (rd_L2 t487 x10_2) x11_3)) ∧ w'.cell? (ad504.add (x10_2).toNat) = some (.slice (some ad505) (rd_L2 t476 x10_2).length c504_0) ∧ w'.cell? (ad505.add (x11_3).toNat) = some (.int .i64 (rd (rd_L2 t476 x10_2) x11_3))) (ds := []) #[false, false, false, false, false, false, false, false, false, false, false, false, false, false, false, false, false, false, false] (by kernel_rfl) rfl rfl ⟨(blk_cell BK491.out 0).trans rfl, (blk_cell BK481.out 0).trans rfl, hx502_0, hx503_0, hx504_0, hx505_0⟩ (fun hHeld => ?_); refine with_tabW laws_FnRoughAdd.tab17 laws_FnRoughAdd.bits17 (fun HT_ HW_ => ?_)
                                      generalize wr.drew = w67 at HO_482000 HO_487000 HO_492000 BK481 BK486 BK491 HB HR502_0 HR504_0 hx502_0 hx503_0 hx504_0 hx505_0 hHeld ⊢
                                      refine pure_ (i := 0) (N := some 71) (v := ?_) (a' := ?_) #[true, false, false, false, false, false, false, false, false, false, false, false, false, false, false, false, false, false, false] rfl rfl (any_of HT_.out (by kernel_rfl)) (fun _ _ _ h => h) (Or.inl ⟨by rfl, ?_⟩) ?_ ?_
                                      rotate_left
                                      · intro w'
                                        go_simp
                                        with_reducible rfl
                                      rotate_left
                                      · simp only [Act.put, List.setIfInBounds_toArray, List.set_cons_zero, List.set_cons_succ, i64_w, i32_w]
                                        rfl
                                      refine pure_ (i := 2) (N := some 73) (v := ?_) (a' := ?_) #[true, false, true, false, false, false, false, false, false, false, false, false, false, false, false, false, false, false, false] rfl rfl (any_of HT_.out (by kernel_rfl)) (fun _ _ _ h => h) (Or.inl ⟨by rfl, ?_⟩) ?_ ?_
                                      rotate_left
                                      · intro w'
                                        go_simp
                                        with_reducible rfl
                                      rotate_left
                                      · simp only [Act.put, List.setIfInBounds_toArray, List.set_cons_zero, List.set_cons_succ, i64_w, i32_w]
                                        rfl
                                      refine pure_ (i := 5) (N := some 76) (v := ?_) (a' := ?_) #[true, false, true, false, false, true, false, false, false, false, false, false, false, false, false, false, false, false, false] rfl rfl (any_of HT_.out (by kernel_rfl)) (fun _ _ _ h => h) (Or.inl ⟨by rfl, ?_⟩) ?_ ?_
                                      rotate_left
                                      · intro w'
                                        go_simp
                                        with_reducible rfl
                                      rotate_left
                                      · simp only [Act.put, List.setIfInBounds_toArray, List.set_cons_zero, List.set_cons_succ, i64_w, i32_w]
                                        rfl
                                      refine pure_ (i := 8) (N := some 79) (v := ?_) (a' := ?_) #[true, false, true, false, false, true, false, false, true, false, false, false, false, false, false, false, false, false, false] rfl rfl (any_of HT_.out (by kernel_rfl)) (fun _ _ _ h => h) (Or.inl ⟨by rfl, ?_⟩) ?_ ?_
                                      rotate_left
                                      · intro w'
                                        go_simp
                                        with_reducible rfl
                                      rotate_left
                                      · simp only [Act.put, List.setIfInBounds_toArray, List.set_cons_zero, List.set_cons_succ, i64_w, i32_w]
                                        rfl
                                      refine pure_ (i := 10) (N := some 81) (v := ?_) (a' := ?_) #[true, false, true, false, false, true, false, false, true, false, true, false, false, false, false, false, false, false, false] rfl rfl (any_of HT_.out (by kernel_rfl)) (fun _ _ _ h => h) (Or.inl ⟨by rfl, ?_⟩) ?_ ?_
                                      rotate_left
                                      · intro w'
                                        go_simp
                                        with_reducible rfl
                                      rotate_left
                                      · simp only [Act.put, List.setIfInBounds_toArray, List.set_cons_zero, List.set_cons_succ, i64_w, i32_w]
                                        rfl
                                      refine pure_ (i := 13) (N := some 84) (v := ?_) (a' := ?_) #[true, false, true, false, false, true, false, false, true, false, true, false, false, true, false, false, false, false, false] rfl rfl (any_of HT_.out (by kernel_rfl)) (fun _ _ _ h => h) (Or.inl ⟨by rfl, ?_⟩) ?_ ?_
                                      rotate_left
                                      · intro w'
                                        go_simp
                                        with_reducible rfl
                                      rotate_left
                                      · simp only [Act.put, List.setIfInBounds_toArray, List.set_cons_zero, List.set_cons_succ, i64_w, i32_w]
                                        rfl
                                      refine pure_ (i := 16) (N := some 87) (v := ?_) (a' := ?_) #[true, false, true, false, false, true, false, false, true, false, true, false, false, true, false, false, true, false, false] rfl rfl (any_of HT_.out (by kernel_rfl)) (fun _ _ _ h => h) (Or.inl ⟨by rfl, ?_⟩) ?_ ?_
                                      rotate_left
                                      · intro w'
                                        go_simp
                                        with_reducible rfl
                                      rotate_left
                                      · simp only [Act.put, List.setIfInBounds_toArray, List.set_cons_zero, List.set_cons_succ, i64_w, i32_w]
                                        rfl
                                      refine take_ (i := 1) (N := some 72) (v := ?_) (a' := ?_) #[true, true, true, false, false, true, false, false, true, false, true, false, false, true, false, false, true, false, false] rfl rfl (take_ofW HT_.out HW_.out (by kernel_rfl)) (fun _ _ _ h => h) (Or.inl ⟨by rfl, ?_⟩) hHeld ?_ ?_
                                      rotate_left
                                      · rintro w' ⟨s0, s1, s2, s3, s4, s5⟩
                                        go_simp
                                        with_reducible rfl
                                      rotate_left
                                      · simp only [Act.put, List.setIfInBounds_toArray, List.set_cons_zero, List.set_cons_succ, i64_w, i32_w]
                                        rfl
                                      refine pure_ (i := 3) (N := some 74) (v := ?_) (a' := ?_) #[true, true, true, true, false, true, false, false, true, false, true, false, false, true, false, false, true, false, false] rfl rfl (any_of HT_.out (by kernel_rfl)) (fun _ _ _ h => h) (Or.inl ⟨by rfl, ?_⟩) ?_ ?_
                                      rotate_left
                                      · intro w'
                                        go_simp
                                        with_reducible rfl
                                      rotate_left
                                      · simp only [Act.put, List.setIfInBounds_toArray, List.set_cons_zero, List.set_cons_succ, i64_w, i32_w]
                                        rfl
                                      refine take_ (i := 4) (N := some 75) (v := ?_) (a' := ?_) #[true, true, true, true, true, true, false, false, true, false, true, false, false, true, false, false, true, false, false] rfl rfl (take_ofW HT_.out HW_.out (by kernel_rfl)) (fun _ _ _ h => h) (Or.inl ⟨by rfl, ?_⟩) hHeld ?_ ?_
                                      rotate_left
                                      · rintro w' ⟨s0, s1, s2, s3, s4, s5⟩
                                        go_simp
                                        with_reducible rfl
                                      rotate_left
                                      · simp only [Act.put, List.setIfInBounds_toArray, List.set_cons_zero, List.set_cons_succ, i64_w, i32_w]
                                        rfl
                                      refine pure_ (i := 6) (N := some 77) (v := ?_) (a' := ?_) #[true, true, true, true, true, true, true, false, true, false, true, false, false, true, false, false, true, false, false] rfl rfl (any_of HT_.out (by kernel_rfl)) (fun _ _ _ h => h) (Or.inl ⟨by rfl, ?_⟩) ?_ ?_
                                      rotate_left
                                      · intro w'
                                        go_simp
                                        with_reducible rfl
                                      rotate_left
                                      · simp only [Act.put, List.setIfInBounds_toArray, List.set_cons_zero, List.set_cons_succ, i64_w, i32_w]
                                        rfl
                                      refine take_ (i := 7) (N := some 78) (v := ?_) (a' := ?_) #[true, true, true, true, true, true, true, true, true, false, true, false, false, true, false, false, true, false, false] rfl rfl (take_ofW HT_.out HW_.out (by kernel_rfl)) (fun _ _ _ h => h) (Or.inl ⟨by rfl, ?_⟩) hHeld ?_ ?_
                                      rotate_left
                                      · rintro w' ⟨s0, s1, s2, s3, s4, s5⟩
                                        go_simp
                                        with_reducible rfl
                                      rotate_left
                                      · simp only [Act.put, List.setIfInBounds_toArray, List.set_cons_zero, List.set_cons_succ, i64_w, i32_w]
                                        rfl
                                      refine take_ (i := 9) (N := some 80) (v := ?_) (a' := ?_) #[true, true, true, true, true, true, true, true, true, true, true, false, false, true, false, false, true, false, false] rfl rfl (take_ofW HT_.out HW_.out (by kernel_rfl)) (fun _ _ _ h => h) (Or.inl ⟨by rfl, ?_⟩) hHeld ?_ ?_
                                      rotate_left
                                      · rintro w' ⟨s0, s1, s2, s3, s4, s5⟩
                                        go_simp
                                        with_reducible rfl
                                      rotate_left
                                      · simp only [Act.put, List.setIfInBounds_toArray, List.set_cons_zero, List.set_cons_succ, i64_w, i32_w]
                                        rfl
                                      refine pure_ (i := 11) (N := some 82) (v := ?_) (a' := ?_) #[true, true, true, true, true, true, true, true, true, true, true, true, false, true, false, false, true, false, false] rfl rfl (any_of HT_.out (by kernel_rfl)) (fun _ _ _ h => h) (Or.inl ⟨by rfl, ?_⟩) ?_ ?_
                                      rotate_left
                                      · intro w'
                                        go_simp
                                        with_reducible rfl
                                      rotate_left
                                      · simp only [Act.put, List.setIfInBounds_toArray, List.set_cons_zero, List.set_cons_succ, i64_w, i32_w]
                                        rfl
                                      refine take_ (i := 12) (N := some 83) (v := ?_) (a' := ?_) #[true, true, true, true, true, true, true, true, true, true, true, true, true, true, false, false, true, false, false] rfl rfl (take_ofW HT_.out HW_.out (by kernel_rfl)) (fun _ _ _ h => h) (Or.inl ⟨by rfl, ?_⟩) hHeld ?_ ?_
                                      rotate_left
                                      · rintro w' ⟨s0, s1, s2, s3, s4, s5⟩
                                        go_simp
                                        with_reducible rfl
                                      rotate_left
                                      · simp only [Act.put, List.setIfInBounds_toArray, List.set_cons_zero, List.set_cons_succ, i64_w, i32_w]
                                        rfl
                                      refine pure_ (i := 14) (N := some 85) (v := ?_) (a' := ?_) #[true, true, true, true, true, true, true, true, true, true, true, true, true, true, true, false, true, false, false] rfl rfl (any_of HT_.out (by kernel_rfl)) (fun _ _ _ h => h) (Or.inl ⟨by rfl, ?_⟩) ?_ ?_
                                      rotate_left
                                      · intro w'
                                        go_simp
                                        with_reducible rfl
                                      rotate_left
                                      · simp only [Act.put, List.setIfInBounds_toArray, List.set_cons_zero, List.set_cons_succ, i64_w, i32_w]
                                        rfl
                                      refine take_ (i := 15) (N := some 86) (v := ?_) (a' := ?_) #[true, true, true, true, true, true, true, true, true, true, true, true, true, true, true, true, true, false, false] rfl rfl (take_ofW HT_.out HW_.out (by kernel_rfl)) (fun _ _ _ h => h) (Or.inl ⟨by rfl, ?_⟩) hHeld ?_ ?_
                                      rotate_left
                                      · rintro w' ⟨s0, s1, s2, s3, s4, s5⟩
                                        go_simp
                                        with_reducible rfl
                                      rotate_left
                                      · simp only [Act.put, List.setIfInBounds_toArray, List.set_cons_zero, List.set_cons_succ, i64_w, i32_w]
                                        rfl
                                      refine pure_ (i := 17) (N := some 88) (v := ?_) (a' := ?_) #[true, true, true, true, true, true, true, true, true, true, true, true, true, true, true, true, true, true, false] rfl rfl (any_of HT_.out (by kernel_rfl)) (fun _ _ _ h => h) (Or.inl ⟨by rfl, ?_⟩) ?_ ?_
                                      rotate_left
                                      · intro w'
                                        go_simp
                                        with_reducible rfl
                                      rotate_left
                                      · simp only [Act.put, List.setIfInBounds_toArray, List.set_cons_zero, List.set_cons_succ, i64_w, i32_w]
                                        rfl
                                      refine pure_ (i := 18) (N := some 89) (v := ?_) (a' := ?_) #[true, true, true, true, true, true, true, true, true, true, true, true, true, true, true, true, true, true, true] rfl rfl (any_of HT_.out (by kernel_rfl)) (fun _ _ _ h => h) (Or.inl ⟨by rfl, ?_⟩) ?_ ?_
                                      rotate_left
                                      · intro w'
                                        go_simp
                                        with_reducible rfl
                                      rotate_left
                                      · simp only [Act.put, List.setIfInBounds_toArray, List.set_cons_zero, List.set_cons_succ, i64_w, i32_w]
                                        rfl
                                      refine done_ (done_of HT_.out (by kernel_rfl)) ?_
                                      try go_wp2
                                      go_roundg k3
                                      case measure => have := HJ5.out; have := HK2.out; have := HK3.out; omega
                                      case rel => exact ⟨(wrap64 (x11_3 + 1)), q6_18, H', ⟨by have := HJ5.out; have := HK2.out; have := HK3.out; omega⟩, ⟨by (with_reducible repeat (first | apply Kd.Q_alloc | apply Kd.Q_drewN | apply Kd.Q_drew)); exact HO_482000.out⟩, ⟨by (with_reducible repeat (first | apply Kd.Q_alloc | apply Kd.Q_drewN | apply Kd.Q_drew)); exact HO_487000.out⟩, ⟨by (with_reducible repeat (first | apply Kd.Q_alloc | apply Kd.Q_drewN | apply Kd.Q_drew)); exact HO_492000.out⟩, ⟨by (with_reducible repeat (first | refine blk_drewN ?_ _ | refine blk_drew ?_ | refine blk_alloc ?_ _)); exact BK481.out⟩, ⟨by (with_reducible repeat (first | refine blk_drewN ?_ _ | refine blk_drew ?_ | refine blk_alloc ?_ _)); exact BK486.out⟩, ⟨by (with_reducible repeat (first | refine blk_drewN ?_ _ | refine blk_drew ?_ | refine blk_alloc ?_ _)); exact BK491.out⟩, ⟨q6_0⟩⟩
                                    · rw [if_neg c66] at H
                                      have c66b0 : ((rd (rd_L2 t487 x10_2) x11_3) == (wrap64 ((rd (rd_L2 t476 x10_2) x11_3) + 0))) = false := beq_eq_false_iff_ne.mpr c66
                                      (try (have c66b8 := c66b0; rw [Int.add_zero] at c66b8))
                                      have c66b1 : ((rd (rd_L2 t487 x10_2) x11_3) != (wrap64 ((rd (rd_L2 t476 x10_2) x11_3) + 0))) = true := bne_iff_ne.mpr c66
                                      (try (have c66b9 := c66b1; rw [Int.add_zero] at c66b9))
                                      obtain rfl := Option.some.inj H
                                      try go_wp2_with (first | ((with_reducible refine gate_callee (f := 25) rfl ?_); refine goesL_ (some 68) rfl rfl Try.func25 (by kernel_rfl) rfl #[.int .i64 x10_2, .int .i64 t479] rfl q6_2 ?_; (with_reducible refine (impl_RoughPlace.calls x10_2 t479 t497 _ A49.out).mono ?_); rintro e w' ⟨rfl, ⟨nd, rfl⟩⟩; refine ⟨_, rfl, ?_⟩))
                                      (try (rw [drewN_self wr]; generalize hq_ : World.drewN wr _ = wr; have n0_ : Aside0 (Kd.Q (Kd.slice 3 (Kd.int .i64)) 43 wr w.heap.size (fun k_ => some k_ ≠ (.slice Ao13 t482.length co13 : Value).ownBlock ∧ some k_ ≠ (.slice Ao19 t487.length co19 : Value).ownBlock) (.slice Ao9 t476.length co9) t476) := ⟨by rw [← hq_]; exact q6_6⟩; have n1_ : Aside0 (Kd.Q (Kd.slice 3 (Kd.int .i64)) 43 wr w.heap.size (fun k_ => some k_ ≠ (.slice Ao9 t476.length co9 : Value).ownBlock ∧ some k_ ≠ (.slice Ao19 t487.length co19 : Value).ownBlock) (.slice Ao13 t482.length co13) t482) := ⟨by rw [← hq_]; exact q6_7⟩; have n2_ : Aside0 (Kd.Q (Kd.slice 3 (Kd.int .i64)) 43 wr w.heap.size (fun k_ => some k_ ≠ (.slice Ao9 t476.length co9 : Value).ownBlock ∧ some k_ ≠ (.slice Ao13 t482.length co13 : Value).ownBlock) (.slice Ao19 t487.length co19) t487) := ⟨by rw [← hq_]; exact q6_8⟩; have n3_ : Aside0 (wr.heap[gb481]? = some (.cells #[.slice Ao9 t476.length co9] 25 (0, 0))) := ⟨by rw [← hq_]; exact q6_1⟩; have n4_ : Aside0 (wr.heap[gb486]? = some (.cells #[.slice Ao13 t482.length co13] 25 (0, 0))) := ⟨by rw [← hq_]; exact q6_4⟩; have n5_ : Aside0 (wr.heap[gb491]? = some (.cells #[.slice Ao19 t487.length co19] 25 (0, 0))) := ⟨by rw [← hq_]; exact q6_5⟩; have n6_ : Aside0 (Below w.heap.size w wr) := ⟨by rw [← hq_]; exact q6_0⟩; clear HO_482000 HO_487000 HO_492000 BK481 BK486 BK491 HB hq_; have HO_482000 := n0_; have HO_487000 := n1_; have HO_492000 := n2_; have BK481 := n3_; have BK486 := n4_; have BK491 := n5_; have HB := n6_; clear n0_ n1_ n2_ n3_ n4_ n5_ n6_))
                                      have n0_ := Aside0.mk (Kd.Q_drew HO_482000.out)
                                      have n1_ := Aside0.mk (Kd.Q_drew HO_487000.out)
                                      have n2_ := Aside0.mk (Kd.Q_drew HO_492000.out)
                                      have n3_ := Aside0.mk (blk_drew BK481.out)
                                      have n4_ := Aside0.mk (blk_drew BK486.out)
                                      have n5_ := Aside0.mk (blk_drew BK491.out)
                                      have n6_ := Aside0.mk (below_drew1 HB.out)
                                      clear HO_482000
                                      clear HO_487000
                                      clear HO_492000
                                      clear BK481
                                      clear BK486
                                      clear BK491
                                      clear HB
                                      have HO_482000 := n0_
                                      have HO_487000 := n1_
                                      have HO_492000 := n2_
                                      have BK481 := n3_
                                      have BK486 := n4_
                                      have BK491 := n5_
                                      have HB := n6_
                                      clear n0_ n1_ n2_ n3_ n4_ n5_ n6_
                                      have p502 : 0 ≤ (x10_2 : Int) := of_decide_eq_true q6_3
                                      have q502 : x10_2 < (t487.length : Int) := of_decide_eq_true q6_3
                                      obtain ⟨ad502, A502_0, c502_0, e502, hx502_0, hl502_0, hi502_0⟩ := at_L2 (Kd.Q_reads' HO_492000.out).2.2 x10_2 p502 q502
                                      cases e502
                                      have HR502_0 := Aside0.mk hi502_0
                                      have HC502_0 := Aside0.mk hl502_0
                                      clear hi502_0 hl502_0
                                      replace p502 := eq_true p502
                                      replace q502 := eq_true q502
                                      have p503 : 0 ≤ (x11_3 : Int) := of_decide_eq_true q6_3
                                      have q503 : x11_3 < ((rd_L2 t487 x10_2).length : Int) := of_decide_eq_true q6_3
                                      obtain ⟨ad503, e503, hx503_0⟩ := Kd.at_int q6_29 x11_3 p503 q503
                                      cases e503
                                      replace p503 := eq_true p503
                                      replace q503 := eq_true q503
                                      have p504 : 0 ≤ (x10_2 : Int) := of_decide_eq_true q6_3
                                      have q504 : x10_2 < (t476.length : Int) := of_decide_eq_true q6_3
                                      obtain ⟨ad504, A504_0, c504_0, e504, hx504_0, hl504_0, hi504_0⟩ := at_L2 (Kd.Q_reads' HO_482000.out).2.2 x10_2 p504 q504
                                      cases e504
                                      have HR504_0 := Aside0.mk hi504_0
                                      have HC504_0 := Aside0.mk hl504_0
                                      clear hi504_0 hl504_0
                                      replace p504 := eq_true p504
                                      replace q504 := eq_true q504
                                      have p505 : 0 ≤ (x11_3 : Int) := of_decide_eq_true q6_3
                                      have q505 : x11_3 < ((rd_L2 t476 x10_2).length : Int) := of_decide_eq_true q6_3
                                      obtain ⟨ad505, e505, hx505_0⟩ := Kd.at_int q6_30 x11_3 p505 q505
                                      cases e505
                                      replace p505 := eq_true p505
                                      replace q505 := eq_true q505
                                      refine start_ (n := 19) (S := fun w' => w'.cell? ⟨gb491, 0, none⟩ = some (.slice (some ad502) t487.length co19) ∧ w'.cell? ⟨gb481, 0, none⟩ = some (.slice (some ad504) t476.length co9) ∧ w'.cell? (ad502.add (x10_2).toNat) = some (.slice (some ad503) (rd_L2 t487 x10_2).length c502_0) ∧ w'.cell? (ad503.add (x11_3).toNat) = some (.int .i64 (rd (rd_L2 t487 x10_2) x11_3)) ∧ w'.cell? (ad504.add (x10_2).toNat) = some (.slice (some ad505) (rd_L2 t476 x10_2).length c504_0) ∧ w'.cell? (ad505.add (x11_3).toNat) = some (.int .i64 (rd (rd_L2 t476 x10_2) x11_3))) (ds := []) #[false, false, false, false, false, false, false, false, false, false, false, false, false, false, false, false, false, false, false] (by kernel_rfl) rfl rfl ⟨(blk_cell BK491.out 0).trans rfl, (blk_cell BK481.out 0).trans rfl, hx502_0, hx503_0, hx504_0, hx505_0⟩ (fun hHeld => ?_); refine with_tabW laws_FnRoughAdd.tab17 laws_FnRoughAdd.bits17 (fun HT_ HW_ => ?_)
                                      generalize wr.drew = w68 at HO_482000 HO_487000 HO_492000 BK481 BK486 BK491 HB HR502_0 HR504_0 hx502_0 hx503_0 hx504_0 hx505_0 hHeld ⊢
                                      refine pure_ (i := 0) (N := some 71) (v := ?_) (a' := ?_) #[true, false, false, false, false, false, false, false, false, false, false, false, false, false, false, false, false, false, false] rfl rfl (any_of HT_.out (by kernel_rfl)) (fun _ _ _ h => h) (Or.inl ⟨by rfl, ?_⟩) ?_ ?_
                                      rotate_left
                                      · intro w'
                                        go_simp
                                        with_reducible rfl
                                      rotate_left
                                      · simp only [Act.put, List.setIfInBounds_toArray, List.set_cons_zero, List.set_cons_succ, i64_w, i32_w]
                                        rfl
                                      refine pure_ (i := 2) (N := some 73) (v := ?_) (a' := ?_) #[true, false, true, false, false, false, false, false, false, false, false, false, false, false, false, false, false, false, false] rfl rfl (any_of HT_.out (by kernel_rfl)) (fun _ _ _ h => h) (Or.inl ⟨by rfl, ?_⟩) ?_ ?_
                                      rotate_left
                                      · intro w'
                                        go_simp
                                        with_reducible rfl
                                      rotate_left
                                      · simp only [Act.put, List.setIfInBounds_toArray, List.set_cons_zero, List.set_cons_succ, i64_w, i32_w]
                                        rfl
                                      refine pure_ (i := 5) (N := some 76) (v := ?_) (a' := ?_) #[true, false, true, false, false, true, false, false, false, false, false, false, false, false, false, false, false, false, false] rfl rfl (any_of HT_.out (by kernel_rfl)) (fun _ _ _ h => h) (Or.inl ⟨by rfl, ?_⟩) ?_ ?_
                                      rotate_left
                                      · intro w'
                                        go_simp
                                        with_reducible rfl
                                      rotate_left
                                      · simp only [Act.put, List.setIfInBounds_toArray, List.set_cons_zero, List.set_cons_succ, i64_w, i32_w]
                                        rfl
                                      refine pure_ (i := 8) (N := some 79) (v := ?_) (a' := ?_) #[true, false, true, false, false, true, false, false, true, false, false, false, false, false, false, false, false, false, false] rfl rfl (any_of HT_.out (by kernel_rfl)) (fun _ _ _ h => h) (Or.inl ⟨by rfl, ?_⟩) ?_ ?_
                                      rotate_left
                                      · intro w'
                                        go_simp
                                        with_reducible rfl
                                      rotate_left
                                      · simp only [Act.put, List.setIfInBounds_toArray, List.set_cons_zero, List.set_cons_succ, i64_w, i32_w]
                                        rfl
                                      refine pure_ (i := 10) (N := some 81) (v := ?_) (a' := ?_) #[true, false, true, false, false, true, false, false, true, false, true, false, false, false, false, false, false, false, false] rfl rfl (any_of HT_.out (by kernel_rfl)) (fun _ _ _ h => h) (Or.inl ⟨by rfl, ?_⟩) ?_ ?_
                                      rotate_left
                                      · intro w'
                                        go_simp
                                        with_reducible rfl
                                      rotate_left
                                      · simp only [Act.put, List.setIfInBounds_toArray, List.set_cons_zero, List.set_cons_succ, i64_w, i32_w]
                                        rfl
                                      refine pure_ (i := 13) (N := some 84) (v := ?_) (a' := ?_) #[true, false, true, false, false, true, false, false, true, false, true, false, false, true, false, false, false, false, false] rfl rfl (any_of HT_.out (by kernel_rfl)) (fun _ _ _ h => h) (Or.inl ⟨by rfl, ?_⟩) ?_ ?_
                                      rotate_left
                                      · intro w'
                                        go_simp
                                        with_reducible rfl
                                      rotate_left
                                      · simp only [Act.put, List.setIfInBounds_toArray, List.set_cons_zero, List.set_cons_succ, i64_w, i32_w]
                                        rfl
                                      refine pure_ (i := 16) (N := some 87) (v := ?_) (a' := ?_) #[true, false, true, false, false, true, false, false, true, false, true, false, false, true, false, false, true, false, false] rfl rfl (any_of HT_.out (by kernel_rfl)) (fun _ _ _ h => h) (Or.inl ⟨by rfl, ?_⟩) ?_ ?_
                                      rotate_left
                                      · intro w'
                                        go_simp
                                        with_reducible rfl
                                      rotate_left
                                      · simp only [Act.put, List.setIfInBounds_toArray, List.set_cons_zero, List.set_cons_succ, i64_w, i32_w]
                                        rfl
                                      refine take_ (i := 1) (N := some 72) (v := ?_) (a' := ?_) #[true, true, true, false, false, true, false, false, true, false, true, false, false, true, false, false, true, false, false] rfl rfl (take_ofW HT_.out HW_.out (by kernel_rfl)) (fun _ _ _ h => h) (Or.inl ⟨by rfl, ?_⟩) hHeld ?_ ?_
                                      rotate_left
                                      · rintro w' ⟨s0, s1, s2, s3, s4, s5⟩
                                        go_simp
                                        with_reducible rfl
                                      rotate_left
                                      · simp only [Act.put, List.setIfInBounds_toArray, List.set_cons_zero, List.set_cons_succ, i64_w, i32_w]
                                        rfl
                                      refine pure_ (i := 3) (N := some 74) (v := ?_) (a' := ?_) #[true, true, true, true, false, true, false, false, true, false, true, false, false, true, false, false, true, false, false] rfl rfl (any_of HT_.out (by kernel_rfl)) (fun _ _ _ h => h) (Or.inl ⟨by rfl, ?_⟩) ?_ ?_
                                      rotate_left
                                      · intro w'
                                        go_simp
                                        with_reducible rfl
                                      rotate_left
                                      · simp only [Act.put, List.setIfInBounds_toArray, List.set_cons_zero, List.set_cons_succ, i64_w, i32_w]
                                        rfl
                                      refine take_ (i := 4) (N := some 75) (v := ?_) (a' := ?_) #[true, true, true, true, true, true, false, false, true, false, true, false, false, true, false, false, true, false, false] rfl rfl (take_ofW HT_.out HW_.out (by kernel_rfl)) (fun _ _ _ h => h) (Or.inl ⟨by rfl, ?_⟩) hHeld ?_ ?_
                                      rotate_left
                                      · rintro w' ⟨s0, s1, s2, s3, s4, s5⟩
                                        go_simp
                                        with_reducible rfl
                                      rotate_left
                                      · simp only [Act.put, List.setIfInBounds_toArray, List.set_cons_zero, List.set_cons_succ, i64_w, i32_w]
                                        rfl
                                      refine pure_ (i := 6) (N := some 77) (v := ?_) (a' := ?_) #[true, true, true, true, true, true, true, false, true, false, true, false, false, true, false, false, true, false, false] rfl rfl (any_of HT_.out (by kernel_rfl)) (fun _ _ _ h => h) (Or.inl ⟨by rfl, ?_⟩) ?_ ?_
                                      rotate_left
                                      · intro w'
                                        go_simp
                                        with_reducible rfl
                                      rotate_left
                                      · simp only [Act.put, List.setIfInBounds_toArray, List.set_cons_zero, List.set_cons_succ, i64_w, i32_w]
                                        rfl
                                      refine take_ (i := 7) (N := some 78) (v := ?_) (a' := ?_) #[true, true, true, true, true, true, true, true, true, false, true, false, false, true, false, false, true, false, false] rfl rfl (take_ofW HT_.out HW_.out (by kernel_rfl)) (fun _ _ _ h => h) (Or.inl ⟨by rfl, ?_⟩) hHeld ?_ ?_
                                      rotate_left
                                      · rintro w' ⟨s0, s1, s2, s3, s4, s5⟩
                                        go_simp
                                        with_reducible rfl
                                      rotate_left
                                      · simp only [Act.put, List.setIfInBounds_toArray, List.set_cons_zero, List.set_cons_succ, i64_w, i32_w]
                                        rfl
                                      refine take_ (i := 9) (N := some 80) (v := ?_) (a' := ?_) #[true, true, true, true, true, true, true, true, true, true, true, false, false, true, false, false, true, false, false] rfl rfl (take_ofW HT_.out HW_.out (by kernel_rfl)) (fun _ _ _ h => h) (Or.inl ⟨by rfl, ?_⟩) hHeld ?_ ?_
                                      rotate_left
                                      · rintro w' ⟨s0, s1, s2, s3, s4, s5⟩
                                        go_simp
                                        with_reducible rfl
                                      rotate_left
                                      · simp only [Act.put, List.setIfInBounds_toArray, List.set_cons_zero, List.set_cons_succ, i64_w, i32_w]
                                        rfl
                                      refine pure_ (i := 11) (N := some 82) (v := ?_) (a' := ?_) #[true, true, true, true, true, true, true, true, true, true, true, true, false, true, false, false, true, false, false] rfl rfl (any_of HT_.out (by kernel_rfl)) (fun _ _ _ h => h) (Or.inl ⟨by rfl, ?_⟩) ?_ ?_
                                      rotate_left
                                      · intro w'
                                        go_simp
                                        with_reducible rfl
                                      rotate_left
                                      · simp only [Act.put, List.setIfInBounds_toArray, List.set_cons_zero, List.set_cons_succ, i64_w, i32_w]
                                        rfl
                                      refine take_ (i := 12) (N := some 83) (v := ?_) (a' := ?_) #[true, true, true, true, true, true, true, true, true, true, true, true, true, true, false, false, true, false, false] rfl rfl (take_ofW HT_.out HW_.out (by kernel_rfl)) (fun _ _ _ h => h) (Or.inl ⟨by rfl, ?_⟩) hHeld ?_ ?_
                                      rotate_left
                                      · rintro w' ⟨s0, s1, s2, s3, s4, s5⟩
                                        go_simp
                                        with_reducible rfl
                                      rotate_left
                                      · simp only [Act.put, List.setIfInBounds_toArray, List.set_cons_zero, List.set_cons_succ, i64_w, i32_w]
                                        rfl
                                      refine pure_ (i := 14) (N := some 85) (v := ?_) (a' := ?_) #[true, true, true, true, true, true, true, true, true, true, true, true, true, true, true, false, true, false, false] rfl rfl (any_of HT_.out (by kernel_rfl)) (fun _ _ _ h => h) (Or.inl ⟨by rfl, ?_⟩) ?_ ?_
                                      rotate_left
                                      · intro w'
                                        go_simp
                                        with_reducible rfl
                                      rotate_left
                                      · simp only [Act.put, List.setIfInBounds_toArray, List.set_cons_zero, List.set_cons_succ, i64_w, i32_w]
                                        rfl
                                      refine take_ (i := 15) (N := some 86) (v := ?_) (a' := ?_) #[true, true, true, true, true, true, true, true, true, true, true, true, true, true, true, true, true, false, false] rfl rfl (take_ofW HT_.out HW_.out (by kernel_rfl)) (fun _ _ _ h => h) (Or.inl ⟨by rfl, ?_⟩) hHeld ?_ ?_
                                      rotate_left
                                      · rintro w' ⟨s0, s1, s2, s3, s4, s5⟩
                                        go_simp
                                        with_reducible rfl
                                      rotate_left
                                      · simp only [Act.put, List.setIfInBounds_toArray, List.set_cons_zero, List.set_cons_succ, i64_w, i32_w]
                                        rfl
                                      refine pure_ (i := 17) (N := some 88) (v := ?_) (a' := ?_) #[true, true, true, true, true, true, true, true, true, true, true, true, true, true, true, true, true, true, false] rfl rfl (any_of HT_.out (by kernel_rfl)) (fun _ _ _ h => h) (Or.inl ⟨by rfl, ?_⟩) ?_ ?_
                                      rotate_left
                                      · intro w'
                                        go_simp
                                        with_reducible rfl
                                      rotate_left
                                      · simp only [Act.put, List.setIfInBounds_toArray, List.set_cons_zero, List.set_cons_succ, i64_w, i32_w]
                                        rfl
                                      refine pure_ (i := 18) (N := some 89) (v := ?_) (a' := ?_) #[true, true, true, true, true, true, true, true, true, true, true, true, true, true, true, true, true, true, true] rfl rfl (any_of HT_.out (by kernel_rfl)) (fun _ _ _ h => h) (Or.inl ⟨by rfl, ?_⟩) ?_ ?_
                                      rotate_left
                                      · intro w'
                                        go_simp
                                        with_reducible rfl
                                      rotate_left
                                      · simp only [Act.put, List.setIfInBounds_toArray, List.set_cons_zero, List.set_cons_succ, i64_w, i32_w]
                                        rfl
                                      refine done_ (done_of HT_.out (by kernel_rfl)) ?_
                                      try go_wp2
                                      go_ret
                                      exact ⟨q6_14, q6_0⟩
                                  · rw [if_neg c65] at H
                                    exact absurd H (by simp)
                                · rw [if_neg c64] at H
                                  exact absurd H (by simp)
                              · rw [if_neg c63] at H
                                exact absurd H (by simp)
                            · rw [if_neg c62] at H
                              exact absurd H (by simp)
                          · rw [if_neg c61] at H
                            exact absurd H (by simp)
                        · rw [if_neg c60] at H
                          exact absurd H (by simp)
                    · rw [if_neg c48] at H
                      have c48b0 : decide (x11_3 < 8) = false := decide_eq_false c48
                      clear c48
                      have H' := Aside0.mk H
                      clear H
                      go_wp2
                      go_roundg k3
                      case measure => have := HJ5.out; have := HK2.out; have := HK3.out; omega
                      case rel => exact ⟨(wrap64 (x10_2 + 1)), q6_18, H', ⟨by have := HJ5.out; have := HK2.out; have := HK3.out; omega⟩, ⟨by (with_reducible repeat (first | apply Kd.Q_alloc | apply Kd.Q_drewN | apply Kd.Q_drew)); exact HO_482000.out⟩, ⟨by (with_reducible repeat (first | apply Kd.Q_alloc | apply Kd.Q_drewN | apply Kd.Q_drew)); exact HO_487000.out⟩, ⟨by (with_reducible repeat (first | apply Kd.Q_alloc | apply Kd.Q_drewN | apply Kd.Q_drew)); exact HO_492000.out⟩, ⟨by (with_reducible repeat (first | refine blk_drewN ?_ _ | refine blk_drew ?_ | refine blk_alloc ?_ _)); exact BK481.out⟩, ⟨by (with_reducible repeat (first | refine blk_drewN ?_ _ | refine blk_drew ?_ | refine blk_alloc ?_ _)); exact BK486.out⟩, ⟨by (with_reducible repeat (first | refine blk_drewN ?_ _ | refine blk_drew ?_ | refine blk_alloc ?_ _)); exact BK491.out⟩, ⟨q6_0⟩⟩
              · rw [if_neg c47] at H
                have c47b0 : decide (x10_2 < 3) = false := decide_eq_false c47
                clear c47
                replace H := Option.bind_eq_some_iff.mp H
                obtain ⟨t494, A690, H⟩ := H
                replace H : (if t494 = true then ((impl_RoughAll.f k2 t487).bind fun t495 => ((impl_RoughAll.f k2 t476).bind fun t496 => (some (t495 == (wrap64 (t496 + t480)))))) else (some false)) = some r := H
                have A69 := Aside0.mk A690
                clear A690
                by_cases c70 : t494 = true
                · subst c70
                  have H1 : ((impl_RoughAll.f k2 t487).bind fun t495 => ((impl_RoughAll.f k2 t476).bind fun t496 => (some (t495 == (wrap64 (t496 + t480)))))) = some r := by rw [if_pos rfl] at H; exact H
                  clear H
                  have H := H1
                  clear H1
                  replace H := Option.bind_eq_some_iff.mp H
                  obtain ⟨t495, A710, H⟩ := H
                  replace H : ((impl_RoughAll.f k2 t476).bind fun t496 => (some (t495 == (wrap64 (t496 + t480))))) = some r := H
                  have A71 := Aside0.mk A710
                  clear A710
                  replace H := Option.bind_eq_some_iff.mp H
                  obtain ⟨t496, A720, H⟩ := H
                  replace H : (some (t495 == (wrap64 (t496 + t480)))) = some r := H
                  have A72 := Aside0.mk A720
                  clear A720
                  obtain rfl := Option.some.inj H
                  try go_wp2
                  have n0_ := Aside0.mk (Kd.Q_drew HO_482000.out)
                  have n1_ := Aside0.mk (Kd.Q_drew HO_487000.out)
                  have n2_ := Aside0.mk (Kd.Q_drew HO_492000.out)
                  have n3_ := Aside0.mk (blk_drew BK481.out)
                  have n4_ := Aside0.mk (blk_drew BK486.out)
                  have n5_ := Aside0.mk (blk_drew BK491.out)
                  have n6_ := Aside0.mk (below_drew1 HB.out)
                  clear HO_482000
                  clear HO_487000
                  clear HO_492000
                  clear BK481
                  clear BK486
                  clear BK491
                  clear HB
                  have HO_482000 := n0_
                  have HO_487000 := n1_
                  have HO_492000 := n2_
                  have BK481 := n3_
                  have BK486 := n4_
                  have BK491 := n5_
                  have HB := n6_
                  clear n0_ n1_ n2_ n3_ n4_ n5_ n6_
                  refine start_ (n := 12) (S := fun w' => w'.cell? ⟨gb491, 0, none⟩ = some (.slice Ao19 t487.length co19) ∧ w'.cell? ⟨gb481, 0, none⟩ = some (.slice Ao9 t476.length co9)) (ds := []) #[false, false, false, false, false, false, false, false, false, false, false, false] (by kernel_rfl) rfl rfl ⟨(blk_cell BK491.out 0).trans rfl, (blk_cell BK481.out 0).trans rfl⟩ (fun hHeld => ?_); refine with_tabW laws_FnRoughAdd.tab19 laws_FnRoughAdd.bits19 (fun HT_ HW_ => ?_)
                  generalize wr.drew = w73 at HO_482000 HO_487000 HO_492000 BK481 BK486 BK491 HB hHeld ⊢
                  refine take_ (i := 0) (N := some 90) (v := ?_) (a' := ?_) #[true, false, false, false, false, false, false, false, false, false, false, false] rfl rfl (take_ofW HT_.out HW_.out (by kernel_rfl)) (fun _ _ _ h => h) (Or.inl ⟨by rfl, ?_⟩) hHeld ?_ ?_
                  rotate_left
                  · rintro w' ⟨s0, s1⟩
                    go_simp
                    with_reducible rfl
                  rotate_left
                  · simp only [Act.put, List.setIfInBounds_toArray, List.set_cons_zero, List.set_cons_succ, i64_w, i32_w]
                    rfl
                  refine one_ (i := 1) (N := some 91) #[true, true, false, false, false, false, false, false, false, false, false, false] rfl rfl (one_of HT_.out (by kernel_rfl)) (by decide) (fun K hK => ?_)
                  refine goes_ Try.func17 (by kernel_rfl) rfl #[.agg #[.slice Ao19 t487.length co19]] (by rfl) rfl rfl q6_2 ?_
                  with_reducible refine (impl_RoughOk.calls k2 _ _ t487 true _ ?side1 ?side2 A69.out).mono ?_
                  (case side1 => exact q6_15)
                  (case side2 => exact (Kd.Q_reads' HO_492000.out).2.1)
                  rintro e w74 ⟨rfl, hb⟩
                  refine ⟨_, rfl, ?_⟩
                  have n0_ := Aside0.mk (Kd.Q_below q6_6 hb)
                  have n1_ := Aside0.mk (Kd.Q_below q6_7 hb)
                  have n2_ := Aside0.mk (Kd.Q_below q6_8 hb)
                  have n3_ := Aside0.mk (blk_below (g := gb481) (o := .cells #[.slice Ao9 t476.length co9] 25 (0, 0)) q6_1 hb)
                  have n4_ := Aside0.mk (blk_below (g := gb486) (o := .cells #[.slice Ao13 t482.length co13] 25 (0, 0)) q6_4 hb)
                  have n5_ := Aside0.mk (blk_below (g := gb491) (o := .cells #[.slice Ao19 t487.length co19] 25 (0, 0)) q6_5 hb)
                  have n6_ := Aside0.mk (below_step q6_0 hb)
                  clear HO_482000
                  clear HO_487000
                  clear HO_492000
                  clear BK481
                  clear BK486
                  clear BK491
                  clear HB
                  have HO_482000 := n0_
                  have HO_487000 := n1_
                  have HO_492000 := n2_
                  have BK481 := n3_
                  have BK486 := n4_
                  have BK491 := n5_
                  have HB := n6_
                  clear n0_ n1_ n2_ n3_ n4_ n5_ n6_
                  (try clear hb)
                  (try clear hb2)
                  (try clear hk)
                  (try clear hi)
                  refine hK.out _ _ ⟨(blk_cell BK491.out 0).trans rfl, (blk_cell BK481.out 0).trans rfl⟩ (fun hHeld => ?_)
                  clear hK K
                  refine norm_ (a' := ?_) ?_ ?_
                  rotate_left
                  · show Act.put _ (some 91) _ = _
                    simp only [Act.put, List.setIfInBounds_toArray, List.set_cons_zero, List.set_cons_succ, i64_w, i32_w]
                    rfl
                  refine pure_ (i := 2) (N := some 92) (v := ?_) (a' := ?_) #[true, true, true, false, false, false, false, false, false, false, false, false] rfl rfl (any_of HT_.out (by kernel_rfl)) (fun _ _ _ h => h) (Or.inl ⟨by rfl, ?_⟩) ?_ ?_
                  rotate_left
                  · intro w'
                    go_simp
                    with_reducible rfl
                  rotate_left
                  · simp only [Act.put, List.setIfInBounds_toArray, List.set_cons_zero, List.set_cons_succ, i64_w, i32_w]
                    rfl
                  refine pure_ (i := 7) (N := some 97) (v := ?_) (a' := ?_) #[true, true, true, false, false, false, false, true, false, false, false, false] rfl rfl (any_of HT_.out (by kernel_rfl)) (fun _ _ _ h => h) (Or.inl ⟨by rfl, ?_⟩) ?_ ?_
                  rotate_left
                  · intro w'
                    go_simp
                    with_reducible rfl
                  rotate_left
                  · simp only [Act.put, List.setIfInBounds_toArray, List.set_cons_zero, List.set_cons_succ, i64_w, i32_w]
                    rfl
                  refine take_ (i := 3) (N := some 93) (v := ?_) (a' := ?_) #[true, true, true, true, false, false, false, true, false, false, false, false] rfl rfl (take_ofW HT_.out HW_.out (by kernel_rfl)) (fun _ _ _ h => h) (Or.inl ⟨by rfl, ?_⟩) hHeld ?_ ?_
                  rotate_left
                  · rintro w' ⟨s0, s1⟩
                    go_simp
                    with_reducible rfl
                  rotate_left
                  · simp only [Act.put, List.setIfInBounds_toArray, List.set_cons_zero, List.set_cons_succ, i64_w, i32_w]
                    rfl
                  refine take_ (i := 5) (N := some 95) (v := ?_) (a' := ?_) #[true, true, true, true, false, true, false, true, false, false, false, false] rfl rfl (take_ofW HT_.out HW_.out (by kernel_rfl)) (fun _ _ _ h => h) (Or.inl ⟨by rfl, ?_⟩) hHeld ?_ ?_
                  rotate_left
                  · rintro w' ⟨s0, s1⟩
                    go_simp
                    with_reducible rfl
                  rotate_left
                  · simp only [Act.put, List.setIfInBounds_toArray, List.set_cons_zero, List.set_cons_succ, i64_w, i32_w]
                    rfl
                  refine one_ (i := 4) (N := some 94) #[true, true, true, true, true, true, false, true, false, false, false, false] rfl rfl (one_of HT_.out (by kernel_rfl)) (by decide) (fun K hK => ?_)
                  refine goes_ Try.func18 (by kernel_rfl) rfl #[.agg #[.slice Ao19 t487.length co19]] (by rfl) rfl rfl q6_2 ?_
                  with_reducible refine (impl_RoughAll.calls k2 _ _ t487 t495 _ ?side1 ?side2 A71.out).mono ?_
                  (case side1 => exact q6_15)
                  (case side2 => exact (Kd.Q_reads' HO_492000.out).2.1)
                  rintro e w75 ⟨rfl, hb⟩
                  refine ⟨_, rfl, ?_⟩
                  have n0_ := Aside0.mk (Kd.Q_below q6_6 hb)
                  have n1_ := Aside0.mk (Kd.Q_below q6_7 hb)
                  have n2_ := Aside0.mk (Kd.Q_below q6_8 hb)
                  have n3_ := Aside0.mk (blk_below (g := gb481) (o := .cells #[.slice Ao9 t476.length co9] 25 (0, 0)) q6_1 hb)
                  have n4_ := Aside0.mk (blk_below (g := gb486) (o := .cells #[.slice Ao13 t482.length co13] 25 (0, 0)) q6_4 hb)
                  have n5_ := Aside0.mk (blk_below (g := gb491) (o := .cells #[.slice Ao19 t487.length co19] 25 (0, 0)) q6_5 hb)
                  have n6_ := Aside0.mk (below_step q6_0 hb)
                  clear HO_482000
                  clear HO_487000
                  clear HO_492000
                  clear BK481
                  clear BK486
                  clear BK491
                  clear HB
                  have HO_482000 := n0_
                  have HO_487000 := n1_
                  have HO_492000 := n2_
                  have BK481 := n3_
                  have BK486 := n4_
                  have BK491 := n5_
                  have HB := n6_
                  clear n0_ n1_ n2_ n3_ n4_ n5_ n6_
                  (try clear hb)
                  (try clear hb2)
                  (try clear hk)
                  (try clear hi)
                  refine hK.out _ _ ⟨(blk_cell BK491.out 0).trans rfl, (blk_cell BK481.out 0).trans rfl⟩ (fun hHeld => ?_)
                  clear hK K
                  refine norm_ (a' := ?_) ?_ ?_
                  rotate_left
                  · show Act.put _ (some 94) _ = _
                    simp only [Act.put, List.setIfInBounds_toArray, List.set_cons_zero, List.set_cons_succ, i64_w, i32_w]
                    rfl
                  refine one_ (i := 6) (N := some 96) #[true, true, true, true, true, true, true, true, false, false, false, false] rfl rfl (one_of HT_.out (by kernel_rfl)) (by decide) (fun K hK => ?_)
                  refine goes_ Try.func18 (by kernel_rfl) rfl #[.agg #[.slice Ao9 t476.length co9]] (by rfl) rfl rfl q6_2 ?_
                  with_reducible refine (impl_RoughAll.calls k2 _ _ t476 t496 _ ?side1 ?side2 A72.out).mono ?_
                  (case side1 => repeat (first | exact (Kd.Q_reads' HO_482000.out).2.2 | (with_reducible refine Kd.C_alloc ?_ _) | (with_reducible refine Kd.C_drewN ?_ _) | (with_reducible refine Kd.C_drew ?_)))
                  (case side2 => exact (Kd.Q_reads' HO_482000.out).2.1)
                  rintro e w76 ⟨rfl, hb⟩
                  refine ⟨_, rfl, ?_⟩
                  have n0_ := Aside0.mk (Kd.Q_below q6_6 hb)
                  have n1_ := Aside0.mk (Kd.Q_below q6_7 hb)
                  have n2_ := Aside0.mk (Kd.Q_below q6_8 hb)
                  have n3_ := Aside0.mk (blk_below (g := gb481) (o := .cells #[.slice Ao9 t476.length co9] 25 (0, 0)) q6_1 hb)
                  have n4_ := Aside0.mk (blk_below (g := gb486) (o := .cells #[.slice Ao13 t482.length co13] 25 (0, 0)) q6_4 hb)
                  have n5_ := Aside0.mk (blk_below (g := gb491) (o := .cells #[.slice Ao19 t487.length co19] 25 (0, 0)) q6_5 hb)
                  have n6_ := Aside0.mk (below_step q6_0 hb)
                  clear HO_482000
                  clear HO_487000
                  clear HO_492000
                  clear BK481
                  clear BK486
                  clear BK491
                  clear HB
                  have HO_482000 := n0_
                  have HO_487000 := n1_
                  have HO_492000 := n2_
                  have BK481 := n3_
                  have BK486 := n4_
                  have BK491 := n5_
                  have HB := n6_
                  clear n0_ n1_ n2_ n3_ n4_ n5_ n6_
                  (try clear hb)
                  (try clear hb2)
                  (try clear hk)
                  (try clear hi)
                  refine hK.out _ _ ⟨(blk_cell BK491.out 0).trans rfl, (blk_cell BK481.out 0).trans rfl⟩ (fun hHeld => ?_)
                  clear hK K
                  refine norm_ (a' := ?_) ?_ ?_
                  rotate_left
                  · show Act.put _ (some 96) _ = _
                    simp only [Act.put, List.setIfInBounds_toArray, List.set_cons_zero, List.set_cons_succ, i64_w, i32_w]
                    rfl
                  refine pure_ (i := 8) (N := some 98) (v := ?_) (a' := ?_) #[true, true, true, true, true, true, true, true, true, false, false, false] rfl rfl (any_of HT_.out (by kernel_rfl)) (fun _ _ _ h => h) (Or.inl ⟨by rfl, ?_⟩) ?_ ?_
                  rotate_left
                  · intro w'
                    go_simp
                    with_reducible rfl
                  rotate_left
                  · simp only [Act.put, List.setIfInBounds_toArray, List.set_cons_zero, List.set_cons_succ, i64_w, i32_w]
                    rfl
                  refine pure_ (i := 9) (N := some 99) (v := ?_) (a' := ?_) #[true, true, true, true, true, true, true, true, true, true, false, false] rfl rfl (any_of HT_.out (by kernel_rfl)) (fun _ _ _ h => h) (Or.inl ⟨by rfl, ?_⟩) ?_ ?_
                  rotate_left
                  · intro w'
                    go_simp
                    with_reducible rfl
                  rotate_left
                  · simp only [Act.put, List.setIfInBounds_toArray, List.set_cons_zero, List.set_cons_succ, i64_w, i32_w]
                    rfl
                  refine pure_ (i := 10) (N := some 100) (v := ?_) (a' := ?_) #[true, true, true, true, true, true, true, true, true, true, true, false] rfl rfl (any_of HT_.out (by kernel_rfl)) (fun _ _ _ h => h) (Or.inl ⟨by rfl, ?_⟩) ?_ ?_
                  rotate_left
                  · intro w'
                    go_simp
                    with_reducible rfl
                  rotate_left
                  · simp only [Act.put, List.setIfInBounds_toArray, List.set_cons_zero, List.set_cons_succ, i64_w, i32_w]
                    rfl
                  refine pure_ (i := 11) (N := some 2) (v := ?_) (a' := ?_) #[true, true, true, true, true, true, true, true, true, true, true, true] rfl rfl (any_of HT_.out (by kernel_rfl)) (fun _ _ _ h => h) (Or.inl ⟨by rfl, ?_⟩) ?_ ?_
                  rotate_left
                  · intro w'
                    go_simp
                    with_reducible rfl
                  rotate_left
                  · simp only [Act.put, List.setIfInBounds_toArray, List.set_cons_zero, List.set_cons_succ, i64_w, i32_w]
                    rfl
                  refine done_ (done_of HT_.out (by kernel_rfl)) ?_
                  try go_wp2
                  go_ret
                  exact ⟨q6_14, q6_0⟩
                · replace c70 := Bool.eq_false_iff.mpr c70
                  subst c70
                  have H1 : (some false) = some r := by rw [if_neg (show ¬ (false = true) by decide)] at H; exact H
                  clear H
                  have H := H1
                  clear H1
                  obtain rfl := Option.some.inj H
                  try go_wp2
                  have n0_ := Aside0.mk (Kd.Q_drew HO_482000.out)
                  have n1_ := Aside0.mk (Kd.Q_drew HO_487000.out)
                  have n2_ := Aside0.mk (Kd.Q_drew HO_492000.out)
                  have n3_ := Aside0.mk (blk_drew BK481.out)
                  have n4_ := Aside0.mk (blk_drew BK486.out)
                  have n5_ := Aside0.mk (blk_drew BK491.out)
                  have n6_ := Aside0.mk (below_drew1 HB.out)
                  clear HO_482000
                  clear HO_487000
                  clear HO_492000
                  clear BK481
                  clear BK486
                  clear BK491
                  clear HB
                  have HO_482000 := n0_
                  have HO_487000 := n1_
                  have HO_492000 := n2_
                  have BK481 := n3_
                  have BK486 := n4_
                  have BK491 := n5_
                  have HB := n6_
                  clear n0_ n1_ n2_ n3_ n4_ n5_ n6_
                  refine start_ (n := 12) (S := fun w' => w'.cell? ⟨gb491, 0, none⟩ = some (.slice Ao19 t487.length co19)) (ds := []) #[false, false, false, false, false, false, false, false, false, false, false, false] (by kernel_rfl) rfl rfl ((blk_cell BK491.out 0).trans rfl) (fun hHeld => ?_); refine with_tabW laws_FnRoughAdd.tab19 laws_FnRoughAdd.bits19 (fun HT_ HW_ => ?_)
                  generalize wr.drew = w77 at HO_482000 HO_487000 HO_492000 BK481 BK486 BK491 HB hHeld ⊢
                  refine take_ (i := 0) (N := some 90) (v := ?_) (a' := ?_) #[true, false, false, false, false, false, false, false, false, false, false, false] rfl rfl (take_ofW HT_.out HW_.out (by kernel_rfl)) (fun _ _ _ h => h) (Or.inl ⟨by rfl, ?_⟩) hHeld ?_ ?_
                  rotate_left
                  · intro w' s0
                    go_simp
                    with_reducible rfl
                  rotate_left
                  · simp only [Act.put, List.setIfInBounds_toArray, List.set_cons_zero, List.set_cons_succ, i64_w, i32_w]
                    rfl
                  refine one_ (i := 1) (N := some 91) #[true, true, false, false, false, false, false, false, false, false, false, false] rfl rfl (one_of HT_.out (by kernel_rfl)) (by decide) (fun K hK => ?_)
                  refine goes_ Try.func17 (by kernel_rfl) rfl #[.agg #[.slice Ao19 t487.length co19]] (by rfl) rfl rfl q6_2 ?_
                  with_reducible refine (impl_RoughOk.calls k2 _ _ t487 false _ ?side1 ?side2 A69.out).mono ?_
                  (case side1 => exact q6_15)
                  (case side2 => exact (Kd.Q_reads' HO_492000.out).2.1)
                  rintro e w78 ⟨rfl, hb⟩
                  refine ⟨_, rfl, ?_⟩
                  have n0_ := Aside0.mk (Kd.Q_below q6_6 hb)
                  have n1_ := Aside0.mk (Kd.Q_below q6_7 hb)
                  have n2_ := Aside0.mk (Kd.Q_below q6_8 hb)
                  have n3_ := Aside0.mk (blk_below (g := gb481) (o := .cells #[.slice Ao9 t476.length co9] 25 (0, 0)) q6_1 hb)
                  have n4_ := Aside0.mk (blk_below (g := gb486) (o := .cells #[.slice Ao13 t482.length co13] 25 (0, 0)) q6_4 hb)
                  have n5_ := Aside0.mk (blk_below (g := gb491) (o := .cells #[.slice Ao19 t487.length co19] 25 (0, 0)) q6_5 hb)
                  have n6_ := Aside0.mk (below_step q6_0 hb)
                  clear HO_482000
                  clear HO_487000
                  clear HO_492000
                  clear BK481
                  clear BK486
                  clear BK491
                  clear HB
                  have HO_482000 := n0_
                  have HO_487000 := n1_
                  have HO_492000 := n2_
                  have BK481 := n3_
                  have BK486 := n4_
                  have BK491 := n5_
                  have HB := n6_
                  clear n0_ n1_ n2_ n3_ n4_ n5_ n6_
                  (try clear hb)
                  (try clear hb2)
                  (try clear hk)
                  (try clear hi)
                  refine hK.out _ _ ((blk_cell BK491.out 0).trans rfl) (fun hHeld => ?_)
                  clear hK K
                  refine norm_ (a' := ?_) ?_ ?_
                  rotate_left
                  · show Act.put _ (some 91) _ = _
                    simp only [Act.put, List.setIfInBounds_toArray, List.set_cons_zero, List.set_cons_succ, i64_w, i32_w]
                    rfl
                  refine pure_ (i := 2) (N := some 92) (v := ?_) (a' := ?_) #[true, true, true, false, false, false, false, false, false, false, false, false] rfl rfl (any_of HT_.out (by kernel_rfl)) (fun _ _ _ h => h) (Or.inl ⟨by rfl, ?_⟩) ?_ ?_
                  rotate_left
                  · intro w'
                    go_simp
                    with_reducible rfl
                  rotate_left
                  · simp only [Act.put, List.setIfInBounds_toArray, List.set_cons_zero, List.set_cons_succ, i64_w, i32_w]
                    rfl
                  refine pure_ (i := 3) (N := some 93) (v := undef) (a' := ?_) #[true, true, true, true, false, false, false, false, false, false, false, false] rfl rfl (any_of HT_.out (by kernel_rfl)) (fun _ _ _ h => h) (Or.inr ⟨by rfl, rfl⟩) ?_ ?_
                  rotate_left
                  · simp only [Act.put, List.setIfInBounds_toArray, List.set_cons_zero, List.set_cons_succ, i64_w, i32_w]
                    rfl
                  refine pure_ (i := 4) (N := some 94) (v := undef) (a' := ?_) #[true, true, true, true, true, false, false, false, false, false, false, false] rfl rfl (any_of HT_.out (by kernel_rfl)) (fun _ _ _ h => h) (Or.inr ⟨by rfl, rfl⟩) ?_ ?_
                  rotate_left
                  · simp only [Act.put, List.setIfInBounds_toArray, List.set_cons_zero, List.set_cons_succ, i64_w, i32_w]
                    rfl
                  refine pure_ (i := 5) (N := some 95) (v := undef) (a' := ?_) #[true, true, true, true, true, true, false, false, false, false, false, false] rfl rfl (any_of HT_.out (by kernel_rfl)) (fun _ _ _ h => h) (Or.inr ⟨by rfl, rfl⟩) ?_ ?_
                  rotate_left
                  · simp only [Act.put, List.setIfInBounds_toArray, List.set_cons_zero, List.set_cons_succ, i64_w, i32_w]
                    rfl
                  refine pure_ (i := 6) (N := some 96) (v := undef) (a' := ?_) #[true, true, true, true, true, true, true, false, false, false, false, false] rfl rfl (any_of HT_.out (by kernel_rfl)) (fun _ _ _ h => h) (Or.inr ⟨by rfl, rfl⟩) ?_ ?_
                  rotate_left
                  · simp only [Act.put, List.setIfInBounds_toArray, List.set_cons_zero, List.set_cons_succ, i64_w, i32_w]
                    rfl
                  refine pure_ (i := 7) (N := some 97) (v := undef) (a' := ?_) #[true, true, true, true, true, true, true, true, false, false, false, false] rfl rfl (any_of HT_.out (by kernel_rfl)) (fun _ _ _ h => h) (Or.inr ⟨by rfl, rfl⟩) ?_ ?_
                  rotate_left
                  · simp only [Act.put, List.setIfInBounds_toArray, List.set_cons_zero, List.set_cons_succ, i64_w, i32_w]
                    rfl
                  refine pure_ (i := 8) (N := some 98) (v := undef) (a' := ?_) #[true, true, true, true, true, true, true, true, true, false, false, false] rfl rfl (any_of HT_.out (by kernel_rfl)) (fun _ _ _ h => h) (Or.inr ⟨by rfl, rfl⟩) ?_ ?_
                  rotate_left
                  · simp only [Act.put, List.setIfInBounds_toArray, List.set_cons_zero, List.set_cons_succ, i64_w, i32_w]
                    rfl
                  refine pure_ (i := 9) (N := some 99) (v := undef) (a' := ?_) #[true, true, true, true, true, true, true, true, true, true, false, false] rfl rfl (any_of HT_.out (by kernel_rfl)) (fun _ _ _ h => h) (Or.inr ⟨by rfl, rfl⟩) ?_ ?_
                  rotate_left
                  · simp only [Act.put, List.setIfInBounds_toArray, List.set_cons_zero, List.set_cons_succ, i64_w, i32_w]
                    rfl
                  refine pure_ (i := 10) (N := some 100) (v := ?_) (a' := ?_) #[true, true, true, true, true, true, true, true, true, true, true, false] rfl rfl (any_of HT_.out (by kernel_rfl)) (fun _ _ _ h => h) (Or.inl ⟨by rfl, ?_⟩) ?_ ?_
                  rotate_left
                  · intro w'
                    go_simp
                    with_reducible rfl
                  rotate_left
                  · simp only [Act.put, List.setIfInBounds_toArray, List.set_cons_zero, List.set_cons_succ, i64_w, i32_w]
                    rfl
                  refine pure_ (i := 11) (N := some 2) (v := ?_) (a' := ?_) #[true, true, true, true, true, true, true, true, true, true, true, true] rfl rfl (any_of HT_.out (by kernel_rfl)) (fun _ _ _ h => h) (Or.inl ⟨by rfl, ?_⟩) ?_ ?_
                  rotate_left
                  · intro w'
                    go_simp
                    with_reducible rfl
                  rotate_left
                  · simp only [Act.put, List.setIfInBounds_toArray, List.set_cons_zero, List.set_cons_succ, i64_w, i32_w]
                    rfl
                  refine done_ (done_of HT_.out (by kernel_rfl)) ?_
                  try go_wp2
                  go_ret
                  exact ⟨q6_14, q6_0⟩

/-- THE ONE PURE STATEMENT of laws_FnRoughAdd: yours. -/
def laws_FnRoughAdd.Pure : Prop := ∀ (l0 : List Int), l0.length ≤ maxLen → l0.length * 1 ≤ 140737488351232 → (∀ x ∈ l0, (Lit.int .u8 x).wf = true) → ∃ k, laws_FnRoughAdd.f k l0 = some true
theorem laws_FnRoughAdd.walk (P : laws_FnRoughAdd.Pure) (a0 : Option Addr) (len0 cap0 : Nat) (z0 : List Int) (w : World) (w0 : (a0 = none ∧ len0 = 0 ∧ cap0 = 0 ∧ z0 = []) ∨ ∃ x, a0 = some x ∧ len0 ≤ cap0 ∧ cap0 ≤ maxLen ∧ z0.length = cap0 ∧ (∀ i, i < z0.length → w.cell? (x.add i) = some (.int .u8 (z0.getD i 0))) ∧ ∀ n ∈ z0, (Lit.int .u8 n).wf = true) (y0 : len0 * 1 ≤ 140737488351232) :
    Calls Try.prog 6 #[.slice a0 len0 cap0] w fun e w' => e = .returned (.bool true) ∧ Below w.heap.size w w' := by
  obtain ⟨l0, rfl, hr0, hm0, hw0, hc0⟩ := ReadsInt.ofRowC w0
  obtain ⟨k, h⟩ := P l0 hm0 y0 hw0
  refine (laws_FnRoughAdd.calls k _ _ l0 true w (Kd.C_of_reads (d := (0 : Int)) (h1 := fun _ => rfl) hr0) hc0 h).mono ?_
  rintro e w' ⟨rfl, hd⟩
  exact ⟨rfl, hd⟩

end Go.Proofs.Ytojhkhpgahhacaa.PA
