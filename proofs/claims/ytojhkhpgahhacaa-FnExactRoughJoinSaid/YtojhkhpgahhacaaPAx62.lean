-- Made by a program of this session (wip/tools/pr2.sh) out of the translation, by way of the printer: shared by the seat's laws.
import Derived.Test.YtojhkhpgahhacaaPAx0
import Derived.Test.YtojhkhpgahhacaaPAx12
import Derived.Test.YtojhkhpgahhacaaPAx21
import Derived.Test.YtojhkhpgahhacaaPsz
import Derived.Test.YtojhkhpgahhacaaPto
import Derived.Test.YtojhkhpgahhacaaPeq
import Derived.Test.YtojhkhpgahhacaaPmark
import Derived.Test.YtojhkhpgahhacaaPheld
namespace Go.Proofs.Ytojhkhpgahhacaa.PA
open Go.Proofs.Ytojhkhpgahhacaa.H Go.RowKit Go.Proofs.YtojhkhpgahhacaaW.PrintWords Go.Proofs.YtojhkhpgahhacaaW.PrintLast Go.Proofs.YtojhkhpgahhacaaW.PrintMore
attribute [local go_sem] max2_int min2_int max_two min_two max_three min_three max_four min_four   -- for this text's walks alone
set_option linter.unusedVariables false
set_option linter.unusedSimpArgs false

/-! ### laws_FnExactRoughJoin: function 9 -/
mutual
def laws_FnExactRoughJoin.j0 : Nat → Bool → Bool → Bool → List (List Int) → List (List Int) → List (List Int) → List (List Int) → List (List Int) → List (List Int) → Option (Bool)
  | 0, _, _, _, _, _, _, _, _, _ => none
  | k + 1, x7, x11, x53, x224000, x225000, x238000, x242000, x246000, x251000 => if x53 = true then (some false) else ((laws_toRough.f k x224000).bind fun t252 => ((laws_eqRough.f k x242000 t252).bind fun t255 => (if t255 = true then ((laws_toRough.f k x225000).bind fun t256 => ((laws_eqRough.f k x246000 t256).bind fun t259 => (if t259 = true then ((laws_markRough.f k x242000 1).bind fun bt260 => ((laws_markRough.f k x246000 bt260.1).bind fun bt262 => (if bt262.1 < 0 then (laws_FnExactRoughJoin.j1 k x7 true x224000 x225000 x238000 x251000) else ((laws_eqRough.f k x251000 x238000).bind fun t264 => (if t264 = true then (laws_FnExactRoughJoin.j1 k x7 (x11 != x7) x224000 x225000 x238000 x251000) else (laws_FnExactRoughJoin.j1 k x7 true x224000 x225000 x238000 x251000)))))) else (some false)))) else (some false))))
def laws_FnExactRoughJoin.j1 : Nat → Bool → Bool → List (List Int) → List (List Int) → List (List Int) → List (List Int) → Option (Bool)
  | 0, _, _, _, _, _, _ => none
  | k + 1, x7, x82, x224000, x225000, x238000, x251000 => if x82 = true then (some false) else ((laws_markRough.f k x251000 1).bind fun bt265 => ((laws_heldRough.f k bt265.2 1).bind fun t267 => (if t267 < 0 then (some false) else (if t267 = bt265.1 then ((laws_toRough.f k x224000).bind fun t268 => ((laws_toRough.f k x225000).bind fun t271 => ((impl_RoughJoin.f k t268 t271).bind fun bt274 => ((laws_eqRough.f k bt274.1 x238000).bind fun t279 => (if t279 = true then (laws_FnExactRoughJoin.j2 k bt265.1 (bt274.2 != x7) bt265.2) else (laws_FnExactRoughJoin.j2 k bt265.1 true bt265.2)))))) else (some false)))))
def laws_FnExactRoughJoin.j2 : Nat → Int → Bool → List (List Int) → Option (Bool)
  | 0, _, _, _ => none
  | k + 1, x13, x110, x251000 => if x110 = true then (some false) else ((laws_heldRough.f k x251000 1).bind fun t280 => (if t280 < 0 then (some false) else (if t280 = x13 then (some true) else (some false))))
end
def laws_FnExactRoughJoin.f (k : Nat) (l0_0 : List (List Int)) (l1_0 : List (List Int)) : Option (Bool) := (laws_szRough.f k l0_0 1048576).bind fun t225 => (if t225 < 0 then (some true) else ((laws_szRough.f k l1_0 t225).bind fun t226 => (if t226 < 0 then (some true) else ((laws_toRough.f k l0_0).bind fun t227 => ((laws_toRough.f k l1_0).bind fun t230 => ((spec_RoughJoin.f k t227 t230).bind fun bt233 => ((laws_toRough.f k l0_0).bind fun t238 => ((laws_toRough.f k l1_0).bind fun t242 => ((impl_RoughJoin.f k t238 t242).bind fun bt246 => ((laws_eqRough.f k bt246.1 bt233.1).bind fun t251 => (if t251 = true then (laws_FnExactRoughJoin.j0 k bt233.2 bt246.2 (bt246.2 != bt233.2) l0_0 l1_0 bt233.1 t238 t242 bt246.1) else (laws_FnExactRoughJoin.j0 k bt233.2 bt246.2 true l0_0 l1_0 bt233.1 t238 t242 bt246.1))))))))))))
theorem laws_FnExactRoughJoin.mono_l : ∀ k, (∀ y0 y1 y2 y3 y4 y5 y6 y7 y8, LeO (laws_FnExactRoughJoin.j0 k y0 y1 y2 y3 y4 y5 y6 y7 y8) (laws_FnExactRoughJoin.j0 (k + 1) y0 y1 y2 y3 y4 y5 y6 y7 y8)) ∧ (∀ y0 y1 y2 y3 y4 y5, LeO (laws_FnExactRoughJoin.j1 k y0 y1 y2 y3 y4 y5) (laws_FnExactRoughJoin.j1 (k + 1) y0 y1 y2 y3 y4 y5)) ∧ (∀ y0 y1 y2, LeO (laws_FnExactRoughJoin.j2 k y0 y1 y2) (laws_FnExactRoughJoin.j2 (k + 1) y0 y1 y2))
  | 0 => ⟨fun _ _ _ _ _ _ _ _ _ r h => by simp [laws_FnExactRoughJoin.j0] at h, fun _ _ _ _ _ _ r h => by simp [laws_FnExactRoughJoin.j1] at h, fun _ _ _ r h => by simp [laws_FnExactRoughJoin.j2] at h⟩
  | k + 1 => by
    obtain ⟨ih0, ih1, ih2⟩ := laws_FnExactRoughJoin.mono_l k
    refine ⟨?_, ?_, ?_⟩
    · intro y0 y1 y2 y3 y4 y5 y6 y7 y8
      unfold laws_FnExactRoughJoin.j0
      repeat' first
      | (with_reducible exact ih0 _ _ _ _ _ _ _ _ _)
      | (with_reducible exact ih1 _ _ _ _ _ _)
      | (with_reducible exact ih2 _ _ _)
      | (with_reducible exact impl_RoughJoin.mono _ _ _)
      | (with_reducible exact laws_eqRough.mono _ _ _)
      | (with_reducible exact laws_heldRough.mono _ _ _)
      | (with_reducible exact laws_markRough.mono _ _ _)
      | (with_reducible exact laws_szRough.mono _ _ _)
      | (with_reducible exact laws_toRough.mono _ _)
      | (with_reducible exact spec_RoughJoin.mono _ _ _)
      | (with_reducible exact LeO.refl _)
      | (with_reducible exact LeO.none _)
      | (with_reducible refine LeO.ite ?_ ?_)
      | (with_reducible refine LeO.bind ?_ (fun _ => ?_))
      | exact ih0 _ _ _ _ _ _ _ _ _
      | exact ih1 _ _ _ _ _ _
      | exact ih2 _ _ _
      | exact impl_RoughJoin.mono _ _ _
      | exact laws_eqRough.mono _ _ _
      | exact laws_heldRough.mono _ _ _
      | exact laws_markRough.mono _ _ _
      | exact laws_szRough.mono _ _ _
      | exact laws_toRough.mono _ _
      | exact spec_RoughJoin.mono _ _ _
      | exact LeO.none _
      | refine LeO.ite ?_ ?_
      | refine LeO.bind ?_ (fun _ => ?_)
    · intro y0 y1 y2 y3 y4 y5
      unfold laws_FnExactRoughJoin.j1
      repeat' first
      | (with_reducible exact ih0 _ _ _ _ _ _ _ _ _)
      | (with_reducible exact ih1 _ _ _ _ _ _)
      | (with_reducible exact ih2 _ _ _)
      | (with_reducible exact impl_RoughJoin.mono _ _ _)
      | (with_reducible exact laws_eqRough.mono _ _ _)
      | (with_reducible exact laws_heldRough.mono _ _ _)
      | (with_reducible exact laws_markRough.mono _ _ _)
      | (with_reducible exact laws_szRough.mono _ _ _)
      | (with_reducible exact laws_toRough.mono _ _)
      | (with_reducible exact spec_RoughJoin.mono _ _ _)
      | (with_reducible exact LeO.refl _)
      | (with_reducible exact LeO.none _)
      | (with_reducible refine LeO.ite ?_ ?_)
      | (with_reducible refine LeO.bind ?_ (fun _ => ?_))
      | exact ih0 _ _ _ _ _ _ _ _ _
      | exact ih1 _ _ _ _ _ _
      | exact ih2 _ _ _
      | exact impl_RoughJoin.mono _ _ _
      | exact laws_eqRough.mono _ _ _
      | exact laws_heldRough.mono _ _ _
      | exact laws_markRough.mono _ _ _
      | exact laws_szRough.mono _ _ _
      | exact laws_toRough.mono _ _
      | exact spec_RoughJoin.mono _ _ _
      | exact LeO.none _
      | refine LeO.ite ?_ ?_
      | refine LeO.bind ?_ (fun _ => ?_)
    · intro y0 y1 y2
      unfold laws_FnExactRoughJoin.j2
      repeat' first
      | (with_reducible exact ih0 _ _ _ _ _ _ _ _ _)
      | (with_reducible exact ih1 _ _ _ _ _ _)
      | (with_reducible exact ih2 _ _ _)
      | (with_reducible exact impl_RoughJoin.mono _ _ _)
      | (with_reducible exact laws_eqRough.mono _ _ _)
      | (with_reducible exact laws_heldRough.mono _ _ _)
      | (with_reducible exact laws_markRough.mono _ _ _)
      | (with_reducible exact laws_szRough.mono _ _ _)
      | (with_reducible exact laws_toRough.mono _ _)
      | (with_reducible exact spec_RoughJoin.mono _ _ _)
      | (with_reducible exact LeO.refl _)
      | (with_reducible exact LeO.none _)
      | (with_reducible refine LeO.ite ?_ ?_)
      | (with_reducible refine LeO.bind ?_ (fun _ => ?_))
      | exact ih0 _ _ _ _ _ _ _ _ _
      | exact ih1 _ _ _ _ _ _
      | exact ih2 _ _ _
      | exact impl_RoughJoin.mono _ _ _
      | exact laws_eqRough.mono _ _ _
      | exact laws_heldRough.mono _ _ _
      | exact laws_markRough.mono _ _ _
      | exact laws_szRough.mono _ _ _
      | exact laws_toRough.mono _ _
      | exact spec_RoughJoin.mono _ _ _
      | exact LeO.none _
      | refine LeO.ite ?_ ?_
      | refine LeO.bind ?_ (fun _ => ?_)
theorem laws_FnExactRoughJoin.mono : ∀ a0 a1 k, LeO (laws_FnExactRoughJoin.f k a0 a1) (laws_FnExactRoughJoin.f (k + 1) a0 a1) := by
  intro a0 a1 k
  obtain ⟨ih0, ih1, ih2⟩ := laws_FnExactRoughJoin.mono_l k
  unfold laws_FnExactRoughJoin.f
  repeat' first
      | (with_reducible exact ih0 _ _ _ _ _ _ _ _ _)
      | (with_reducible exact ih1 _ _ _ _ _ _)
      | (with_reducible exact ih2 _ _ _)
      | (with_reducible exact impl_RoughJoin.mono _ _ _)
      | (with_reducible exact laws_eqRough.mono _ _ _)
      | (with_reducible exact laws_heldRough.mono _ _ _)
      | (with_reducible exact laws_markRough.mono _ _ _)
      | (with_reducible exact laws_szRough.mono _ _ _)
      | (with_reducible exact laws_toRough.mono _ _)
      | (with_reducible exact spec_RoughJoin.mono _ _ _)
      | (with_reducible exact LeO.refl _)
      | (with_reducible exact LeO.none _)
      | (with_reducible refine LeO.ite ?_ ?_)
      | (with_reducible refine LeO.bind ?_ (fun _ => ?_))
      | exact ih0 _ _ _ _ _ _ _ _ _
      | exact ih1 _ _ _ _ _ _
      | exact ih2 _ _ _
      | exact impl_RoughJoin.mono _ _ _
      | exact laws_eqRough.mono _ _ _
      | exact laws_heldRough.mono _ _ _
      | exact laws_markRough.mono _ _ _
      | exact laws_szRough.mono _ _ _
      | exact laws_toRough.mono _ _
      | exact spec_RoughJoin.mono _ _ _
      | exact LeO.none _
      | refine LeO.ite ?_ ?_
      | refine LeO.bind ?_ (fun _ => ?_)
def laws_FnExactRoughJoin.T8 : Bool × List (List Nat × List Nat) := (true, [([], []), ([0], [0]), ([], []), ([2, 1], [2]), ([1, 3, 3], [1, 3]), ([4], [4]), ([5], [5]), ([5], [5]), ([], []), ([8, 6, 4, 0, 1, 2, 3, 4, 5, 6, 8], [6, 8]), ([7, 9, 0, 1, 2, 3, 4, 5, 6, 7, 8, 9], [7])])
def laws_FnExactRoughJoin.B8 : List Nat := [0, 1, 0, 7, 15, 31, 63, 63, 0, 383, 1023]
theorem laws_FnExactRoughJoin.tab8 : rtab .any (opsOf Try.f9 8) = laws_FnExactRoughJoin.T8 := by kernel_rfl
theorem laws_FnExactRoughJoin.bits8 : waitsOk laws_FnExactRoughJoin.T8.2 laws_FnExactRoughJoin.B8 = true := by kernel_rfl
def laws_FnExactRoughJoin.T31 : Bool × List (List Nat × List Nat) := (true, [([], []), ([0], [0]), ([], []), ([2, 1], [2]), ([1, 3, 3], [1, 3]), ([4], [4]), ([5], [5]), ([5], [5]), ([], []), ([8, 6, 4, 0, 1, 2, 3, 4, 5, 6, 8], [6, 8]), ([7, 9, 0, 1, 2, 3, 4, 5, 6, 7, 8, 9], [7])])
def laws_FnExactRoughJoin.B31 : List Nat := [0, 1, 0, 7, 15, 31, 63, 63, 0, 383, 1023]
theorem laws_FnExactRoughJoin.tab31 : rtab .any (opsOf Try.f9 31) = laws_FnExactRoughJoin.T31 := by kernel_rfl
theorem laws_FnExactRoughJoin.bits31 : waitsOk laws_FnExactRoughJoin.T31.2 laws_FnExactRoughJoin.B31 = true := by kernel_rfl
theorem z9k {p : Prop} (h : p) : Aside0 p := ⟨h⟩
theorem z9a {α : Type _} {l : List α} {i : Nat} {a : α} : l.toArray.setIfInBounds i a = (l.set i a).toArray := List.setIfInBounds_toArray ..
theorem z9b {α : Type _} {x a : α} {xs : List α} : (x :: xs).set 0 a = a :: xs := List.set_cons_zero
theorem z9c {α : Type _} {x a : α} {xs : List α} {i : Nat} : (x :: xs).set (i + 1) a = x :: xs.set i a := List.set_cons_succ
theorem q9_0 {p : Prop} (h : p := by repeat (first | (with_reducible first | exact HB.out | apply below_alloc | apply pw_below_drewN | apply below_drew1 | refine below_set ?_ GE223.out | refine below_set ?_ GE224.out | refine below_set ?_ GE237.out | refine below_set ?_ GE241.out | refine below_set ?_ GE245.out | refine below_set ?_ GE250.out) | exact HB.out)) : p := h
theorem q9_1 {p : Prop} (h : p := by (with_reducible repeat (first | refine blk_drewN ?_ _ | refine blk_drew ?_ | refine blk_alloc ?_ _)); exact BK223.out) : p := h
theorem q9_2 {p : Prop} (h : p := by (with_reducible repeat (first | refine blk_drewN ?_ _ | refine blk_drew ?_ | refine blk_alloc ?_ _)); exact BK224.out) : p := h
theorem q9_3 {p : Prop} (h : p := by repeat (first | (with_reducible first | exact HB.out | apply below_alloc | apply pw_below_drewN | apply below_drew1 | refine below_set ?_ GE223.out | refine below_set ?_ GE224.out | refine below_set ?_ GE237.out | refine below_set ?_ GE241.out | refine below_set ?_ GE245.out | refine below_set ?_ GE250.out | refine below_set ?_ GE278.out) | exact HB.out)) : p := h
theorem q9_4 {p : Prop} (h : p := by (with_reducible repeat (first | refine blk_drewN ?_ _ | refine blk_drew ?_ | refine blk_alloc ?_ _)); exact BK237.out) : p := h
theorem q9_5 {p : Prop} (h : p := by (try simp only [List.map_toArray, List.map_cons, List.map_nil]); first | done | rfl | (simp only [List.length_drop, List.length_take]; rfl)) : p := h
theorem q9_6 {p : Prop} (h : p := by (with_reducible repeat (first | refine blk_drewN ?_ _ | refine blk_drew ?_ | refine blk_alloc ?_ _)); exact BK241.out) : p := h
theorem q9_7 {p : Prop} (h : p := by (with_reducible repeat (first | refine blk_drewN ?_ _ | refine blk_drew ?_ | refine blk_alloc ?_ _)); exact BK245.out) : p := h
theorem q9_8 {p : Prop} (h : p := by (with_reducible repeat (first | refine blk_drewN ?_ _ | refine blk_drew ?_ | refine blk_alloc ?_ _)); exact BK250.out) : p := h
theorem q9_9 {p : Prop} (h : p := by repeat (first | (with_reducible first | exact HB.out | apply below_alloc | apply pw_below_drewN | apply below_drew1 | refine below_set ?_ GE223.out | refine below_set ?_ GE224.out | refine below_set ?_ GE237.out) | exact HB.out)) : p := h
theorem q9_10 {p : Prop} (h : p := by repeat (first | (with_reducible first | exact HB.out | apply below_alloc | apply pw_below_drewN | apply below_drew1 | refine below_set ?_ GE223.out | refine below_set ?_ GE224.out) | exact HB.out)) : p := h
theorem q9_11 {p : Prop} (h : p := by (with_reducible repeat (first | apply XS_alloc | apply XS_drewN | apply XS_drew)); exact HO_238000.out) : p := h
theorem q9_12 {p : Prop} (h : p := by (with_reducible repeat (first | apply XS_alloc | apply XS_drewN | apply XS_drew)); exact HO_242000.out) : p := h
theorem q9_13 {p : Prop} (h : p := by (with_reducible repeat (first | apply XS_alloc | apply XS_drewN | apply XS_drew)); exact HO_246000.out) : p := h
theorem q9_14 {p : Prop} (h : p := by (with_reducible repeat (first | apply XS_alloc | apply XS_drewN | apply XS_drew)); exact HO_251000.out) : p := h
theorem q9_15 {p : Prop} (h : p := by (with_reducible repeat (first | apply XS_alloc | apply XS_drewN | apply XS_drew)); exact HO229.out) : p := h
theorem q9_16 {p : Prop} (h : p := by repeat (first | exact (Kd.C_below HR0_0.out HB.out) | (with_reducible refine Kd.C_alloc ?_ _) | (with_reducible refine Kd.C_drewN ?_ _) | (with_reducible refine Kd.C_drew ?_))) : p := h
theorem q9_17 {p : Prop} (h : p := by repeat (first | exact (Kd.C_below HR1_0.out HB.out) | (with_reducible refine Kd.C_alloc ?_ _) | (with_reducible refine Kd.C_drewN ?_ _) | (with_reducible refine Kd.C_drew ?_))) : p := h
theorem q9_18 {p : Prop} (h : p := by (with_reducible repeat (first | apply XS_alloc | apply XS_drewN | apply XS_drew)); exact HO270.out) : p := h
theorem q9_19 {p : Prop} (h : p := by rw [hg]; exact Nat.ne_of_lt (blk_lt (g := gb223) (o := .cells #[.slice A0_0 l0_0.length c0_0] 44 (0, 0)) q9_1)) : p := h
theorem q9_20 {p : Prop} (h : p := by rw [hg]; exact Nat.ne_of_gt (blk_lt (g := gb223) (o := .cells #[.slice A0_0 l0_0.length c0_0] 44 (0, 0)) q9_1)) : p := h
theorem q9_21 {p : Prop} (h : p := by (with_reducible repeat (first | refine blk_drewN ?_ _ | refine blk_drew ?_ | refine blk_alloc ?_ _)); exact BK278.out) : p := h
theorem q9_22 {p : Prop} (h : p := by repeat (first | (with_reducible first | exact HB.out | apply below_alloc | apply pw_below_drewN | apply below_drew1 | refine below_set ?_ GE223.out | refine below_set ?_ GE224.out | refine below_set ?_ GE237.out | refine below_set ?_ GE241.out) | exact HB.out)) : p := h
theorem q9_23 {p : Prop} (h : p := by repeat (first | (with_reducible first | exact HB.out | apply below_alloc | apply pw_below_drewN | apply below_drew1 | refine below_set ?_ GE223.out) | exact HB.out)) : p := h
theorem q9_24 {p : Prop} (h : p := by repeat (first | exact (XS_reads HO_251000.out).2.2 | (with_reducible refine Kd.C_alloc ?_ _) | (with_reducible refine Kd.C_drewN ?_ _) | (with_reducible refine Kd.C_drew ?_))) : p := h
theorem q9_25 {p : Prop} (h : p := by repeat (first | (with_reducible first | exact HB.out | apply below_alloc | apply pw_below_drewN | apply below_drew1 | refine below_set ?_ GE223.out | refine below_set ?_ GE224.out | refine below_set ?_ GE237.out | refine below_set ?_ GE241.out | refine below_set ?_ GE245.out) | exact HB.out)) : p := h
theorem q9_26 {p : Prop} (h : p := by (with_reducible repeat (first | apply XS_alloc | apply XS_drewN | apply XS_drew)); exact HO232.out) : p := h
theorem q9_27 {p : Prop} (h : p := by rw [hg]; exact Nat.ne_of_lt (blk_lt (g := gb224) (o := .cells #[.slice A1_0 l1_0.length c1_0] 44 (0, 0)) q9_2)) : p := h
theorem q9_28 {p : Prop} (h : p := by rw [hg]; exact Nat.ne_of_gt (blk_lt (g := gb224) (o := .cells #[.slice A1_0 l1_0.length c1_0] 44 (0, 0)) q9_2)) : p := h
theorem q9_29 {p : Prop} (h : p := by repeat (first | (with_reducible first | exact HB.out | apply below_alloc | apply pw_below_drewN | apply below_drew1) | exact HB.out)) : p := h
theorem q9_30 {p : Prop} (h : p := by first | rfl | (simp [errW_none, errW_some] <;> rfl) | (simp [*, errW_none, errW_some] <;> rfl)) : p := h
theorem q9_31 {p : Prop} (h : p := by (with_reducible repeat (first | apply XS_alloc | apply XS_drewN | apply XS_drew)); exact HO254.out) : p := h
theorem q9_32 {p : Prop} (h : p := by (with_reducible repeat (first | apply XS_alloc | apply XS_drewN | apply XS_drew)); exact HO273.out) : p := h
theorem q9_33 {p : Prop} (h : p := by (with_reducible repeat (first | apply XS_alloc | apply XS_drewN | apply XS_drew)); exact (XS_mono (XS_far (p := ⟨gb278, 0, none⟩) (XS_types HO_238000.out BK278.out (by decide)) (fun _ hk => hk.2) (.slice Ao191 t274.length co191)) (fun _ h_ => h_.1))) : p := h
theorem q9_34 {p : Prop} (h : p := by (with_reducible repeat (first | apply XS_alloc | apply XS_drewN | apply XS_drew)); exact (XS_mono (XS_far (p := ⟨gb278, 0, none⟩) (XS_types HO276.out BK278.out (by decide)) (fun _ hk => hk.2) (.slice Ao191 t274.length co191)) (fun _ h_ => h_.1))) : p := h
theorem q9_35 {p : Prop} (h : p := by (with_reducible repeat (first | apply XS_alloc | apply XS_drewN | apply XS_drew)); exact (XS_mono (XS_far (p := ⟨gb250, 0, none⟩) (XS_types HO248.out BK250.out (by decide)) (fun _ hk => hk.2) (.slice Ao65 t246.length co65)) (fun _ h_ => h_.1))) : p := h
theorem q9_36 {p : Prop} (h : p := by (with_reducible repeat (first | apply XS_alloc | apply XS_drewN | apply XS_drew)); exact (XS_mono (XS_far (p := ⟨gb250, 0, none⟩) (XS_types HO235.out BK250.out (by decide)) (fun _ hk => hk.2) (.slice Ao65 t246.length co65)) (fun _ h_ => h_.1))) : p := h
theorem q9_37 {p : Prop} (h : p := by (with_reducible repeat (first | apply XS_alloc | apply XS_drewN | apply XS_drew)); exact XS_mono HO_238000.out (fun _ hk => ⟨hk.1.1.2, ⟨hk.1.2, ⟨hk.2, ⟨hk.1.1.1.1, ⟨hk.1.1.1.2.1, hk.1.1.1.2.2⟩⟩⟩⟩⟩)) : p := h
theorem q9_38 {p : Prop} (h : p := by (with_reducible repeat (first | apply XS_alloc | apply XS_drewN | apply XS_drew)); exact XS_mono HO_242000.out (fun _ hk => ⟨hk.1.1.2, ⟨hk.1.2, ⟨hk.2, ⟨hk.1.1.1.1, ⟨hk.1.1.1.2.1, hk.1.1.1.2.2⟩⟩⟩⟩⟩)) : p := h
theorem q9_39 {p : Prop} (h : p := by (with_reducible repeat (first | apply XS_alloc | apply XS_drewN | apply XS_drew)); exact XS_mono HO_246000.out (fun _ hk => ⟨hk.1.1.2, ⟨hk.1.2, ⟨hk.2, ⟨hk.1.1.1.1, ⟨hk.1.1.1.2.1, hk.1.1.1.2.2⟩⟩⟩⟩⟩)) : p := h
theorem q9_40 {p : Prop} (h : p := by (with_reducible repeat (first | apply XS_alloc | apply XS_drewN | apply XS_drew)); exact XS_mono HO_251000.out (fun _ hk => ⟨hk.1.1.2, ⟨hk.1.2, ⟨hk.2, ⟨hk.1.1.1.1, ⟨hk.1.1.1.2.1, hk.1.1.1.2.2⟩⟩⟩⟩⟩)) : p := h
theorem q9_41 {p : Prop} (h : p := by (with_reducible repeat (first | apply XS_alloc | apply XS_drewN | apply XS_drew)); exact XS_mono HO270.out (fun _ hk => ⟨hk.1.2, ⟨hk.2, ⟨hk.1.1.1.1.1.2, ⟨hk.1.1.1.1.2, ⟨hk.1.1.1.2, hk.1.1.2⟩⟩⟩⟩⟩)) : p := h
theorem q9_42 {p : Prop} (h : p := by (with_reducible repeat (first | apply XS_alloc | apply XS_drewN | apply XS_drew)); exact XS_mono HO273.out (fun _ hk => ⟨hk.1.2, ⟨hk.2, ⟨hk.1.1.1.1.1.2, ⟨hk.1.1.1.1.2, ⟨hk.1.1.1.2, hk.1.1.2⟩⟩⟩⟩⟩)) : p := h
theorem q9_43 {p : Prop} (h : p := by (with_reducible repeat (first | apply XS_alloc | apply XS_drewN | apply XS_drew)); exact XS_mono HO276.out (fun _ hk => ⟨hk.1.2, ⟨hk.2, ⟨hk.1.1.1.1.1.2, ⟨hk.1.1.1.1.2, ⟨hk.1.1.1.2, hk.1.1.2⟩⟩⟩⟩⟩)) : p := h
theorem q9_44 {p : Prop} (h : p := by rw [hg]; exact Nat.ne_of_lt (blk_lt (g := gb237) (o := .cells #[.slice Ao41 t233.length co41] 25 (0, 0)) q9_4)) : p := h
theorem q9_45 {p : Prop} (h : p := by rw [hg]; exact Nat.ne_of_gt (blk_lt (g := gb237) (o := .cells #[.slice Ao41 t233.length co41] 25 (0, 0)) q9_4)) : p := h
theorem q9_46 {p : Prop} (h : p := by simp only [putAll, Act.put, z9a, z9b, z9c]) : p := h
theorem q9_47 {p : Prop} (h : p := by first | (go_simp; done) | (go_simp; rfl)) : p := h
theorem q9_48 {p : Prop} (h : p := by repeat (first | exact (XS_reads HO229.out).2.2 | (with_reducible refine Kd.C_alloc ?_ _) | (with_reducible refine Kd.C_drewN ?_ _) | (with_reducible refine Kd.C_drew ?_))) : p := h
theorem q9_49 {p : Prop} (h : p := by repeat (first | exact (XS_reads HO232.out).2.2 | (with_reducible refine Kd.C_alloc ?_ _) | (with_reducible refine Kd.C_drewN ?_ _) | (with_reducible refine Kd.C_drew ?_))) : p := h
theorem q9_50 {p : Prop} (h : p := by repeat (first | exact (XS_reads HO270.out).2.2 | (with_reducible refine Kd.C_alloc ?_ _) | (with_reducible refine Kd.C_drewN ?_ _) | (with_reducible refine Kd.C_drew ?_))) : p := h
theorem q9_51 {p : Prop} (h : p := by repeat (first | exact (XS_reads HO273.out).2.2 | (with_reducible refine Kd.C_alloc ?_ _) | (with_reducible refine Kd.C_drewN ?_ _) | (with_reducible refine Kd.C_drew ?_))) : p := h
theorem q9_52 {p : Prop} (h : p := by (with_reducible repeat (first | apply XS_alloc | apply XS_drewN | apply XS_drew)); exact (XS_mono (XS_far (p := ⟨gb245, 0, none⟩) (XS_types HO240.out BK245.out (by decide)) (fun _ hk => hk.2) (.slice Ao56 t242.length co56)) (fun _ h_ => h_.1))) : p := h
theorem q9_53 {p : Prop} (h : p := by (with_reducible repeat (first | apply XS_alloc | apply XS_drewN | apply XS_drew)); exact (XS_mono (XS_far (p := ⟨gb245, 0, none⟩) (XS_types HO244.out BK245.out (by decide)) (fun _ hk => hk.2) (.slice Ao56 t242.length co56)) (fun _ h_ => h_.1))) : p := h
theorem q9_54 {p : Prop} (h : p := by (try simp only [List.map_toArray, List.map_cons, List.map_nil]); first | done | (rw [show t266.length = t246.length from (XS_reads HO_251000.out).1.symm] <;> rfl) | rfl | (simp only [List.length_drop, List.length_take]; rfl)) : p := h
theorem q9_55 {p : Prop} (h : p := by (with_reducible repeat (first | apply XS_alloc | apply XS_drewN | apply XS_drew)); exact XS_mono HO229.out (fun _ hk => ⟨hk.1.2, hk.2⟩)) : p := h
theorem q9_56 {p : Prop} (h : p := by (with_reducible repeat (first | apply XS_alloc | apply XS_drewN | apply XS_drew)); exact XS_mono HO232.out (fun _ hk => ⟨hk.1.2, hk.2⟩)) : p := h
theorem q9_57 {p : Prop} (h : p := by (with_reducible repeat (first | apply XS_alloc | apply XS_drewN | apply XS_drew)); exact XS_mono HO235.out (fun _ hk => ⟨hk.1.2, hk.2⟩)) : p := h
theorem q9_58 {p : Prop} (h : p := by repeat (first | exact (XS_reads HO_242000.out).2.2 | (with_reducible refine Kd.C_alloc ?_ _) | (with_reducible refine Kd.C_drewN ?_ _) | (with_reducible refine Kd.C_drew ?_))) : p := h
theorem q9_59 {p : Prop} (h : p := by repeat (first | exact (XS_reads HO254.out).2.2 | (with_reducible refine Kd.C_alloc ?_ _) | (with_reducible refine Kd.C_drewN ?_ _) | (with_reducible refine Kd.C_drew ?_))) : p := h
theorem q9_60 {p : Prop} (h : p := by rw [hg]; exact Nat.ne_of_lt (blk_lt (g := gb241) (o := .cells #[.slice Ao47 t261.length co47] 25 (0, 0)) q9_6)) : p := h
theorem q9_61 {p : Prop} (h : p := by rw [hg]; exact Nat.ne_of_gt (blk_lt (g := gb241) (o := .cells #[.slice Ao47 t261.length co47] 25 (0, 0)) q9_6)) : p := h
theorem q9_62 {p : Prop} (h : p := by rw [hg]; exact Nat.ne_of_lt (blk_lt (g := gb245) (o := .cells #[.slice Ao56 t263.length co56] 25 (0, 0)) q9_7)) : p := h
theorem q9_63 {p : Prop} (h : p := by rw [hg]; exact Nat.ne_of_gt (blk_lt (g := gb245) (o := .cells #[.slice Ao56 t263.length co56] 25 (0, 0)) q9_7)) : p := h
theorem q9_64 {p : Prop} (h : p := by rw [hg]; exact Nat.ne_of_lt (blk_lt (g := gb250) (o := .cells #[.slice Ao65 t246.length co65] 25 (0, 0)) q9_8)) : p := h
theorem q9_65 {p : Prop} (h : p := by rw [hg]; exact Nat.ne_of_gt (blk_lt (g := gb250) (o := .cells #[.slice Ao65 t246.length co65] 25 (0, 0)) q9_8)) : p := h
theorem q9_66 {p : Prop} (h : p := by (with_reducible repeat (first | apply XS_alloc | apply XS_drewN | apply XS_drew)); exact HO235.out) : p := h
theorem q9_67 {p : Prop} (h : p := by (with_reducible repeat (first | apply XS_alloc | apply XS_drewN | apply XS_drew)); exact HO258.out) : p := h
theorem q9_68 {p : Prop} (h : p := by (with_reducible repeat (first | refine blk_drewN ?_ _ | refine blk_drew ?_ | refine blk_alloc ?_ _)); refine blk_put (cs := #[.slice none 0 0]) ?_ 0 _ rfl; (with_reducible repeat (first | refine blk_drewN ?_ _ | refine blk_drew ?_ | refine blk_alloc ?_ _)); exact BK250.out) : p := h
theorem q9_69 {p : Prop} (h : p := by (with_reducible repeat (first | refine blk_drewN ?_ _ | refine blk_drew ?_ | refine blk_alloc ?_ _)); refine blk_put (cs := #[.slice none 0 0]) ?_ 0 _ rfl; (with_reducible repeat (first | refine blk_drewN ?_ _ | refine blk_drew ?_ | refine blk_alloc ?_ _)); exact BK278.out) : p := h
theorem q9_70 {p : Prop} (h : p := by (with_reducible repeat (first | refine blk_drewN ?_ _ | refine blk_drew ?_ | refine blk_alloc ?_ _)); refine blk_far ?_ NB223_250.out _; (with_reducible repeat (first | refine blk_drewN ?_ _ | refine blk_drew ?_ | refine blk_alloc ?_ _)); exact BK223.out) : p := h
theorem q9_71 {p : Prop} (h : p := by (with_reducible repeat (first | refine blk_drewN ?_ _ | refine blk_drew ?_ | refine blk_alloc ?_ _)); refine blk_far ?_ NB224_250.out _; (with_reducible repeat (first | refine blk_drewN ?_ _ | refine blk_drew ?_ | refine blk_alloc ?_ _)); exact BK224.out) : p := h
theorem q9_72 {p : Prop} (h : p := by (with_reducible repeat (first | refine blk_drewN ?_ _ | refine blk_drew ?_ | refine blk_alloc ?_ _)); refine blk_far ?_ NB237_250.out _; (with_reducible repeat (first | refine blk_drewN ?_ _ | refine blk_drew ?_ | refine blk_alloc ?_ _)); exact BK237.out) : p := h
theorem q9_73 {p : Prop} (h : p := by (with_reducible repeat (first | refine blk_drewN ?_ _ | refine blk_drew ?_ | refine blk_alloc ?_ _)); refine blk_far ?_ NB241_250.out _; (with_reducible repeat (first | refine blk_drewN ?_ _ | refine blk_drew ?_ | refine blk_alloc ?_ _)); exact BK241.out) : p := h
theorem q9_74 {p : Prop} (h : p := by (with_reducible repeat (first | refine blk_drewN ?_ _ | refine blk_drew ?_ | refine blk_alloc ?_ _)); refine blk_far ?_ NB245_250.out _; (with_reducible repeat (first | refine blk_drewN ?_ _ | refine blk_drew ?_ | refine blk_alloc ?_ _)); exact BK245.out) : p := h
theorem q9_75 {p : Prop} (h : p := by (with_reducible repeat (first | refine blk_drewN ?_ _ | refine blk_drew ?_ | refine blk_alloc ?_ _)); refine blk_far ?_ NB223_278.out _; (with_reducible repeat (first | refine blk_drewN ?_ _ | refine blk_drew ?_ | refine blk_alloc ?_ _)); exact BK223.out) : p := h
theorem q9_76 {p : Prop} (h : p := by (with_reducible repeat (first | refine blk_drewN ?_ _ | refine blk_drew ?_ | refine blk_alloc ?_ _)); refine blk_far ?_ NB224_278.out _; (with_reducible repeat (first | refine blk_drewN ?_ _ | refine blk_drew ?_ | refine blk_alloc ?_ _)); exact BK224.out) : p := h
theorem q9_77 {p : Prop} (h : p := by (with_reducible repeat (first | refine blk_drewN ?_ _ | refine blk_drew ?_ | refine blk_alloc ?_ _)); refine blk_far ?_ NB237_278.out _; (with_reducible repeat (first | refine blk_drewN ?_ _ | refine blk_drew ?_ | refine blk_alloc ?_ _)); exact BK237.out) : p := h
theorem q9_78 {p : Prop} (h : p := by (with_reducible repeat (first | refine blk_drewN ?_ _ | refine blk_drew ?_ | refine blk_alloc ?_ _)); refine blk_far ?_ NB241_278.out _; (with_reducible repeat (first | refine blk_drewN ?_ _ | refine blk_drew ?_ | refine blk_alloc ?_ _)); exact BK241.out) : p := h
theorem q9_79 {p : Prop} (h : p := by (with_reducible repeat (first | refine blk_drewN ?_ _ | refine blk_drew ?_ | refine blk_alloc ?_ _)); refine blk_far ?_ NB245_278.out _; (with_reducible repeat (first | refine blk_drewN ?_ _ | refine blk_drew ?_ | refine blk_alloc ?_ _)); exact BK245.out) : p := h
theorem q9_80 {p : Prop} (h : p := by (with_reducible repeat (first | refine blk_drewN ?_ _ | refine blk_drew ?_ | refine blk_alloc ?_ _)); refine blk_far ?_ NB250_278.out _; (with_reducible repeat (first | refine blk_drewN ?_ _ | refine blk_drew ?_ | refine blk_alloc ?_ _)); exact BK250.out) : p := h
theorem q9_81 {p : Prop} (h : p := by (with_reducible repeat (first | apply XS_alloc | apply XS_drewN | apply XS_drew)); exact (XS_mono (XS_far (p := ⟨gb278, 0, none⟩) (XS_types HO_242000.out BK278.out (by decide)) (fun _ hk => hk.2) (.slice Ao191 t274.length co191)) (fun _ h_ => h_.1))) : p := h
theorem q9_82 {p : Prop} (h : p := by (with_reducible repeat (first | apply XS_alloc | apply XS_drewN | apply XS_drew)); exact (XS_mono (XS_far (p := ⟨gb278, 0, none⟩) (XS_types HO_246000.out BK278.out (by decide)) (fun _ hk => hk.2) (.slice Ao191 t274.length co191)) (fun _ h_ => h_.1))) : p := h
theorem q9_83 {p : Prop} (h : p := by (with_reducible repeat (first | apply XS_alloc | apply XS_drewN | apply XS_drew)); exact (XS_mono (XS_far (p := ⟨gb278, 0, none⟩) (XS_types HO_251000.out BK278.out (by decide)) (fun _ hk => hk.2) (.slice Ao191 t274.length co191)) (fun _ h_ => h_.1))) : p := h
theorem q9_84 {p : Prop} (h : p := by (with_reducible repeat (first | apply XS_alloc | apply XS_drewN | apply XS_drew)); exact (XS_mono (XS_far (p := ⟨gb278, 0, none⟩) (XS_types HO270.out BK278.out (by decide)) (fun _ hk => hk.2) (.slice Ao191 t274.length co191)) (fun _ h_ => h_.1))) : p := h
theorem q9_85 {p : Prop} (h : p := by (with_reducible repeat (first | apply XS_alloc | apply XS_drewN | apply XS_drew)); exact (XS_mono (XS_far (p := ⟨gb278, 0, none⟩) (XS_types HO273.out BK278.out (by decide)) (fun _ hk => hk.2) (.slice Ao191 t274.length co191)) (fun _ h_ => h_.1))) : p := h
theorem q9_86 {p : Prop} (h : p := by (with_reducible repeat (first | apply XS_alloc | apply XS_drewN | apply XS_drew)); exact (XS_mono (XS_far (p := ⟨gb237, 0, none⟩) (XS_types HO229.out BK237.out (by decide)) (fun _ hk => hk.2) (.slice Ao41 t233.length co41)) (fun _ h_ => h_.1))) : p := h
theorem q9_87 {p : Prop} (h : p := by (with_reducible repeat (first | apply XS_alloc | apply XS_drewN | apply XS_drew)); exact (XS_mono (XS_far (p := ⟨gb237, 0, none⟩) (XS_types HO232.out BK237.out (by decide)) (fun _ hk => hk.2) (.slice Ao41 t233.length co41)) (fun _ h_ => h_.1))) : p := h
theorem q9_88 {p : Prop} (h : p := by (with_reducible repeat (first | apply XS_alloc | apply XS_drewN | apply XS_drew)); exact (XS_mono (XS_far (p := ⟨gb237, 0, none⟩) (XS_types HO235.out BK237.out (by decide)) (fun _ hk => hk.2) (.slice Ao41 t233.length co41)) (fun _ h_ => h_.1))) : p := h
theorem q9_89 {p : Prop} (h : p := by (with_reducible repeat (first | apply XS_alloc | apply XS_drewN | apply XS_drew)); exact (XS_mono (XS_far (p := ⟨gb241, 0, none⟩) (XS_types HO229.out BK241.out (by decide)) (fun _ hk => hk.2) (.slice Ao47 t238.length co47)) (fun _ h_ => h_.1))) : p := h
theorem q9_90 {p : Prop} (h : p := by (with_reducible repeat (first | apply XS_alloc | apply XS_drewN | apply XS_drew)); exact (XS_mono (XS_far (p := ⟨gb241, 0, none⟩) (XS_types HO232.out BK241.out (by decide)) (fun _ hk => hk.2) (.slice Ao47 t238.length co47)) (fun _ h_ => h_.1))) : p := h
theorem q9_91 {p : Prop} (h : p := by (with_reducible repeat (first | apply XS_alloc | apply XS_drewN | apply XS_drew)); exact (XS_mono (XS_far (p := ⟨gb241, 0, none⟩) (XS_types HO235.out BK241.out (by decide)) (fun _ hk => hk.2) (.slice Ao47 t238.length co47)) (fun _ h_ => h_.1))) : p := h
theorem q9_92 {p : Prop} (h : p := by (with_reducible repeat (first | apply XS_alloc | apply XS_drewN | apply XS_drew)); exact (XS_mono (XS_far (p := ⟨gb241, 0, none⟩) (XS_types HO240.out BK241.out (by decide)) (fun _ hk => hk.2) (.slice Ao47 t238.length co47)) (fun _ h_ => h_.1))) : p := h
theorem q9_93 {p : Prop} (h : p := by (with_reducible repeat (first | apply XS_alloc | apply XS_drewN | apply XS_drew)); exact (XS_mono (XS_far (p := ⟨gb245, 0, none⟩) (XS_types HO229.out BK245.out (by decide)) (fun _ hk => hk.2) (.slice Ao56 t242.length co56)) (fun _ h_ => h_.1))) : p := h
theorem q9_94 {p : Prop} (h : p := by (with_reducible repeat (first | apply XS_alloc | apply XS_drewN | apply XS_drew)); exact (XS_mono (XS_far (p := ⟨gb245, 0, none⟩) (XS_types HO232.out BK245.out (by decide)) (fun _ hk => hk.2) (.slice Ao56 t242.length co56)) (fun _ h_ => h_.1))) : p := h
theorem q9_95 {p : Prop} (h : p := by (with_reducible repeat (first | apply XS_alloc | apply XS_drewN | apply XS_drew)); exact (XS_mono (XS_far (p := ⟨gb245, 0, none⟩) (XS_types HO235.out BK245.out (by decide)) (fun _ hk => hk.2) (.slice Ao56 t242.length co56)) (fun _ h_ => h_.1))) : p := h
theorem q9_96 {p : Prop} (h : p := by (with_reducible repeat (first | apply XS_alloc | apply XS_drewN | apply XS_drew)); exact (XS_mono (XS_far (p := ⟨gb250, 0, none⟩) (XS_types HO229.out BK250.out (by decide)) (fun _ hk => hk.2) (.slice Ao65 t246.length co65)) (fun _ h_ => h_.1))) : p := h
theorem q9_97 {p : Prop} (h : p := by (with_reducible repeat (first | apply XS_alloc | apply XS_drewN | apply XS_drew)); exact (XS_mono (XS_far (p := ⟨gb250, 0, none⟩) (XS_types HO232.out BK250.out (by decide)) (fun _ hk => hk.2) (.slice Ao65 t246.length co65)) (fun _ h_ => h_.1))) : p := h
theorem q9_98 {p : Prop} (h : p := by (with_reducible repeat (first | apply XS_alloc | apply XS_drewN | apply XS_drew)); exact (XS_mono (XS_far (p := ⟨gb250, 0, none⟩) (XS_types HO240.out BK250.out (by decide)) (fun _ hk => hk.2) (.slice Ao65 t246.length co65)) (fun _ h_ => h_.1))) : p := h
theorem q9_99 {p : Prop} (h : p := by (with_reducible repeat (first | apply XS_alloc | apply XS_drewN | apply XS_drew)); exact (XS_mono (XS_far (p := ⟨gb250, 0, none⟩) (XS_types HO244.out BK250.out (by decide)) (fun _ hk => hk.2) (.slice Ao65 t246.length co65)) (fun _ h_ => h_.1))) : p := h
theorem q9_100 {p : Prop} (h : p := by first | rfl | (simp; done) | (simp [*]; done)) : p := h
theorem q9_101 {p : Prop} (h : p := by refine (XS_reads (F := F275) (base := w.heap.size) (ok := fun k_ => (¬ F269 k_ ∧ (¬ F272 k_ ∧ (¬ F234 k_ ∧ (¬ F239 k_ ∧ (¬ F243 k_ ∧ ¬ F247 k_)))))) (n := t274.length) (c := co191) ?_).2.2; exact q9_34) : p := h
theorem q9_102 {p : Prop} (h : p := by refine (XS_reads (F := F234) (base := w.heap.size) (ok := fun k_ => (¬ F269 k_ ∧ (¬ F272 k_ ∧ (¬ F275 k_ ∧ (¬ F239 k_ ∧ (¬ F243 k_ ∧ ¬ F247 k_)))))) (n := t233.length) (c := co41) ?_).2.2; exact q9_33) : p := h
theorem q9_103 {p : Prop} (h : p := by refine (XS_reads (F := F247) (base := w.heap.size) (ok := fun k_ => (((((True ∧ ¬ F228 k_) ∧ ¬ F231 k_) ∧ ¬ F234 k_) ∧ ¬ F239 k_) ∧ ¬ F243 k_)) (n := t246.length) (c := co65) ?_).2.2; exact q9_35) : p := h
theorem q9_104 {p : Prop} (h : p := by rw [show t266.length = t246.length from (XS_reads HO_251000.out).1.symm]; exact (XS_reads HO_251000.out).2.1) : p := h
theorem q9_105 {p : Prop} (h : p := by refine (XS_reads (F := F234) (base := w.heap.size) (ok := fun k_ => ((((¬ F228 k_ ∧ ¬ F231 k_) ∧ ¬ F239 k_) ∧ ¬ F243 k_) ∧ ¬ F247 k_)) (n := t233.length) (c := co41) ?_).2.2; exact q9_36) : p := h
theorem q9_106 {p : Prop} (h : p := by (with_reducible repeat (first | apply XS_alloc | apply XS_drewN | apply XS_drew)); exact HO_279000.out) : p := h
theorem q9_107 {p : Prop} (h : p := by rw [hg]; exact (below_size q9_10)) : p := h
theorem q9_108 {p : Prop} (h : p := by (with_reducible repeat (first | apply XS_alloc | apply XS_drewN | apply XS_drew)); exact HO240.out) : p := h
theorem q9_109 {p : Prop} (h : p := by rw [hg]; exact (below_size q9_0)) : p := h
theorem q9_110 {p : Prop} (h : p := by repeat (first | exact (XS_reads HO_246000.out).2.2 | (with_reducible refine Kd.C_alloc ?_ _) | (with_reducible refine Kd.C_drewN ?_ _) | (with_reducible refine Kd.C_drew ?_))) : p := h
theorem q9_111 {p : Prop} (h : p := by repeat (first | exact (XS_reads HO_238000.out).2.2 | (with_reducible refine Kd.C_alloc ?_ _) | (with_reducible refine Kd.C_drewN ?_ _) | (with_reducible refine Kd.C_drew ?_))) : p := h
theorem q9_112 {p : Prop} (h : p := by repeat (first | exact (XS_reads HO258.out).2.2 | (with_reducible refine Kd.C_alloc ?_ _) | (with_reducible refine Kd.C_drewN ?_ _) | (with_reducible refine Kd.C_drew ?_))) : p := h
theorem q9_113 {p : Prop} (h : p := by rw [hg]; exact (below_size q9_29)) : p := h
theorem q9_114 {p : Prop} (h : p := by rw [hg]; exact (below_size q9_23)) : p := h
theorem q9_115 {p : Prop} (h : p := by rw [hg]; exact Nat.ne_of_lt (blk_lt (g := gb241) (o := .cells #[.slice Ao47 t238.length co47] 25 (0, 0)) q9_6)) : p := h
theorem q9_116 {p : Prop} (h : p := by rw [hg]; exact Nat.ne_of_gt (blk_lt (g := gb241) (o := .cells #[.slice Ao47 t238.length co47] 25 (0, 0)) q9_6)) : p := h
theorem q9_117 {p : Prop} (h : p := by (with_reducible repeat (first | apply XS_alloc | apply XS_drewN | apply XS_drew)); exact HO244.out) : p := h
set_option maxHeartbeats 8000000 in
set_option maxRecDepth 100000 in
theorem laws_FnExactRoughJoin.calls (k : Nat) (A0_0 : Option Addr) (c0_0 : Nat) (l0_0 : List (List Int)) (A1_0 : Option Addr) (c1_0 : Nat) (l1_0 : List (List Int)) (r : Bool) (w : World) (hr0_0 : Kd.C (Kd.slice 3 (Kd.int .i64)) w A0_0 l0_0.length l0_0) (hc0_0 : l0_0.length ≤ c0_0) (hr1_0 : Kd.C (Kd.slice 3 (Kd.int .i64)) w A1_0 l1_0.length l1_0) (hc1_0 : l1_0.length ≤ c1_0) (h : laws_FnExactRoughJoin.f k l0_0 l1_0 = some r) :
    Calls Try.prog 9 #[.agg #[.slice A0_0 l0_0.length c0_0], .agg #[.slice A1_0 l1_0.length c1_0]] w fun e w' => e = .returned (.bool r) ∧ Below w.heap.size w w' := by
  have hu44 := Try.underlying44;have hu25 := Try.underlying25;have HR0_0 := Aside0.mk hr0_0;have HC0_0 := Aside0.mk hc0_0;clear hr0_0 hc0_0;have HR1_0 := Aside0.mk hr1_0;have HC1_0 := Aside0.mk hc1_0;clear hr1_0 hc1_0;have HB := z9k (Below.refl w.heap.size w)
  have H : ((laws_szRough.f k l0_0 1048576).bind fun t225 => (if t225 < 0 then (some true) else ((laws_szRough.f k l1_0 t225).bind fun t226 => (if t226 < 0 then (some true) else ((laws_toRough.f k l0_0).bind fun t227 => ((laws_toRough.f k l1_0).bind fun t230 => ((spec_RoughJoin.f k t227 t230).bind fun bt233 => ((laws_toRough.f k l0_0).bind fun t238 => ((laws_toRough.f k l1_0).bind fun t242 => ((impl_RoughJoin.f k t238 t242).bind fun bt246 => ((laws_eqRough.f k bt246.1 bt233.1).bind fun t251 => (if t251 = true then (laws_FnExactRoughJoin.j0 k bt233.2 bt246.2 (bt246.2 != bt233.2) l0_0 l1_0 bt233.1 t238 t242 bt246.1) else (laws_FnExactRoughJoin.j0 k bt233.2 bt246.2 true l0_0 l1_0 bt233.1 t238 t242 bt246.1))))))))))))) = some r := h
  clear h
  replace H := Option.bind_eq_some_iff.mp H
  obtain ⟨t225, A30, H⟩ := H
  replace H : (if t225 < 0 then (some true) else ((laws_szRough.f k l1_0 t225).bind fun t226 => (if t226 < 0 then (some true) else ((laws_toRough.f k l0_0).bind fun t227 => ((laws_toRough.f k l1_0).bind fun t230 => ((spec_RoughJoin.f k t227 t230).bind fun bt233 => ((laws_toRough.f k l0_0).bind fun t238 => ((laws_toRough.f k l1_0).bind fun t242 => ((impl_RoughJoin.f k t238 t242).bind fun bt246 => ((laws_eqRough.f k bt246.1 bt233.1).bind fun t251 => (if t251 = true then (laws_FnExactRoughJoin.j0 k bt233.2 bt246.2 (bt246.2 != bt233.2) l0_0 l1_0 bt233.1 t238 t242 bt246.1) else (laws_FnExactRoughJoin.j0 k bt233.2 bt246.2 true l0_0 l1_0 bt233.1 t238 t242 bt246.1)))))))))))) = some r := H
  have A3 := Aside0.mk A30;clear A30
  by_cases c4 : t225 < 0
  · rw [if_pos c4] at H
    have c4b0 : decide (t225 < 0) = true := decide_eq_true c4
    clear c4
    obtain rfl := Option.some.inj H
    go_enter Try.func9, Try.ntmps9
    go_wp2_with (first | ((with_reducible refine gate_dst (N := 2) rfl ?_); refine box_event ?hg (N := 2) ?hd (cs := #[.slice A0_0 l0_0.length c0_0]) (t := 44) ?hr ?_; (case hd => rfl); (case hg => rfl); (case hr => exact q9_47); intro gb223 hg w5 hbox hb; have n0_ := z9k (below_step q9_29 hb); have n1_ := z9k (hbox); have n2_ := z9k ((q9_113 : w.heap.size ≤ gb223)); have n3_ := z9k ((q9_113 : w.heap.size ≤ gb223)); clear HB; have HB := n0_; have BK223 := n1_; have GW223 := n2_; have GE223 := n3_; clear n0_ n1_ n2_ n3_; clear hb hbox hg) | ((with_reducible refine gate_dst (N := 3) rfl ?_); refine box_event ?hg (N := 3) ?hd (cs := #[.slice A1_0 l1_0.length c1_0]) (t := 44) ?hr ?_; (case hd => rfl); (case hg => rfl); (case hr => exact q9_47); intro gb224 hg w6 hbox hb; have n0_ := z9k (blk_below (g := gb223) (o := .cells #[.slice A0_0 l0_0.length c0_0] 44 (0, 0)) q9_1 hb); have n1_ := z9k (below_step q9_23 hb); have n2_ := z9k (hbox); have n3_ := z9k ((q9_114 : w.heap.size ≤ gb224)); have n4_ := z9k ((q9_114 : w.heap.size ≤ gb224)); have n5_ := z9k ((q9_19 : gb223 ≠ gb224)); have n6_ := z9k ((q9_20 : gb224 ≠ gb223)); clear BK223; clear HB; have BK223 := n0_; have HB := n1_; have BK224 := n2_; have GW224 := n3_; have GE224 := n4_; have NB223_224 := n5_; have NB224_223 := n6_; clear n0_ n1_ n2_ n3_ n4_ n5_ n6_; clear hb hbox hg; have hnb7 := NB223_224.out; have hnc7 := NB224_223.out; have hcz8_0 : w6.cell? ⟨gb223, 0, none⟩ = some (.slice A0_0 l0_0.length c0_0) := (blk_cell BK223.out 0).trans rfl; have hfz8_0 := blk_frozen BK223.out 0) | ((with_reducible refine gate_callee (f := 26) rfl ?_); refine goesL_ (some 19) rfl rfl Try.func26 (by kernel_rfl) rfl #[.agg #[.slice A0_0 l0_0.length c0_0], .int .i64 1048576] rfl q9_5 ?_; (with_reducible refine (laws_szRough.calls k _ _ l0_0 1048576 t225 _ ?side1 ?side2 A3.out).mono ?_); (case side1 => exact q9_16); (case side2 => exact HC0_0.out); rintro e w9 ⟨rfl, hb⟩; refine ⟨_, rfl, ?_⟩; have n0_ := z9k (blk_below (g := gb223) (o := .cells #[.slice A0_0 l0_0.length c0_0] 44 (0, 0)) q9_1 hb); have n1_ := z9k (blk_below (g := gb224) (o := .cells #[.slice A1_0 l1_0.length c1_0] 44 (0, 0)) q9_2 hb); have n2_ := z9k (below_step q9_10 hb); clear BK223; clear BK224; clear HB; have BK223 := n0_; have BK224 := n1_; have HB := n2_; clear n0_ n1_ n2_; (try clear hb); (try clear hb2); (try clear hk); (try clear hi)))
    go_ret
    exact ⟨q9_30, q9_10⟩
  · rw [if_neg c4] at H
    have c4b0 : decide (t225 < 0) = false := decide_eq_false c4
    clear c4
    replace H := Option.bind_eq_some_iff.mp H
    obtain ⟨t226, A100, H⟩ := H
    replace H : (if t226 < 0 then (some true) else ((laws_toRough.f k l0_0).bind fun t227 => ((laws_toRough.f k l1_0).bind fun t230 => ((spec_RoughJoin.f k t227 t230).bind fun bt233 => ((laws_toRough.f k l0_0).bind fun t238 => ((laws_toRough.f k l1_0).bind fun t242 => ((impl_RoughJoin.f k t238 t242).bind fun bt246 => ((laws_eqRough.f k bt246.1 bt233.1).bind fun t251 => (if t251 = true then (laws_FnExactRoughJoin.j0 k bt233.2 bt246.2 (bt246.2 != bt233.2) l0_0 l1_0 bt233.1 t238 t242 bt246.1) else (laws_FnExactRoughJoin.j0 k bt233.2 bt246.2 true l0_0 l1_0 bt233.1 t238 t242 bt246.1)))))))))) = some r := H
    have A10 := Aside0.mk A100;clear A100
    by_cases c11 : t226 < 0
    · rw [if_pos c11] at H
      have c11b0 : decide (t226 < 0) = true := decide_eq_true c11
      clear c11
      obtain rfl := Option.some.inj H
      go_enter Try.func9, Try.ntmps9
      go_wp2_with (first | ((with_reducible refine gate_dst (N := 2) rfl ?_); refine box_event ?hg (N := 2) ?hd (cs := #[.slice A0_0 l0_0.length c0_0]) (t := 44) ?hr ?_; (case hd => rfl); (case hg => rfl); (case hr => exact q9_47); intro gb223 hg w12 hbox hb; have n0_ := z9k (below_step q9_29 hb); have n1_ := z9k (hbox); have n2_ := z9k ((q9_113 : w.heap.size ≤ gb223)); have n3_ := z9k ((q9_113 : w.heap.size ≤ gb223)); clear HB; have HB := n0_; have BK223 := n1_; have GW223 := n2_; have GE223 := n3_; clear n0_ n1_ n2_ n3_; clear hb hbox hg) | ((with_reducible refine gate_dst (N := 3) rfl ?_); refine box_event ?hg (N := 3) ?hd (cs := #[.slice A1_0 l1_0.length c1_0]) (t := 44) ?hr ?_; (case hd => rfl); (case hg => rfl); (case hr => exact q9_47); intro gb224 hg w13 hbox hb; have n0_ := z9k (blk_below (g := gb223) (o := .cells #[.slice A0_0 l0_0.length c0_0] 44 (0, 0)) q9_1 hb); have n1_ := z9k (below_step q9_23 hb); have n2_ := z9k (hbox); have n3_ := z9k ((q9_114 : w.heap.size ≤ gb224)); have n4_ := z9k ((q9_114 : w.heap.size ≤ gb224)); have n5_ := z9k ((q9_19 : gb223 ≠ gb224)); have n6_ := z9k ((q9_20 : gb224 ≠ gb223)); clear BK223; clear HB; have BK223 := n0_; have HB := n1_; have BK224 := n2_; have GW224 := n3_; have GE224 := n4_; have NB223_224 := n5_; have NB224_223 := n6_; clear n0_ n1_ n2_ n3_ n4_ n5_ n6_; clear hb hbox hg; have hnb14 := NB223_224.out; have hnc14 := NB224_223.out; have hcz15_0 : w13.cell? ⟨gb223, 0, none⟩ = some (.slice A0_0 l0_0.length c0_0) := (blk_cell BK223.out 0).trans rfl; have hfz15_0 := blk_frozen BK223.out 0) | ((with_reducible refine gate_callee (f := 26) rfl ?_); refine goesL_ (some 19) rfl rfl Try.func26 (by kernel_rfl) rfl #[.agg #[.slice A0_0 l0_0.length c0_0], .int .i64 1048576] rfl q9_5 ?_; (with_reducible refine (laws_szRough.calls k _ _ l0_0 1048576 t225 _ ?side1 ?side2 A3.out).mono ?_); (case side1 => exact q9_16); (case side2 => exact HC0_0.out); rintro e w16 ⟨rfl, hb⟩; refine ⟨_, rfl, ?_⟩; have n0_ := z9k (blk_below (g := gb223) (o := .cells #[.slice A0_0 l0_0.length c0_0] 44 (0, 0)) q9_1 hb); have n1_ := z9k (blk_below (g := gb224) (o := .cells #[.slice A1_0 l1_0.length c1_0] 44 (0, 0)) q9_2 hb); have n2_ := z9k (below_step q9_10 hb); clear BK223; clear BK224; clear HB; have BK223 := n0_; have BK224 := n1_; have HB := n2_; clear n0_ n1_ n2_; (try clear hb); (try clear hb2); (try clear hk); (try clear hi); have hcz17_0 : w16.cell? ⟨gb224, 0, none⟩ = some (.slice A1_0 l1_0.length c1_0) := (blk_cell BK224.out 0).trans rfl; have hfz17_0 := blk_frozen BK224.out 0) | ((with_reducible refine gate_callee (f := 26) rfl ?_); refine goesL_ (some 24) rfl rfl Try.func26 (by kernel_rfl) rfl #[.agg #[.slice A1_0 l1_0.length c1_0], .int .i64 t225] rfl q9_5 ?_; (with_reducible refine (laws_szRough.calls k _ _ l1_0 t225 t226 _ ?side1 ?side2 A10.out).mono ?_); (case side1 => exact q9_17); (case side2 => exact HC1_0.out); rintro e w18 ⟨rfl, hb⟩; refine ⟨_, rfl, ?_⟩; have n0_ := z9k (blk_below (g := gb223) (o := .cells #[.slice A0_0 l0_0.length c0_0] 44 (0, 0)) q9_1 hb); have n1_ := z9k (blk_below (g := gb224) (o := .cells #[.slice A1_0 l1_0.length c1_0] 44 (0, 0)) q9_2 hb); have n2_ := z9k (below_step q9_10 hb); clear BK223; clear BK224; clear HB; have BK223 := n0_; have BK224 := n1_; have HB := n2_; clear n0_ n1_ n2_; (try clear hb); (try clear hb2); (try clear hk); (try clear hi)))
      go_ret
      exact ⟨q9_30, q9_10⟩
    · rw [if_neg c11] at H
      have c11b0 : decide (t226 < 0) = false := decide_eq_false c11
      clear c11
      replace H := Option.bind_eq_some_iff.mp H
      obtain ⟨t227, A190, H⟩ := H
      replace H : ((laws_toRough.f k l1_0).bind fun t230 => ((spec_RoughJoin.f k t227 t230).bind fun bt233 => ((laws_toRough.f k l0_0).bind fun t238 => ((laws_toRough.f k l1_0).bind fun t242 => ((impl_RoughJoin.f k t238 t242).bind fun bt246 => ((laws_eqRough.f k bt246.1 bt233.1).bind fun t251 => (if t251 = true then (laws_FnExactRoughJoin.j0 k bt233.2 bt246.2 (bt246.2 != bt233.2) l0_0 l1_0 bt233.1 t238 t242 bt246.1) else (laws_FnExactRoughJoin.j0 k bt233.2 bt246.2 true l0_0 l1_0 bt233.1 t238 t242 bt246.1)))))))) = some r := H
      have A19 := Aside0.mk A190;clear A190
      replace H := Option.bind_eq_some_iff.mp H
      obtain ⟨t230, A200, H⟩ := H
      replace H : ((spec_RoughJoin.f k t227 t230).bind fun bt233 => ((laws_toRough.f k l0_0).bind fun t238 => ((laws_toRough.f k l1_0).bind fun t242 => ((impl_RoughJoin.f k t238 t242).bind fun bt246 => ((laws_eqRough.f k bt246.1 bt233.1).bind fun t251 => (if t251 = true then (laws_FnExactRoughJoin.j0 k bt233.2 bt246.2 (bt246.2 != bt233.2) l0_0 l1_0 bt233.1 t238 t242 bt246.1) else (laws_FnExactRoughJoin.j0 k bt233.2 bt246.2 true l0_0 l1_0 bt233.1 t238 t242 bt246.1))))))) = some r := H
      have A20 := Aside0.mk A200;clear A200
      replace H := Option.bind_eq_some_iff.mp H
      obtain ⟨⟨t233, t236⟩, A210, H⟩ := H
      replace H : ((laws_toRough.f k l0_0).bind fun t238 => ((laws_toRough.f k l1_0).bind fun t242 => ((impl_RoughJoin.f k t238 t242).bind fun bt246 => ((laws_eqRough.f k bt246.1 t233).bind fun t251 => (if t251 = true then (laws_FnExactRoughJoin.j0 k t236 bt246.2 (bt246.2 != t236) l0_0 l1_0 t233 t238 t242 bt246.1) else (laws_FnExactRoughJoin.j0 k t236 bt246.2 true l0_0 l1_0 t233 t238 t242 bt246.1)))))) = some r := H
      have A21 := Aside0.mk A210;clear A210
      replace H := Option.bind_eq_some_iff.mp H
      obtain ⟨t238, A220, H⟩ := H
      replace H : ((laws_toRough.f k l1_0).bind fun t242 => ((impl_RoughJoin.f k t238 t242).bind fun bt246 => ((laws_eqRough.f k bt246.1 t233).bind fun t251 => (if t251 = true then (laws_FnExactRoughJoin.j0 k t236 bt246.2 (bt246.2 != t236) l0_0 l1_0 t233 t238 t242 bt246.1) else (laws_FnExactRoughJoin.j0 k t236 bt246.2 true l0_0 l1_0 t233 t238 t242 bt246.1))))) = some r := H
      have A22 := Aside0.mk A220;clear A220
      replace H := Option.bind_eq_some_iff.mp H
      obtain ⟨t242, A230, H⟩ := H
      replace H : ((impl_RoughJoin.f k t238 t242).bind fun bt246 => ((laws_eqRough.f k bt246.1 t233).bind fun t251 => (if t251 = true then (laws_FnExactRoughJoin.j0 k t236 bt246.2 (bt246.2 != t236) l0_0 l1_0 t233 t238 t242 bt246.1) else (laws_FnExactRoughJoin.j0 k t236 bt246.2 true l0_0 l1_0 t233 t238 t242 bt246.1)))) = some r := H
      have A23 := Aside0.mk A230;clear A230
      replace H := Option.bind_eq_some_iff.mp H
      obtain ⟨⟨t246, t249⟩, A240, H⟩ := H
      replace H : ((laws_eqRough.f k t246 t233).bind fun t251 => (if t251 = true then (laws_FnExactRoughJoin.j0 k t236 t249 (t249 != t236) l0_0 l1_0 t233 t238 t242 t246) else (laws_FnExactRoughJoin.j0 k t236 t249 true l0_0 l1_0 t233 t238 t242 t246))) = some r := H
      have A24 := Aside0.mk A240;clear A240;have HC25 := Aside0.mk H;clear H
      go_enter Try.func9, Try.ntmps9
      try go_wp2_with (first | ((with_reducible refine gate_dst (N := 2) rfl ?_); refine box_event ?hg (N := 2) ?hd (cs := #[.slice A0_0 l0_0.length c0_0]) (t := 44) ?hr ?_; (case hd => rfl); (case hg => rfl); (case hr => exact q9_47); intro gb223 hg w26 hbox hb; have n0_ := z9k (below_step q9_29 hb); have n1_ := z9k (hbox); have n2_ := z9k ((q9_113 : w.heap.size ≤ gb223)); have n3_ := z9k ((q9_113 : w.heap.size ≤ gb223)); clear HB; have HB := n0_; have BK223 := n1_; have GW223 := n2_; have GE223 := n3_; clear n0_ n1_ n2_ n3_; clear hb hbox hg) | ((with_reducible refine gate_dst (N := 3) rfl ?_); refine box_event ?hg (N := 3) ?hd (cs := #[.slice A1_0 l1_0.length c1_0]) (t := 44) ?hr ?_; (case hd => rfl); (case hg => rfl); (case hr => exact q9_47); intro gb224 hg w27 hbox hb; have n0_ := z9k (blk_below (g := gb223) (o := .cells #[.slice A0_0 l0_0.length c0_0] 44 (0, 0)) q9_1 hb); have n1_ := z9k (below_step q9_23 hb); have n2_ := z9k (hbox); have n3_ := z9k ((q9_114 : w.heap.size ≤ gb224)); have n4_ := z9k ((q9_114 : w.heap.size ≤ gb224)); have n5_ := z9k ((q9_19 : gb223 ≠ gb224)); have n6_ := z9k ((q9_20 : gb224 ≠ gb223)); clear BK223; clear HB; have BK223 := n0_; have HB := n1_; have BK224 := n2_; have GW224 := n3_; have GE224 := n4_; have NB223_224 := n5_; have NB224_223 := n6_; clear n0_ n1_ n2_ n3_ n4_ n5_ n6_; clear hb hbox hg; have hnb28 := NB223_224.out; have hnc28 := NB224_223.out; have hcz29_0 : w27.cell? ⟨gb223, 0, none⟩ = some (.slice A0_0 l0_0.length c0_0) := (blk_cell BK223.out 0).trans rfl; have hfz29_0 := blk_frozen BK223.out 0) | ((with_reducible refine gate_callee (f := 26) rfl ?_); refine goesL_ (some 19) rfl rfl Try.func26 (by kernel_rfl) rfl #[.agg #[.slice A0_0 l0_0.length c0_0], .int .i64 1048576] rfl q9_5 ?_; (with_reducible refine (laws_szRough.calls k _ _ l0_0 1048576 t225 _ ?side1 ?side2 A3.out).mono ?_); (case side1 => exact q9_16); (case side2 => exact HC0_0.out); rintro e w30 ⟨rfl, hb⟩; refine ⟨_, rfl, ?_⟩; have n0_ := z9k (blk_below (g := gb223) (o := .cells #[.slice A0_0 l0_0.length c0_0] 44 (0, 0)) q9_1 hb); have n1_ := z9k (blk_below (g := gb224) (o := .cells #[.slice A1_0 l1_0.length c1_0] 44 (0, 0)) q9_2 hb); have n2_ := z9k (below_step q9_10 hb); clear BK223; clear BK224; clear HB; have BK223 := n0_; have BK224 := n1_; have HB := n2_; clear n0_ n1_ n2_; (try clear hb); (try clear hb2); (try clear hk); (try clear hi); have hcz31_0 : w30.cell? ⟨gb224, 0, none⟩ = some (.slice A1_0 l1_0.length c1_0) := (blk_cell BK224.out 0).trans rfl; have hfz31_0 := blk_frozen BK224.out 0) | ((with_reducible refine gate_callee (f := 26) rfl ?_); refine goesL_ (some 24) rfl rfl Try.func26 (by kernel_rfl) rfl #[.agg #[.slice A1_0 l1_0.length c1_0], .int .i64 t225] rfl q9_5 ?_; (with_reducible refine (laws_szRough.calls k _ _ l1_0 t225 t226 _ ?side1 ?side2 A10.out).mono ?_); (case side1 => exact q9_17); (case side2 => exact HC1_0.out); rintro e w32 ⟨rfl, hb⟩; refine ⟨_, rfl, ?_⟩; have n0_ := z9k (blk_below (g := gb223) (o := .cells #[.slice A0_0 l0_0.length c0_0] 44 (0, 0)) q9_1 hb); have n1_ := z9k (blk_below (g := gb224) (o := .cells #[.slice A1_0 l1_0.length c1_0] 44 (0, 0)) q9_2 hb); have n2_ := z9k (below_step q9_10 hb); clear BK223; clear BK224; clear HB; have BK223 := n0_; have BK224 := n1_; have HB := n2_; clear n0_ n1_ n2_; (try clear hb); (try clear hb2); (try clear hk); (try clear hi)))
      have n0_ := z9k (blk_drew BK223.out);have n1_ := z9k (blk_drew BK224.out);have n2_ := z9k (below_drew1 HB.out);clear BK223 BK224 HB;have BK223 := n0_;have BK224 := n1_;have HB := n2_;clear n0_ n1_ n2_;refine start_ (n := 11) (S := fun w' => w'.cell? ⟨gb223, 0, none⟩ = some (.slice A0_0 l0_0.length c0_0) ∧ w'.cell? ⟨gb224, 0, none⟩ = some (.slice A1_0 l1_0.length c1_0)) (ds := []) #[false, false, false, false, false, false, false, false, false, false, false] (by kernel_rfl) rfl rfl ⟨(blk_cell BK223.out 0).trans rfl, (blk_cell BK224.out 0).trans rfl⟩ (fun hHeld => ?_); refine with_tabW laws_FnExactRoughJoin.tab8 laws_FnExactRoughJoin.bits8 (fun HT_ HW_ => ?_)
      generalize w32.drew = w33 at BK223 BK224 HB hHeld ⊢
      refine take_ (i := 0) (N := some 28) (v := ?_) (a' := ?_) #[true, false, false, false, false, false, false, false, false, false, false] rfl rfl (take_ofW HT_.out HW_.out (by kernel_rfl)) (fun _ _ _ h => h) (Or.inl ⟨by rfl, ?_⟩) hHeld ?_ ?_;rotate_left
      · rintro w' ⟨s0, s1⟩
        go_simp
        with_reducible rfl
      rotate_left
      · simp only [Act.put, z9a, z9b, z9c, i64_w, i32_w]
        rfl
      refine take_ (i := 2) (N := some 30) (v := ?_) (a' := ?_) #[true, false, true, false, false, false, false, false, false, false, false] rfl rfl (take_ofW HT_.out HW_.out (by kernel_rfl)) (fun _ _ _ h => h) (Or.inl ⟨by rfl, ?_⟩) hHeld ?_ ?_;rotate_left
      · rintro w' ⟨s0, s1⟩
        go_simp
        with_reducible rfl
      rotate_left
      · simp only [Act.put, z9a, z9b, z9c, i64_w, i32_w]
        rfl
      refine join_ (σ := (Value × Value × Value × Nat) × (Nat → Prop) × (Nat → Prop) × (Nat → Prop)) 2 #[true, true, true, true, true, true, true, true, true, false, false] (fun s_ => [(29, .agg #[s_.1.1]), (31, .agg #[s_.1.2.1]), (32, .tuple #[.agg #[s_.1.2.2.1], .bool t236]), (6, .pointer (some ⟨s_.1.2.2.2, 0, none⟩)), (27, .tuple #[.agg #[s_.1.2.2.1], .bool t236]), (33, .agg #[s_.1.2.2.1]), (34, .bool t236)]) (fun s_ w' => (w'.cell? ⟨gb223, 0, none⟩ = some (.slice A0_0 l0_0.length c0_0) ∧ w'.cell? ⟨gb224, 0, none⟩ = some (.slice A1_0 l1_0.length c1_0)) ∧ (XS s_.2.1 w' w.heap.size (fun k_ => ¬ s_.2.2.1 k_ ∧ ¬ s_.2.2.2 k_) s_.1.1 t227) ∧ (XS s_.2.2.1 w' w.heap.size (fun k_ => ¬ s_.2.1 k_ ∧ ¬ s_.2.2.2 k_) s_.1.2.1 t230) ∧ (XS s_.2.2.2 w' w.heap.size (fun k_ => ¬ s_.2.1 k_ ∧ ¬ s_.2.2.1 k_) s_.1.2.2.1 t233) ∧ (w'.heap[gb223]? = some (.cells #[.slice A0_0 l0_0.length c0_0] 44 (0, 0))) ∧ (w'.heap[gb224]? = some (.cells #[.slice A1_0 l1_0.length c1_0] 44 (0, 0))) ∧ (w'.heap[s_.1.2.2.2]? = some (.cells #[.slice none 0 0] 25 (0, 0))) ∧ (w.heap.size ≤ s_.1.2.2.2) ∧ (w.heap.size ≤ s_.1.2.2.2) ∧ (gb223 ≠ s_.1.2.2.2) ∧ (s_.1.2.2.2 ≠ gb223) ∧ (gb224 ≠ s_.1.2.2.2) ∧ (s_.1.2.2.2 ≠ gb224) ∧ (Below w.heap.size w w')) ?_ ?_;rotate_left
      · intro hCont
        refine two_ (i := 1) (j := 8) (Ni := some 29) (Nj := some 6) #[true, true, true, false, false, false, false, false, false, false, false] #[true, false, true, false, false, false, false, false, true, false, false] rfl rfl rfl rfl (two_of HT_.out (by kernel_rfl)) (by decide) (by decide) (fun K hK => ?_) (fun K hK => ?_)
        · skip
          refine goes_ Try.func27 (by kernel_rfl) rfl #[.agg #[.slice A0_0 l0_0.length c0_0]] (by rfl) rfl rfl q9_5 ?_
          with_reducible refine (laws_toRough.calls k _ _ l0_0 t227 _ ?side1 ?side2 A19.out).mono ?_
          (case side1 => exact q9_16);(case side2 => exact HC0_0.out);rintro e w34 ⟨v228, rfl, ho0, hb⟩; obtain ⟨F228, hF0, ho0⟩ := XS_intro ho0;refine ⟨_, rfl, ?_⟩;have n0_ := z9k (XS_lower ho0 (below_size q9_10));have n1_ := z9k (blk_below (g := gb223) (o := .cells #[.slice A0_0 l0_0.length c0_0] 44 (0, 0)) q9_1 hb);have n2_ := z9k (blk_below (g := gb224) (o := .cells #[.slice A1_0 l1_0.length c1_0] 44 (0, 0)) q9_2 hb);have n3_ := z9k (below_step q9_10 hb);clear BK223 BK224 HB;have HO229 := n0_;have BK223 := n1_;have BK224 := n2_;have HB := n3_;clear n0_ n1_ n2_ n3_;(try clear hb);(try clear hb2);(try clear hk);(try clear hi);(try clear ho0); (try clear hF0);refine hK.out _ _ ⟨(blk_cell BK223.out 0).trans rfl, (blk_cell BK224.out 0).trans rfl⟩ (fun hHeld => ?_);clear hK K;refine norm_ (a' := ?_) ?_ ?_;rotate_left
          · show Act.put _ (some 29) _ = _
            simp only [Act.put, z9a, z9b, z9c, i64_w, i32_w]
            rfl
          refine two_ (i := 3) (j := 8) (Ni := some 31) (Nj := some 6) #[true, true, true, true, false, false, false, false, false, false, false] #[true, true, true, false, false, false, false, false, true, false, false] rfl rfl rfl rfl (two_of HT_.out (by kernel_rfl)) (by decide) (by decide) (fun K hK => ?_) (fun K hK => ?_)
          · skip
            refine goes_ Try.func27 (by kernel_rfl) rfl #[.agg #[.slice A1_0 l1_0.length c1_0]] (by rfl) rfl rfl q9_5 ?_
            with_reducible refine (laws_toRough.calls k _ _ l1_0 t230 _ ?side1 ?side2 A20.out).mono ?_
            (case side1 => exact q9_17);(case side2 => exact HC1_0.out);rintro e w35 ⟨v231, rfl, ho0, hb⟩; obtain ⟨F231, hF0, ho0⟩ := XS_intro ho0;refine ⟨_, rfl, ?_⟩;have n0_ := z9k (XS_elder q9_15 hF0 hb);have n1_ := z9k (XS_lower (XS_new ho0 (XS_lt q9_15)) (below_size q9_10));have n2_ := z9k (blk_below (g := gb223) (o := .cells #[.slice A0_0 l0_0.length c0_0] 44 (0, 0)) q9_1 hb);have n3_ := z9k (blk_below (g := gb224) (o := .cells #[.slice A1_0 l1_0.length c1_0] 44 (0, 0)) q9_2 hb);have n4_ := z9k (below_step q9_10 hb);clear HO229 BK223 BK224 HB;have HO229 := n0_;have HO232 := n1_;have BK223 := n2_;have BK224 := n3_;have HB := n4_;clear n0_ n1_ n2_ n3_ n4_;(try clear hb);(try clear hb2);(try clear hk);(try clear hi);(try clear ho0); (try clear hF0);obtain ⟨Ao36, co36, eo36⟩ := XS_slice HO229.out;(first | subst eo36 | (injection eo36 with f1_ f2_ f3_; have f4_ := f1_.symm; have f5_ := f3_.symm; clear f1_ f2_ f3_; subst f4_; subst f5_));obtain ⟨Ao37, co37, eo37⟩ := XS_slice HO232.out;(first | subst eo37 | (injection eo37 with f1_ f2_ f3_; have f4_ := f1_.symm; have f5_ := f3_.symm; clear f1_ f2_ f3_; subst f4_; subst f5_));refine hK.out _ _ ⟨(blk_cell BK223.out 0).trans rfl, (blk_cell BK224.out 0).trans rfl⟩ (fun hHeld => ?_);clear hK K;refine norm_ (a' := ?_) ?_ ?_;rotate_left
            · show Act.put _ (some 31) _ = _
              simp only [Act.put, z9a, z9b, z9c, i64_w, i32_w]
              rfl
            refine two_ (i := 4) (j := 8) (Ni := some 32) (Nj := some 6) #[true, true, true, true, true, false, false, false, false, false, false] #[true, true, true, true, false, false, false, false, true, false, false] rfl rfl rfl rfl (two_of HT_.out (by kernel_rfl)) (by decide) (by decide) (fun K hK => ?_) (fun K hK => ?_)
            · skip
              refine goes_ Try.func13 (by kernel_rfl) rfl #[.agg #[.slice Ao36 t227.length co36], .agg #[.slice Ao37 t230.length co37]] (by rfl) rfl rfl q9_5 ?_
              with_reducible refine (spec_RoughJoin.calls k _ _ t227 _ _ t230 t233 t236 _ ?side1 ?side2 ?side3 ?side4 A21.out).mono ?_
              (case side1 => exact q9_48);(case side2 => exact (XS_reads HO229.out).2.1);(case side3 => exact q9_49);(case side4 => exact (XS_reads HO232.out).2.1);rintro e w38 ⟨v234, rfl, ho0, hb⟩; obtain ⟨F234, hF0, ho0⟩ := XS_intro ho0;refine ⟨_, rfl, ?_⟩;have n0_ := z9k (XS_elder q9_15 hF0 hb);have n1_ := z9k (XS_elder q9_26 hF0 hb);have n2_ := z9k (XS_lower (XS_new (XS_new ho0 (XS_lt q9_15)) (XS_lt q9_26)) (below_size q9_10));have n3_ := z9k (blk_below (g := gb223) (o := .cells #[.slice A0_0 l0_0.length c0_0] 44 (0, 0)) q9_1 hb);have n4_ := z9k (blk_below (g := gb224) (o := .cells #[.slice A1_0 l1_0.length c1_0] 44 (0, 0)) q9_2 hb);have n5_ := z9k (below_step q9_10 hb);clear HO229 HO232 BK223 BK224 HB;have HO229 := n0_;have HO232 := n1_;have HO235 := n2_;have BK223 := n3_;have BK224 := n4_;have HB := n5_;clear n0_ n1_ n2_ n3_ n4_ n5_;(try clear hb);(try clear hb2);(try clear hk);(try clear hi);(try clear ho0); (try clear hF0);refine hK.out _ _ ⟨(blk_cell BK223.out 0).trans rfl, (blk_cell BK224.out 0).trans rfl⟩ (fun hHeld => ?_);clear hK K;refine norm_ (a' := ?_) ?_ ?_;rotate_left
              · show Act.put _ (some 32) _ = _
                simp only [Act.put, z9a, z9b, z9c, i64_w, i32_w]
                rfl
              refine pure_ (i := 5) (N := some 27) (v := ?_) (a' := ?_) #[true, true, true, true, true, true, false, false, false, false, false] rfl rfl (any_of HT_.out (by kernel_rfl)) (fun _ _ _ h => h) (Or.inl ⟨by rfl, ?_⟩) ?_ ?_;rotate_left
              · intro w'
                go_simp
                with_reducible rfl
              rotate_left
              · simp only [Act.put, z9a, z9b, z9c, i64_w, i32_w]
                rfl
              refine pure_ (i := 6) (N := some 33) (v := ?_) (a' := ?_) #[true, true, true, true, true, true, true, false, false, false, false] rfl rfl (any_of HT_.out (by kernel_rfl)) (fun _ _ _ h => h) (Or.inl ⟨by rfl, ?_⟩) ?_ ?_;rotate_left
              · intro w'
                go_simp
                with_reducible rfl
              rotate_left
              · simp only [Act.put, z9a, z9b, z9c, i64_w, i32_w]
                rfl
              refine pure_ (i := 7) (N := some 34) (v := ?_) (a' := ?_) #[true, true, true, true, true, true, true, true, false, false, false] rfl rfl (any_of HT_.out (by kernel_rfl)) (fun _ _ _ h => h) (Or.inl ⟨by rfl, ?_⟩) ?_ ?_;rotate_left
              · intro w'
                go_simp
                with_reducible rfl
              rotate_left
              · simp only [Act.put, z9a, z9b, z9c, i64_w, i32_w]
                rfl
              refine one_ (i := 8) (N := some 6) #[true, true, true, true, true, true, true, true, true, false, false] rfl rfl (one_of HT_.out (by kernel_rfl)) (by decide) (fun K hK => ?_);refine box_step ?hg (N := 6) ?hd (cs := #[.slice none 0 0]) (t := 25) ?hr ?_; (case hd => rfl); (case hg => rfl); (case hr => exact q9_47);intro gb237 hg w39 hbox hb;have n0_ := z9k (XS_below q9_15 hb);have n1_ := z9k (XS_below q9_26 hb);have n2_ := z9k (XS_below q9_66 hb);have n3_ := z9k (blk_below (g := gb223) (o := .cells #[.slice A0_0 l0_0.length c0_0] 44 (0, 0)) q9_1 hb);have n4_ := z9k (blk_below (g := gb224) (o := .cells #[.slice A1_0 l1_0.length c1_0] 44 (0, 0)) q9_2 hb);have n5_ := z9k (below_step q9_10 hb);have n6_ := z9k (hbox);have n7_ := z9k ((q9_107 : w.heap.size ≤ gb237));have n8_ := z9k ((q9_107 : w.heap.size ≤ gb237));have n9_ := z9k ((q9_19 : gb223 ≠ gb237));have n10_ := z9k ((q9_20 : gb237 ≠ gb223));have n11_ := z9k ((q9_27 : gb224 ≠ gb237));have n12_ := z9k ((q9_28 : gb237 ≠ gb224));clear HO229 HO232 HO235 BK223 BK224 HB;have HO229 := n0_;have HO232 := n1_;have HO235 := n2_;have BK223 := n3_;have BK224 := n4_;have HB := n5_;have BK237 := n6_;have GW237 := n7_;have GE237 := n8_;have NB223_237 := n9_;have NB237_223 := n10_;have NB224_237 := n11_;have NB237_224 := n12_;clear n0_ n1_ n2_ n3_ n4_ n5_ n6_ n7_ n8_ n9_ n10_ n11_ n12_ hb hbox hg;refine hK.out _ _ ⟨(blk_cell BK223.out 0).trans rfl, (blk_cell BK224.out 0).trans rfl⟩ (fun hHeld => ?_);clear hK K;refine norm_ (a' := ?_) ?_ ?_;rotate_left
              · show Act.put _ (some 6) _ = _
                simp only [Act.put, z9a, z9b, z9c, i64_w, i32_w]
                rfl
              exact norm_ q9_46 (hCont ((.slice Ao36 t227.length co36, .slice Ao37 t230.length co37, v234, gb237), F228, F231, F234) _ ⟨hHeld, q9_55, q9_56, q9_57, q9_1, q9_2, q9_4, GW237.out, GE237.out, NB223_237.out, NB237_223.out, NB224_237.out, NB237_224.out, q9_9⟩)
            · skip
              refine box_step ?hg (N := 6) ?hd (cs := #[.slice none 0 0]) (t := 25) ?hr ?_; (case hd => rfl); (case hg => rfl); (case hr => exact q9_47);intro gb237 hg w36 hbox hb;have n0_ := z9k (XS_below q9_15 hb);have n1_ := z9k (XS_below q9_26 hb);have n2_ := z9k (blk_below (g := gb223) (o := .cells #[.slice A0_0 l0_0.length c0_0] 44 (0, 0)) q9_1 hb);have n3_ := z9k (blk_below (g := gb224) (o := .cells #[.slice A1_0 l1_0.length c1_0] 44 (0, 0)) q9_2 hb);have n4_ := z9k (below_step q9_10 hb);have n5_ := z9k (hbox);have n6_ := z9k ((q9_107 : w.heap.size ≤ gb237));have n7_ := z9k ((q9_107 : w.heap.size ≤ gb237));have n8_ := z9k ((q9_19 : gb223 ≠ gb237));have n9_ := z9k ((q9_20 : gb237 ≠ gb223));have n10_ := z9k ((q9_27 : gb224 ≠ gb237));have n11_ := z9k ((q9_28 : gb237 ≠ gb224));clear HO229 HO232 BK223 BK224 HB;have HO229 := n0_;have HO232 := n1_;have BK223 := n2_;have BK224 := n3_;have HB := n4_;have BK237 := n5_;have GW237 := n6_;have GE237 := n7_;have NB223_237 := n8_;have NB237_223 := n9_;have NB224_237 := n10_;have NB237_224 := n11_;clear n0_ n1_ n2_ n3_ n4_ n5_ n6_ n7_ n8_ n9_ n10_ n11_ hb hbox hg;obtain ⟨Ao37, co37, eo37⟩ := XS_slice HO229.out;(first | subst eo37 | (injection eo37 with f1_ f2_ f3_; have f4_ := f1_.symm; have f5_ := f3_.symm; clear f1_ f2_ f3_; subst f4_; subst f5_));obtain ⟨Ao38, co38, eo38⟩ := XS_slice HO232.out;(first | subst eo38 | (injection eo38 with f1_ f2_ f3_; have f4_ := f1_.symm; have f5_ := f3_.symm; clear f1_ f2_ f3_; subst f4_; subst f5_));refine hK.out _ _ ⟨(blk_cell BK223.out 0).trans rfl, (blk_cell BK224.out 0).trans rfl⟩ (fun hHeld => ?_);clear hK K;refine norm_ (a' := ?_) ?_ ?_;rotate_left
              · show Act.put _ (some 6) _ = _
                simp only [Act.put, z9a, z9b, z9c, i64_w, i32_w]
                rfl
              refine one_ (i := 4) (N := some 32) #[true, true, true, true, true, false, false, false, true, false, false] rfl rfl (one_of HT_.out (by kernel_rfl)) (by decide) (fun K hK => ?_);refine goes_ Try.func13 (by kernel_rfl) rfl #[.agg #[.slice Ao37 t227.length co37], .agg #[.slice Ao38 t230.length co38]] (by rfl) rfl rfl q9_5 ?_
              with_reducible refine (spec_RoughJoin.calls k _ _ t227 _ _ t230 t233 t236 _ ?side1 ?side2 ?side3 ?side4 A21.out).mono ?_
              (case side1 => exact q9_48);(case side2 => exact (XS_reads HO229.out).2.1);(case side3 => exact q9_49);(case side4 => exact (XS_reads HO232.out).2.1);rintro e w39 ⟨v234, rfl, ho0, hb⟩; obtain ⟨F234, hF0, ho0⟩ := XS_intro ho0;refine ⟨_, rfl, ?_⟩;have n0_ := z9k (XS_elder q9_15 hF0 hb);have n1_ := z9k (XS_elder q9_26 hF0 hb);have n2_ := z9k (XS_lower (XS_new (XS_new ho0 (XS_lt q9_15)) (XS_lt q9_26)) (below_size q9_9));have n3_ := z9k (blk_below (g := gb223) (o := .cells #[.slice A0_0 l0_0.length c0_0] 44 (0, 0)) q9_1 hb);have n4_ := z9k (blk_below (g := gb224) (o := .cells #[.slice A1_0 l1_0.length c1_0] 44 (0, 0)) q9_2 hb);have n5_ := z9k (blk_below (g := gb237) (o := .cells #[.slice none 0 0] 25 (0, 0)) q9_4 hb);have n6_ := z9k (below_step q9_9 hb);clear HO229 HO232 BK223 BK224 BK237 HB;have HO229 := n0_;have HO232 := n1_;have HO235 := n2_;have BK223 := n3_;have BK224 := n4_;have BK237 := n5_;have HB := n6_;clear n0_ n1_ n2_ n3_ n4_ n5_ n6_;(try clear hb);(try clear hb2);(try clear hk);(try clear hi);(try clear ho0); (try clear hF0);refine hK.out _ _ ⟨(blk_cell BK223.out 0).trans rfl, (blk_cell BK224.out 0).trans rfl⟩ (fun hHeld => ?_);clear hK K;refine norm_ (a' := ?_) ?_ ?_;rotate_left
              · show Act.put _ (some 32) _ = _
                simp only [Act.put, z9a, z9b, z9c, i64_w, i32_w]
                rfl
              refine pure_ (i := 5) (N := some 27) (v := ?_) (a' := ?_) #[true, true, true, true, true, true, false, false, true, false, false] rfl rfl (any_of HT_.out (by kernel_rfl)) (fun _ _ _ h => h) (Or.inl ⟨by rfl, ?_⟩) ?_ ?_;rotate_left
              · intro w'
                go_simp
                with_reducible rfl
              rotate_left
              · simp only [Act.put, z9a, z9b, z9c, i64_w, i32_w]
                rfl
              refine pure_ (i := 6) (N := some 33) (v := ?_) (a' := ?_) #[true, true, true, true, true, true, true, false, true, false, false] rfl rfl (any_of HT_.out (by kernel_rfl)) (fun _ _ _ h => h) (Or.inl ⟨by rfl, ?_⟩) ?_ ?_;rotate_left
              · intro w'
                go_simp
                with_reducible rfl
              rotate_left
              · simp only [Act.put, z9a, z9b, z9c, i64_w, i32_w]
                rfl
              refine pure_ (i := 7) (N := some 34) (v := ?_) (a' := ?_) #[true, true, true, true, true, true, true, true, true, false, false] rfl rfl (any_of HT_.out (by kernel_rfl)) (fun _ _ _ h => h) (Or.inl ⟨by rfl, ?_⟩) ?_ ?_;rotate_left
              · intro w'
                go_simp
                with_reducible rfl
              rotate_left
              · simp only [Act.put, z9a, z9b, z9c, i64_w, i32_w]
                rfl
              exact norm_ q9_46 (hCont ((.slice Ao37 t227.length co37, .slice Ao38 t230.length co38, v234, gb237), F228, F231, F234) _ ⟨hHeld, q9_55, q9_56, q9_57, q9_1, q9_2, q9_4, GW237.out, GE237.out, NB223_237.out, NB237_223.out, NB224_237.out, NB237_224.out, q9_9⟩)
          · skip
            refine box_step ?hg (N := 6) ?hd (cs := #[.slice none 0 0]) (t := 25) ?hr ?_; (case hd => rfl); (case hg => rfl); (case hr => exact q9_47);intro gb237 hg w35 hbox hb;have n0_ := z9k (XS_below q9_15 hb);have n1_ := z9k (blk_below (g := gb223) (o := .cells #[.slice A0_0 l0_0.length c0_0] 44 (0, 0)) q9_1 hb);have n2_ := z9k (blk_below (g := gb224) (o := .cells #[.slice A1_0 l1_0.length c1_0] 44 (0, 0)) q9_2 hb);have n3_ := z9k (below_step q9_10 hb);have n4_ := z9k (hbox);have n5_ := z9k ((q9_107 : w.heap.size ≤ gb237));have n6_ := z9k ((q9_107 : w.heap.size ≤ gb237));have n7_ := z9k ((q9_19 : gb223 ≠ gb237));have n8_ := z9k ((q9_20 : gb237 ≠ gb223));have n9_ := z9k ((q9_27 : gb224 ≠ gb237));have n10_ := z9k ((q9_28 : gb237 ≠ gb224));clear HO229 BK223 BK224 HB;have HO229 := n0_;have BK223 := n1_;have BK224 := n2_;have HB := n3_;have BK237 := n4_;have GW237 := n5_;have GE237 := n6_;have NB223_237 := n7_;have NB237_223 := n8_;have NB224_237 := n9_;have NB237_224 := n10_;clear n0_ n1_ n2_ n3_ n4_ n5_ n6_ n7_ n8_ n9_ n10_ hb hbox hg;refine hK.out _ _ ⟨(blk_cell BK223.out 0).trans rfl, (blk_cell BK224.out 0).trans rfl⟩ (fun hHeld => ?_);clear hK K;refine norm_ (a' := ?_) ?_ ?_;rotate_left
            · show Act.put _ (some 6) _ = _
              simp only [Act.put, z9a, z9b, z9c, i64_w, i32_w]
              rfl
            refine one_ (i := 3) (N := some 31) #[true, true, true, true, false, false, false, false, true, false, false] rfl rfl (one_of HT_.out (by kernel_rfl)) (by decide) (fun K hK => ?_);refine goes_ Try.func27 (by kernel_rfl) rfl #[.agg #[.slice A1_0 l1_0.length c1_0]] (by rfl) rfl rfl q9_5 ?_
            with_reducible refine (laws_toRough.calls k _ _ l1_0 t230 _ ?side1 ?side2 A20.out).mono ?_
            (case side1 => exact q9_17);(case side2 => exact HC1_0.out);rintro e w36 ⟨v231, rfl, ho0, hb⟩; obtain ⟨F231, hF0, ho0⟩ := XS_intro ho0;refine ⟨_, rfl, ?_⟩;have n0_ := z9k (XS_elder q9_15 hF0 hb);have n1_ := z9k (XS_lower (XS_new ho0 (XS_lt q9_15)) (below_size q9_9));have n2_ := z9k (blk_below (g := gb223) (o := .cells #[.slice A0_0 l0_0.length c0_0] 44 (0, 0)) q9_1 hb);have n3_ := z9k (blk_below (g := gb224) (o := .cells #[.slice A1_0 l1_0.length c1_0] 44 (0, 0)) q9_2 hb);have n4_ := z9k (blk_below (g := gb237) (o := .cells #[.slice none 0 0] 25 (0, 0)) q9_4 hb);have n5_ := z9k (below_step q9_9 hb);clear HO229 BK223 BK224 BK237 HB;have HO229 := n0_;have HO232 := n1_;have BK223 := n2_;have BK224 := n3_;have BK237 := n4_;have HB := n5_;clear n0_ n1_ n2_ n3_ n4_ n5_;(try clear hb);(try clear hb2);(try clear hk);(try clear hi);(try clear ho0); (try clear hF0);obtain ⟨Ao37, co37, eo37⟩ := XS_slice HO229.out;(first | subst eo37 | (injection eo37 with f1_ f2_ f3_; have f4_ := f1_.symm; have f5_ := f3_.symm; clear f1_ f2_ f3_; subst f4_; subst f5_));obtain ⟨Ao38, co38, eo38⟩ := XS_slice HO232.out;(first | subst eo38 | (injection eo38 with f1_ f2_ f3_; have f4_ := f1_.symm; have f5_ := f3_.symm; clear f1_ f2_ f3_; subst f4_; subst f5_));refine hK.out _ _ ⟨(blk_cell BK223.out 0).trans rfl, (blk_cell BK224.out 0).trans rfl⟩ (fun hHeld => ?_);clear hK K;refine norm_ (a' := ?_) ?_ ?_;rotate_left
            · show Act.put _ (some 31) _ = _
              simp only [Act.put, z9a, z9b, z9c, i64_w, i32_w]
              rfl
            refine one_ (i := 4) (N := some 32) #[true, true, true, true, true, false, false, false, true, false, false] rfl rfl (one_of HT_.out (by kernel_rfl)) (by decide) (fun K hK => ?_);refine goes_ Try.func13 (by kernel_rfl) rfl #[.agg #[.slice Ao37 t227.length co37], .agg #[.slice Ao38 t230.length co38]] (by rfl) rfl rfl q9_5 ?_
            with_reducible refine (spec_RoughJoin.calls k _ _ t227 _ _ t230 t233 t236 _ ?side1 ?side2 ?side3 ?side4 A21.out).mono ?_
            (case side1 => exact q9_48);(case side2 => exact (XS_reads HO229.out).2.1);(case side3 => exact q9_49);(case side4 => exact (XS_reads HO232.out).2.1);rintro e w39 ⟨v234, rfl, ho0, hb⟩; obtain ⟨F234, hF0, ho0⟩ := XS_intro ho0;refine ⟨_, rfl, ?_⟩;have n0_ := z9k (XS_elder q9_15 hF0 hb);have n1_ := z9k (XS_elder q9_26 hF0 hb);have n2_ := z9k (XS_lower (XS_new (XS_new ho0 (XS_lt q9_15)) (XS_lt q9_26)) (below_size q9_9));have n3_ := z9k (blk_below (g := gb223) (o := .cells #[.slice A0_0 l0_0.length c0_0] 44 (0, 0)) q9_1 hb);have n4_ := z9k (blk_below (g := gb224) (o := .cells #[.slice A1_0 l1_0.length c1_0] 44 (0, 0)) q9_2 hb);have n5_ := z9k (blk_below (g := gb237) (o := .cells #[.slice none 0 0] 25 (0, 0)) q9_4 hb);have n6_ := z9k (below_step q9_9 hb);clear HO229 HO232 BK223 BK224 BK237 HB;have HO229 := n0_;have HO232 := n1_;have HO235 := n2_;have BK223 := n3_;have BK224 := n4_;have BK237 := n5_;have HB := n6_;clear n0_ n1_ n2_ n3_ n4_ n5_ n6_;(try clear hb);(try clear hb2);(try clear hk);(try clear hi);(try clear ho0); (try clear hF0);refine hK.out _ _ ⟨(blk_cell BK223.out 0).trans rfl, (blk_cell BK224.out 0).trans rfl⟩ (fun hHeld => ?_);clear hK K;refine norm_ (a' := ?_) ?_ ?_;rotate_left
            · show Act.put _ (some 32) _ = _
              simp only [Act.put, z9a, z9b, z9c, i64_w, i32_w]
              rfl
            refine pure_ (i := 5) (N := some 27) (v := ?_) (a' := ?_) #[true, true, true, true, true, true, false, false, true, false, false] rfl rfl (any_of HT_.out (by kernel_rfl)) (fun _ _ _ h => h) (Or.inl ⟨by rfl, ?_⟩) ?_ ?_;rotate_left
            · intro w'
              go_simp
              with_reducible rfl
            rotate_left
            · simp only [Act.put, z9a, z9b, z9c, i64_w, i32_w]
              rfl
            refine pure_ (i := 6) (N := some 33) (v := ?_) (a' := ?_) #[true, true, true, true, true, true, true, false, true, false, false] rfl rfl (any_of HT_.out (by kernel_rfl)) (fun _ _ _ h => h) (Or.inl ⟨by rfl, ?_⟩) ?_ ?_;rotate_left
            · intro w'
              go_simp
              with_reducible rfl
            rotate_left
            · simp only [Act.put, z9a, z9b, z9c, i64_w, i32_w]
              rfl
            refine pure_ (i := 7) (N := some 34) (v := ?_) (a' := ?_) #[true, true, true, true, true, true, true, true, true, false, false] rfl rfl (any_of HT_.out (by kernel_rfl)) (fun _ _ _ h => h) (Or.inl ⟨by rfl, ?_⟩) ?_ ?_;rotate_left
            · intro w'
              go_simp
              with_reducible rfl
            rotate_left
            · simp only [Act.put, z9a, z9b, z9c, i64_w, i32_w]
              rfl
            exact norm_ q9_46 (hCont ((.slice Ao37 t227.length co37, .slice Ao38 t230.length co38, v234, gb237), F228, F231, F234) _ ⟨hHeld, q9_55, q9_56, q9_57, q9_1, q9_2, q9_4, GW237.out, GE237.out, NB223_237.out, NB237_223.out, NB224_237.out, NB237_224.out, q9_9⟩)
        · skip
          refine box_step ?hg (N := 6) ?hd (cs := #[.slice none 0 0]) (t := 25) ?hr ?_; (case hd => rfl); (case hg => rfl); (case hr => exact q9_47);intro gb237 hg w34 hbox hb;have n0_ := z9k (blk_below (g := gb223) (o := .cells #[.slice A0_0 l0_0.length c0_0] 44 (0, 0)) q9_1 hb);have n1_ := z9k (blk_below (g := gb224) (o := .cells #[.slice A1_0 l1_0.length c1_0] 44 (0, 0)) q9_2 hb);have n2_ := z9k (below_step q9_10 hb);have n3_ := z9k (hbox);have n4_ := z9k ((q9_107 : w.heap.size ≤ gb237));have n5_ := z9k ((q9_107 : w.heap.size ≤ gb237));have n6_ := z9k ((q9_19 : gb223 ≠ gb237));have n7_ := z9k ((q9_20 : gb237 ≠ gb223));have n8_ := z9k ((q9_27 : gb224 ≠ gb237));have n9_ := z9k ((q9_28 : gb237 ≠ gb224));clear BK223 BK224 HB;have BK223 := n0_;have BK224 := n1_;have HB := n2_;have BK237 := n3_;have GW237 := n4_;have GE237 := n5_;have NB223_237 := n6_;have NB237_223 := n7_;have NB224_237 := n8_;have NB237_224 := n9_;clear n0_ n1_ n2_ n3_ n4_ n5_ n6_ n7_ n8_ n9_ hb hbox hg;refine hK.out _ _ ⟨(blk_cell BK223.out 0).trans rfl, (blk_cell BK224.out 0).trans rfl⟩ (fun hHeld => ?_);clear hK K;refine norm_ (a' := ?_) ?_ ?_;rotate_left
          · show Act.put _ (some 6) _ = _
            simp only [Act.put, z9a, z9b, z9c, i64_w, i32_w]
            rfl
          refine one_ (i := 1) (N := some 29) #[true, true, true, false, false, false, false, false, true, false, false] rfl rfl (one_of HT_.out (by kernel_rfl)) (by decide) (fun K hK => ?_);refine goes_ Try.func27 (by kernel_rfl) rfl #[.agg #[.slice A0_0 l0_0.length c0_0]] (by rfl) rfl rfl q9_5 ?_
          with_reducible refine (laws_toRough.calls k _ _ l0_0 t227 _ ?side1 ?side2 A19.out).mono ?_
          (case side1 => exact q9_16);(case side2 => exact HC0_0.out);rintro e w35 ⟨v228, rfl, ho0, hb⟩; obtain ⟨F228, hF0, ho0⟩ := XS_intro ho0;refine ⟨_, rfl, ?_⟩;have n0_ := z9k (XS_lower ho0 (below_size q9_9));have n1_ := z9k (blk_below (g := gb223) (o := .cells #[.slice A0_0 l0_0.length c0_0] 44 (0, 0)) q9_1 hb);have n2_ := z9k (blk_below (g := gb224) (o := .cells #[.slice A1_0 l1_0.length c1_0] 44 (0, 0)) q9_2 hb);have n3_ := z9k (blk_below (g := gb237) (o := .cells #[.slice none 0 0] 25 (0, 0)) q9_4 hb);have n4_ := z9k (below_step q9_9 hb);clear BK223 BK224 BK237 HB;have HO229 := n0_;have BK223 := n1_;have BK224 := n2_;have BK237 := n3_;have HB := n4_;clear n0_ n1_ n2_ n3_ n4_;(try clear hb);(try clear hb2);(try clear hk);(try clear hi);(try clear ho0); (try clear hF0);refine hK.out _ _ ⟨(blk_cell BK223.out 0).trans rfl, (blk_cell BK224.out 0).trans rfl⟩ (fun hHeld => ?_);clear hK K;refine norm_ (a' := ?_) ?_ ?_;rotate_left
          · show Act.put _ (some 29) _ = _
            simp only [Act.put, z9a, z9b, z9c, i64_w, i32_w]
            rfl
          refine one_ (i := 3) (N := some 31) #[true, true, true, true, false, false, false, false, true, false, false] rfl rfl (one_of HT_.out (by kernel_rfl)) (by decide) (fun K hK => ?_);refine goes_ Try.func27 (by kernel_rfl) rfl #[.agg #[.slice A1_0 l1_0.length c1_0]] (by rfl) rfl rfl q9_5 ?_
          with_reducible refine (laws_toRough.calls k _ _ l1_0 t230 _ ?side1 ?side2 A20.out).mono ?_
          (case side1 => exact q9_17);(case side2 => exact HC1_0.out);rintro e w36 ⟨v231, rfl, ho0, hb⟩; obtain ⟨F231, hF0, ho0⟩ := XS_intro ho0;refine ⟨_, rfl, ?_⟩;have n0_ := z9k (XS_elder q9_15 hF0 hb);have n1_ := z9k (XS_lower (XS_new ho0 (XS_lt q9_15)) (below_size q9_9));have n2_ := z9k (blk_below (g := gb223) (o := .cells #[.slice A0_0 l0_0.length c0_0] 44 (0, 0)) q9_1 hb);have n3_ := z9k (blk_below (g := gb224) (o := .cells #[.slice A1_0 l1_0.length c1_0] 44 (0, 0)) q9_2 hb);have n4_ := z9k (blk_below (g := gb237) (o := .cells #[.slice none 0 0] 25 (0, 0)) q9_4 hb);have n5_ := z9k (below_step q9_9 hb);clear HO229 BK223 BK224 BK237 HB;have HO229 := n0_;have HO232 := n1_;have BK223 := n2_;have BK224 := n3_;have BK237 := n4_;have HB := n5_;clear n0_ n1_ n2_ n3_ n4_ n5_;(try clear hb);(try clear hb2);(try clear hk);(try clear hi);(try clear ho0); (try clear hF0);obtain ⟨Ao37, co37, eo37⟩ := XS_slice HO229.out;(first | subst eo37 | (injection eo37 with f1_ f2_ f3_; have f4_ := f1_.symm; have f5_ := f3_.symm; clear f1_ f2_ f3_; subst f4_; subst f5_));obtain ⟨Ao38, co38, eo38⟩ := XS_slice HO232.out;(first | subst eo38 | (injection eo38 with f1_ f2_ f3_; have f4_ := f1_.symm; have f5_ := f3_.symm; clear f1_ f2_ f3_; subst f4_; subst f5_));refine hK.out _ _ ⟨(blk_cell BK223.out 0).trans rfl, (blk_cell BK224.out 0).trans rfl⟩ (fun hHeld => ?_);clear hK K;refine norm_ (a' := ?_) ?_ ?_;rotate_left
          · show Act.put _ (some 31) _ = _
            simp only [Act.put, z9a, z9b, z9c, i64_w, i32_w]
            rfl
          refine one_ (i := 4) (N := some 32) #[true, true, true, true, true, false, false, false, true, false, false] rfl rfl (one_of HT_.out (by kernel_rfl)) (by decide) (fun K hK => ?_);refine goes_ Try.func13 (by kernel_rfl) rfl #[.agg #[.slice Ao37 t227.length co37], .agg #[.slice Ao38 t230.length co38]] (by rfl) rfl rfl q9_5 ?_
          with_reducible refine (spec_RoughJoin.calls k _ _ t227 _ _ t230 t233 t236 _ ?side1 ?side2 ?side3 ?side4 A21.out).mono ?_
          (case side1 => exact q9_48);(case side2 => exact (XS_reads HO229.out).2.1);(case side3 => exact q9_49);(case side4 => exact (XS_reads HO232.out).2.1);rintro e w39 ⟨v234, rfl, ho0, hb⟩; obtain ⟨F234, hF0, ho0⟩ := XS_intro ho0;refine ⟨_, rfl, ?_⟩;have n0_ := z9k (XS_elder q9_15 hF0 hb);have n1_ := z9k (XS_elder q9_26 hF0 hb);have n2_ := z9k (XS_lower (XS_new (XS_new ho0 (XS_lt q9_15)) (XS_lt q9_26)) (below_size q9_9));have n3_ := z9k (blk_below (g := gb223) (o := .cells #[.slice A0_0 l0_0.length c0_0] 44 (0, 0)) q9_1 hb);have n4_ := z9k (blk_below (g := gb224) (o := .cells #[.slice A1_0 l1_0.length c1_0] 44 (0, 0)) q9_2 hb);have n5_ := z9k (blk_below (g := gb237) (o := .cells #[.slice none 0 0] 25 (0, 0)) q9_4 hb);have n6_ := z9k (below_step q9_9 hb);clear HO229 HO232 BK223 BK224 BK237 HB;have HO229 := n0_;have HO232 := n1_;have HO235 := n2_;have BK223 := n3_;have BK224 := n4_;have BK237 := n5_;have HB := n6_;clear n0_ n1_ n2_ n3_ n4_ n5_ n6_;(try clear hb);(try clear hb2);(try clear hk);(try clear hi);(try clear ho0); (try clear hF0);refine hK.out _ _ ⟨(blk_cell BK223.out 0).trans rfl, (blk_cell BK224.out 0).trans rfl⟩ (fun hHeld => ?_);clear hK K;refine norm_ (a' := ?_) ?_ ?_;rotate_left
          · show Act.put _ (some 32) _ = _
            simp only [Act.put, z9a, z9b, z9c, i64_w, i32_w]
            rfl
          refine pure_ (i := 5) (N := some 27) (v := ?_) (a' := ?_) #[true, true, true, true, true, true, false, false, true, false, false] rfl rfl (any_of HT_.out (by kernel_rfl)) (fun _ _ _ h => h) (Or.inl ⟨by rfl, ?_⟩) ?_ ?_;rotate_left
          · intro w'
            go_simp
            with_reducible rfl
          rotate_left
          · simp only [Act.put, z9a, z9b, z9c, i64_w, i32_w]
            rfl
          refine pure_ (i := 6) (N := some 33) (v := ?_) (a' := ?_) #[true, true, true, true, true, true, true, false, true, false, false] rfl rfl (any_of HT_.out (by kernel_rfl)) (fun _ _ _ h => h) (Or.inl ⟨by rfl, ?_⟩) ?_ ?_;rotate_left
          · intro w'
            go_simp
            with_reducible rfl
          rotate_left
          · simp only [Act.put, z9a, z9b, z9c, i64_w, i32_w]
            rfl
          refine pure_ (i := 7) (N := some 34) (v := ?_) (a' := ?_) #[true, true, true, true, true, true, true, true, true, false, false] rfl rfl (any_of HT_.out (by kernel_rfl)) (fun _ _ _ h => h) (Or.inl ⟨by rfl, ?_⟩) ?_ ?_;rotate_left
          · intro w'
            go_simp
            with_reducible rfl
          rotate_left
          · simp only [Act.put, z9a, z9b, z9c, i64_w, i32_w]
            rfl
          exact norm_ q9_46 (hCont ((.slice Ao37 t227.length co37, .slice Ao38 t230.length co38, v234, gb237), F228, F231, F234) _ ⟨hHeld, q9_55, q9_56, q9_57, q9_1, q9_2, q9_4, GW237.out, GE237.out, NB223_237.out, NB237_223.out, NB224_237.out, NB237_224.out, q9_9⟩)
      rintro ⟨⟨v228, v231, v234, gb237⟩, F228, F231, F234⟩ w40 ⟨hS_, h0_, h1_, h2_, h3_, h4_, h5_, h6_, h7_, h8_, h9_, h10_, h11_, h12_⟩
      have n0_ : Aside0 (XS F228 w40 w.heap.size (fun k_ => ¬ F231 k_ ∧ ¬ F234 k_) v228 t227) := ⟨h0_⟩
      have n1_ : Aside0 (XS F231 w40 w.heap.size (fun k_ => ¬ F228 k_ ∧ ¬ F234 k_) v231 t230) := ⟨h1_⟩
      have n2_ : Aside0 (XS F234 w40 w.heap.size (fun k_ => ¬ F228 k_ ∧ ¬ F231 k_) v234 t233) := ⟨h2_⟩
      have n3_ : Aside0 (w40.heap[gb223]? = some (.cells #[.slice A0_0 l0_0.length c0_0] 44 (0, 0))) := ⟨h3_⟩
      have n4_ : Aside0 (w40.heap[gb224]? = some (.cells #[.slice A1_0 l1_0.length c1_0] 44 (0, 0))) := ⟨h4_⟩
      have n5_ : Aside0 (w40.heap[gb237]? = some (.cells #[.slice none 0 0] 25 (0, 0))) := ⟨h5_⟩
      have n6_ : Aside0 (w.heap.size ≤ gb237) := ⟨h6_⟩
      have n7_ : Aside0 (w.heap.size ≤ gb237) := ⟨h7_⟩
      have n8_ : Aside0 (gb223 ≠ gb237) := ⟨h8_⟩
      have n9_ : Aside0 (gb237 ≠ gb223) := ⟨h9_⟩
      have n10_ : Aside0 (gb224 ≠ gb237) := ⟨h10_⟩
      have n11_ : Aside0 (gb237 ≠ gb224) := ⟨h11_⟩
      have n12_ : Aside0 (Below w.heap.size w w40) := ⟨h12_⟩
      clear BK223 BK224 HB h0_ h1_ h2_ h3_ h4_ h5_ h6_ h7_ h8_ h9_ h10_ h11_ h12_;have HO229 := n0_;have HO232 := n1_;have HO235 := n2_;have BK223 := n3_;have BK224 := n4_;have BK237 := n5_;have GW237 := n6_;have GE237 := n7_;have NB223_237 := n8_;have NB237_223 := n9_;have NB224_237 := n10_;have NB237_224 := n11_;have HB := n12_;clear n0_ n1_ n2_ n3_ n4_ n5_ n6_ n7_ n8_ n9_ n10_ n11_ n12_
      have hHeld : w40.cell? ⟨gb223, 0, none⟩ = some (.slice A0_0 l0_0.length c0_0) ∧ w40.cell? ⟨gb224, 0, none⟩ = some (.slice A1_0 l1_0.length c1_0) := hS_
      obtain ⟨Ao41, co41, eo41⟩ := XS_slice HO235.out;(first | subst eo41 | (injection eo41 with f1_ f2_ f3_; have f4_ := f1_.symm; have f5_ := f3_.symm; clear f1_ f2_ f3_; subst f4_; subst f5_));refine norm_ (a' := ?_) ?_ ?_;rotate_left
      · simp only [putAll, Act.put, z9a, z9b, z9c]
        rfl
      refine one_ (i := 9) (N := none) #[true, true, true, true, true, true, true, true, true, true, false] rfl rfl (one_of HT_.out (by kernel_rfl)) (by decide) (fun K hK => ?_)
      have hs42 : w40.cell? ⟨gb237, 0, none⟩ = some (.slice none 0 0) := (blk_cell BK237.out 0).trans rfl
      have hfs42 := blk_frozen BK237.out 0;have hns42_0 := NB223_237.out;have hns42_1 := NB224_237.out;have hms42_0 := NB237_223.out;have hms42_1 := NB237_224.out;refine skip_ (w1 := ?_) (by rfl) rfl ?_ ?_;rotate_left
      · go_simp
        rfl
      refine hK.out _ _ ⟨((cell_far (p := ⟨gb237, _, none⟩) NB223_237.out _).trans (hHeld.1)), ((cell_far (p := ⟨gb237, _, none⟩) NB224_237.out _).trans (hHeld.2))⟩ (fun hHeld => ?_);clear hK K;refine pure_ (i := 10) (N := some 7) (v := ?_) (a' := ?_) #[true, true, true, true, true, true, true, true, true, true, true] rfl rfl (any_of HT_.out (by kernel_rfl)) (fun _ _ _ h => h) (Or.inl ⟨by rfl, ?_⟩) ?_ ?_;rotate_left
      · intro w'
        go_simp
        with_reducible rfl
      rotate_left
      · simp only [Act.put, z9a, z9b, z9c, i64_w, i32_w]
        rfl
      refine done_ (done_of HT_.out (by kernel_rfl)) ?_;have hnb43 := NB223_237.out;have hnc43 := NB237_223.out
      have hcz44_0 : w40.cell? ⟨gb223, 0, none⟩ = some (.slice A0_0 l0_0.length c0_0) := (blk_cell BK223.out 0).trans rfl
      have hfz44_0 := blk_frozen BK223.out 0
      go_upto_region 12 with (first | ((with_reducible refine gate_callee (f := 27) rfl ?_); refine goesL_ (some 36) rfl rfl Try.func27 (by kernel_rfl) rfl #[.agg #[.slice A0_0 l0_0.length c0_0]] rfl q9_5 ?_; (with_reducible refine (laws_toRough.calls k _ _ l0_0 t238 _ ?side1 ?side2 A22.out).mono ?_); (case side1 => exact Kd.C_below HR0_0.out q9_9); (case side2 => exact HC0_0.out); rintro e w45 ⟨v239, rfl, ho0, hb⟩; obtain ⟨F239, hF0, ho0⟩ := XS_intro ho0; refine ⟨_, rfl, ?_⟩; have n0_ := z9k (XS_elder q9_86 hF0 hb); have n1_ := z9k (XS_elder q9_87 hF0 hb); have n2_ := z9k (XS_elder q9_88 hF0 hb); have n3_ := z9k (XS_lower (XS_new (XS_new (XS_new ho0 (XS_lt q9_86)) (XS_lt q9_87)) (XS_lt q9_88)) (below_size q9_9)); have n4_ := z9k (blk_below (g := gb223) (o := .cells #[.slice A0_0 l0_0.length c0_0] 44 (0, 0)) (by (with_reducible repeat (first | refine blk_drewN ?_ _ | refine blk_drew ?_ | refine blk_alloc ?_ _)); refine blk_far ?_ NB223_237.out _; (with_reducible repeat (first | refine blk_drewN ?_ _ | refine blk_drew ?_ | refine blk_alloc ?_ _)); exact BK223.out) hb); have n5_ := z9k (blk_below (g := gb224) (o := .cells #[.slice A1_0 l1_0.length c1_0] 44 (0, 0)) (by (with_reducible repeat (first | refine blk_drewN ?_ _ | refine blk_drew ?_ | refine blk_alloc ?_ _)); refine blk_far ?_ NB224_237.out _; (with_reducible repeat (first | refine blk_drewN ?_ _ | refine blk_drew ?_ | refine blk_alloc ?_ _)); exact BK224.out) hb); have n6_ := z9k (blk_below (g := gb237) (o := .cells #[.slice Ao41 t233.length co41] 25 (0, 0)) (by (with_reducible repeat (first | refine blk_drewN ?_ _ | refine blk_drew ?_ | refine blk_alloc ?_ _)); refine blk_put (cs := #[.slice none 0 0]) ?_ 0 _ rfl; (with_reducible repeat (first | refine blk_drewN ?_ _ | refine blk_drew ?_ | refine blk_alloc ?_ _)); exact BK237.out) hb); have n7_ := z9k (below_step q9_9 hb); clear HO229; clear HO232; clear HO235; clear BK223; clear BK224; clear BK237; clear HB; have HO229 := n0_; have HO232 := n1_; have HO235 := n2_; have HO240 := n3_; have BK223 := n4_; have BK224 := n5_; have BK237 := n6_; have HB := n7_; clear n0_ n1_ n2_ n3_ n4_ n5_ n6_ n7_; (try clear hb); (try clear hb2); (try clear hk); (try clear hi); (try clear ho0); (try clear hF0)) | ((with_reducible refine gate_dst (N := 8) rfl ?_); refine box_event ?hg (N := 8) ?hd (cs := #[.slice none 0 0]) (t := 25) ?hr ?_; (case hd => rfl); (case hg => rfl); (case hr => exact q9_47); intro gb241 hg w46 hbox hb; have n0_ := z9k (XS_below q9_15 hb); have n1_ := z9k (XS_below q9_26 hb); have n2_ := z9k (XS_below q9_66 hb); have n3_ := z9k (XS_below q9_108 hb); have n4_ := z9k (blk_below (g := gb223) (o := .cells #[.slice A0_0 l0_0.length c0_0] 44 (0, 0)) q9_1 hb); have n5_ := z9k (blk_below (g := gb224) (o := .cells #[.slice A1_0 l1_0.length c1_0] 44 (0, 0)) q9_2 hb); have n6_ := z9k (blk_below (g := gb237) (o := .cells #[.slice Ao41 t233.length co41] 25 (0, 0)) q9_4 hb); have n7_ := z9k (below_step q9_9 hb); have n8_ := z9k (hbox); have n9_ := z9k ((by rw [hg]; exact (below_size q9_9) : w.heap.size ≤ gb241)); have n10_ := z9k ((by rw [hg]; exact (below_size q9_9) : w.heap.size ≤ gb241)); have n11_ := z9k ((q9_19 : gb223 ≠ gb241)); have n12_ := z9k ((q9_20 : gb241 ≠ gb223)); have n13_ := z9k ((q9_27 : gb224 ≠ gb241)); have n14_ := z9k ((q9_28 : gb241 ≠ gb224)); have n15_ := z9k ((q9_44 : gb237 ≠ gb241)); have n16_ := z9k ((q9_45 : gb241 ≠ gb237)); clear HO229; clear HO232; clear HO235; clear HO240; clear BK223; clear BK224; clear BK237; clear HB; have HO229 := n0_; have HO232 := n1_; have HO235 := n2_; have HO240 := n3_; have BK223 := n4_; have BK224 := n5_; have BK237 := n6_; have HB := n7_; have BK241 := n8_; have GW241 := n9_; have GE241 := n10_; have NB223_241 := n11_; have NB241_223 := n12_; have NB224_241 := n13_; have NB241_224 := n14_; have NB237_241 := n15_; have NB241_237 := n16_; clear n0_ n1_ n2_ n3_ n4_ n5_ n6_ n7_ n8_ n9_ n10_ n11_ n12_ n13_ n14_ n15_ n16_; clear hb hbox hg; obtain ⟨Ao47, co47, eo47⟩ := XS_slice HO240.out; subst eo47; have hnb48 := NB241_223.out; have hnc48 := NB223_241.out; have hnb49 := NB241_224.out; have hnc49 := NB224_241.out; have hnb50 := NB241_237.out; have hnc50 := NB237_241.out; have hcz51_0 : w46.cell? ⟨gb241, 0, none⟩ = some (.slice none 0 0) := (blk_cell BK241.out 0).trans rfl; have hfz51_0 := blk_frozen BK241.out 0; have hnb52 := NB224_237.out; have hnc52 := NB237_224.out; have hcz53_0 : w46.cell? ⟨gb224, 0, none⟩ = some (.slice A1_0 l1_0.length c1_0) := (blk_cell BK224.out 0).trans rfl; have hfz53_0 := blk_frozen BK224.out 0) | ((with_reducible refine gate_callee (f := 27) rfl ?_); refine goesL_ (some 38) rfl rfl Try.func27 (by kernel_rfl) rfl #[.agg #[.slice A1_0 l1_0.length c1_0]] rfl q9_5 ?_; (with_reducible refine (laws_toRough.calls k _ _ l1_0 t242 _ ?side1 ?side2 A23.out).mono ?_); (case side1 => exact Kd.C_below HR1_0.out q9_22); (case side2 => exact HC1_0.out); rintro e w54 ⟨v243, rfl, ho0, hb⟩; obtain ⟨F243, hF0, ho0⟩ := XS_intro ho0; refine ⟨_, rfl, ?_⟩; have n0_ := z9k (XS_elder q9_89 hF0 hb); have n1_ := z9k (XS_elder q9_90 hF0 hb); have n2_ := z9k (XS_elder q9_91 hF0 hb); have n3_ := z9k (XS_elder q9_92 hF0 hb); have n4_ := z9k (XS_lower (XS_new (XS_new (XS_new (XS_new ho0 (XS_lt q9_89)) (XS_lt q9_90)) (XS_lt q9_91)) (XS_lt q9_92)) (below_size q9_22)); have n5_ := z9k (blk_below (g := gb223) (o := .cells #[.slice A0_0 l0_0.length c0_0] 44 (0, 0)) (by (with_reducible repeat (first | refine blk_drewN ?_ _ | refine blk_drew ?_ | refine blk_alloc ?_ _)); refine blk_far ?_ NB223_241.out _; (with_reducible repeat (first | refine blk_drewN ?_ _ | refine blk_drew ?_ | refine blk_alloc ?_ _)); exact BK223.out) hb); have n6_ := z9k (blk_below (g := gb224) (o := .cells #[.slice A1_0 l1_0.length c1_0] 44 (0, 0)) (by (with_reducible repeat (first | refine blk_drewN ?_ _ | refine blk_drew ?_ | refine blk_alloc ?_ _)); refine blk_far ?_ NB224_241.out _; (with_reducible repeat (first | refine blk_drewN ?_ _ | refine blk_drew ?_ | refine blk_alloc ?_ _)); exact BK224.out) hb); have n7_ := z9k (blk_below (g := gb237) (o := .cells #[.slice Ao41 t233.length co41] 25 (0, 0)) (by (with_reducible repeat (first | refine blk_drewN ?_ _ | refine blk_drew ?_ | refine blk_alloc ?_ _)); refine blk_far ?_ NB237_241.out _; (with_reducible repeat (first | refine blk_drewN ?_ _ | refine blk_drew ?_ | refine blk_alloc ?_ _)); exact BK237.out) hb); have n8_ := z9k (blk_below (g := gb241) (o := .cells #[.slice Ao47 t238.length co47] 25 (0, 0)) (by (with_reducible repeat (first | refine blk_drewN ?_ _ | refine blk_drew ?_ | refine blk_alloc ?_ _)); refine blk_put (cs := #[.slice none 0 0]) ?_ 0 _ rfl; (with_reducible repeat (first | refine blk_drewN ?_ _ | refine blk_drew ?_ | refine blk_alloc ?_ _)); exact BK241.out) hb); have n9_ := z9k (below_step q9_22 hb); clear HO229; clear HO232; clear HO235; clear HO240; clear BK223; clear BK224; clear BK237; clear BK241; clear HB; have HO229 := n0_; have HO232 := n1_; have HO235 := n2_; have HO240 := n3_; have HO244 := n4_; have BK223 := n5_; have BK224 := n6_; have BK237 := n7_; have BK241 := n8_; have HB := n9_; clear n0_ n1_ n2_ n3_ n4_ n5_ n6_ n7_ n8_ n9_; (try clear hb); (try clear hb2); (try clear hk); (try clear hi); (try clear ho0); (try clear hF0)) | ((with_reducible refine gate_dst (N := 9) rfl ?_); refine box_event ?hg (N := 9) ?hd (cs := #[.slice none 0 0]) (t := 25) ?hr ?_; (case hd => rfl); (case hg => rfl); (case hr => exact q9_47); intro gb245 hg w55 hbox hb; have n0_ := z9k (XS_below q9_15 hb); have n1_ := z9k (XS_below q9_26 hb); have n2_ := z9k (XS_below q9_66 hb); have n3_ := z9k (XS_below q9_108 hb); have n4_ := z9k (XS_below q9_117 hb); have n5_ := z9k (blk_below (g := gb223) (o := .cells #[.slice A0_0 l0_0.length c0_0] 44 (0, 0)) q9_1 hb); have n6_ := z9k (blk_below (g := gb224) (o := .cells #[.slice A1_0 l1_0.length c1_0] 44 (0, 0)) q9_2 hb); have n7_ := z9k (blk_below (g := gb237) (o := .cells #[.slice Ao41 t233.length co41] 25 (0, 0)) q9_4 hb); have n8_ := z9k (blk_below (g := gb241) (o := .cells #[.slice Ao47 t238.length co47] 25 (0, 0)) q9_6 hb); have n9_ := z9k (below_step q9_22 hb); have n10_ := z9k (hbox); have n11_ := z9k ((by rw [hg]; exact (below_size q9_22) : w.heap.size ≤ gb245)); have n12_ := z9k ((by rw [hg]; exact (below_size q9_22) : w.heap.size ≤ gb245)); have n13_ := z9k ((q9_19 : gb223 ≠ gb245)); have n14_ := z9k ((q9_20 : gb245 ≠ gb223)); have n15_ := z9k ((q9_27 : gb224 ≠ gb245)); have n16_ := z9k ((q9_28 : gb245 ≠ gb224)); have n17_ := z9k ((q9_44 : gb237 ≠ gb245)); have n18_ := z9k ((q9_45 : gb245 ≠ gb237)); have n19_ := z9k ((q9_115 : gb241 ≠ gb245)); have n20_ := z9k ((q9_116 : gb245 ≠ gb241)); clear HO229; clear HO232; clear HO235; clear HO240; clear HO244; clear BK223; clear BK224; clear BK237; clear BK241; clear HB; have HO229 := n0_; have HO232 := n1_; have HO235 := n2_; have HO240 := n3_; have HO244 := n4_; have BK223 := n5_; have BK224 := n6_; have BK237 := n7_; have BK241 := n8_; have HB := n9_; have BK245 := n10_; have GW245 := n11_; have GE245 := n12_; have NB223_245 := n13_; have NB245_223 := n14_; have NB224_245 := n15_; have NB245_224 := n16_; have NB237_245 := n17_; have NB245_237 := n18_; have NB241_245 := n19_; have NB245_241 := n20_; clear n0_ n1_ n2_ n3_ n4_ n5_ n6_ n7_ n8_ n9_ n10_ n11_ n12_ n13_ n14_ n15_ n16_ n17_ n18_ n19_ n20_; clear hb hbox hg; obtain ⟨Ao56, co56, eo56⟩ := XS_slice HO244.out; subst eo56; have hnb57 := NB245_223.out; have hnc57 := NB223_245.out; have hnb58 := NB245_224.out; have hnc58 := NB224_245.out; have hnb59 := NB245_237.out; have hnc59 := NB237_245.out; have hnb60 := NB245_241.out; have hnc60 := NB241_245.out; have hcz61_0 : w55.cell? ⟨gb245, 0, none⟩ = some (.slice none 0 0) := (blk_cell BK245.out 0).trans rfl; have hfz61_0 := blk_frozen BK245.out 0; have hcz62_0 : w55.cell? ⟨gb241, 0, none⟩ = some (.slice Ao47 t238.length co47) := (blk_cell BK241.out 0).trans rfl; have hfz62_0 := blk_frozen BK241.out 0) | ((with_reducible refine gate_callee (f := 14) rfl ?_); refine goesL_ (some 42) rfl rfl Try.func14 (by kernel_rfl) rfl #[.agg #[.slice Ao47 t238.length co47], .agg #[.slice Ao56 t242.length co56]] rfl q9_5 ?_; (with_reducible refine (impl_RoughJoin.calls k _ _ t238 _ _ t242 t246 t249 _ ?side1 ?side2 ?side3 ?side4 A24.out).mono ?_); (case side1 => refine (XS_reads (F := F239) (base := w.heap.size) (ok := fun k_ => ((((True ∧ ¬ F228 k_) ∧ ¬ F231 k_) ∧ ¬ F234 k_) ∧ ¬ F243 k_)) (n := t238.length) (c := co47) ?_).2.2; exact q9_52); (case side2 => exact (XS_reads HO240.out).2.1); (case side3 => refine (XS_reads (F := F243) (base := w.heap.size) (ok := fun k_ => ((((True ∧ ¬ F228 k_) ∧ ¬ F231 k_) ∧ ¬ F234 k_) ∧ ¬ F239 k_)) (n := t242.length) (c := co56) ?_).2.2; exact q9_53); (case side4 => exact (XS_reads HO244.out).2.1); rintro e w63 ⟨v247, rfl, ho0, hb⟩; obtain ⟨F247, hF0, ho0⟩ := XS_intro ho0; refine ⟨_, rfl, ?_⟩; have n0_ := z9k (XS_elder q9_93 hF0 hb); have n1_ := z9k (XS_elder q9_94 hF0 hb); have n2_ := z9k (XS_elder q9_95 hF0 hb); have n3_ := z9k (XS_elder q9_52 hF0 hb); have n4_ := z9k (XS_elder q9_53 hF0 hb); have n5_ := z9k (XS_lower (XS_new (XS_new (XS_new (XS_new (XS_new ho0 (XS_lt q9_93)) (XS_lt q9_94)) (XS_lt q9_95)) (XS_lt q9_52)) (XS_lt q9_53)) (below_size q9_25)); have n6_ := z9k (blk_below (g := gb223) (o := .cells #[.slice A0_0 l0_0.length c0_0] 44 (0, 0)) (by (with_reducible repeat (first | refine blk_drewN ?_ _ | refine blk_drew ?_ | refine blk_alloc ?_ _)); refine blk_far ?_ NB223_245.out _; (with_reducible repeat (first | refine blk_drewN ?_ _ | refine blk_drew ?_ | refine blk_alloc ?_ _)); exact BK223.out) hb); have n7_ := z9k (blk_below (g := gb224) (o := .cells #[.slice A1_0 l1_0.length c1_0] 44 (0, 0)) (by (with_reducible repeat (first | refine blk_drewN ?_ _ | refine blk_drew ?_ | refine blk_alloc ?_ _)); refine blk_far ?_ NB224_245.out _; (with_reducible repeat (first | refine blk_drewN ?_ _ | refine blk_drew ?_ | refine blk_alloc ?_ _)); exact BK224.out) hb); have n8_ := z9k (blk_below (g := gb237) (o := .cells #[.slice Ao41 t233.length co41] 25 (0, 0)) (by (with_reducible repeat (first | refine blk_drewN ?_ _ | refine blk_drew ?_ | refine blk_alloc ?_ _)); refine blk_far ?_ NB237_245.out _; (with_reducible repeat (first | refine blk_drewN ?_ _ | refine blk_drew ?_ | refine blk_alloc ?_ _)); exact BK237.out) hb); have n9_ := z9k (blk_below (g := gb241) (o := .cells #[.slice Ao47 t238.length co47] 25 (0, 0)) (by (with_reducible repeat (first | refine blk_drewN ?_ _ | refine blk_drew ?_ | refine blk_alloc ?_ _)); refine blk_far ?_ NB241_245.out _; (with_reducible repeat (first | refine blk_drewN ?_ _ | refine blk_drew ?_ | refine blk_alloc ?_ _)); exact BK241.out) hb); have n10_ := z9k (blk_below (g := gb245) (o := .cells #[.slice Ao56 t242.length co56] 25 (0, 0)) (by (with_reducible repeat (first | refine blk_drewN ?_ _ | refine blk_drew ?_ | refine blk_alloc ?_ _)); refine blk_put (cs := #[.slice none 0 0]) ?_ 0 _ rfl; (with_reducible repeat (first | refine blk_drewN ?_ _ | refine blk_drew ?_ | refine blk_alloc ?_ _)); exact BK245.out) hb); have n11_ := z9k (below_step q9_25 hb); clear HO229; clear HO232; clear HO235; clear HO240; clear HO244; clear BK223; clear BK224; clear BK237; clear BK241; clear BK245; clear HB; have HO229 := n0_; have HO232 := n1_; have HO235 := n2_; have HO240 := n3_; have HO244 := n4_; have HO248 := n5_; have BK223 := n6_; have BK224 := n7_; have BK237 := n8_; have BK241 := n9_; have BK245 := n10_; have HB := n11_; clear n0_ n1_ n2_ n3_ n4_ n5_ n6_ n7_ n8_ n9_ n10_ n11_; (try clear hb); (try clear hb2); (try clear hk); (try clear hi); (try clear ho0); (try clear hF0)) | ((with_reducible refine gate_dst (N := 10) rfl ?_); refine box_event ?hg (N := 10) ?hd (cs := #[.slice none 0 0]) (t := 25) ?hr ?_; (case hd => rfl); (case hg => rfl); (case hr => exact q9_47); intro gb250 hg w64 hbox hb; have n0_ := z9k (XS_below q9_15 hb); have n1_ := z9k (XS_below q9_26 hb); have n2_ := z9k (XS_below q9_66 hb); have n3_ := z9k (XS_below q9_108 hb); have n4_ := z9k (XS_below q9_117 hb); have n5_ := z9k (XS_below (by (with_reducible repeat (first | apply XS_alloc | apply XS_drewN | apply XS_drew)); exact HO248.out) hb); have n6_ := z9k (blk_below (g := gb223) (o := .cells #[.slice A0_0 l0_0.length c0_0] 44 (0, 0)) q9_1 hb); have n7_ := z9k (blk_below (g := gb224) (o := .cells #[.slice A1_0 l1_0.length c1_0] 44 (0, 0)) q9_2 hb); have n8_ := z9k (blk_below (g := gb237) (o := .cells #[.slice Ao41 t233.length co41] 25 (0, 0)) q9_4 hb); have n9_ := z9k (blk_below (g := gb241) (o := .cells #[.slice Ao47 t238.length co47] 25 (0, 0)) q9_6 hb); have n10_ := z9k (blk_below (g := gb245) (o := .cells #[.slice Ao56 t242.length co56] 25 (0, 0)) q9_7 hb); have n11_ := z9k (below_step q9_25 hb); have n12_ := z9k (hbox); have n13_ := z9k ((by rw [hg]; exact (below_size q9_25) : w.heap.size ≤ gb250)); have n14_ := z9k ((by rw [hg]; exact (below_size q9_25) : w.heap.size ≤ gb250)); have n15_ := z9k ((q9_19 : gb223 ≠ gb250)); have n16_ := z9k ((q9_20 : gb250 ≠ gb223)); have n17_ := z9k ((q9_27 : gb224 ≠ gb250)); have n18_ := z9k ((q9_28 : gb250 ≠ gb224)); have n19_ := z9k ((q9_44 : gb237 ≠ gb250)); have n20_ := z9k ((q9_45 : gb250 ≠ gb237)); have n21_ := z9k ((q9_115 : gb241 ≠ gb250)); have n22_ := z9k ((q9_116 : gb250 ≠ gb241)); have n23_ := z9k ((by rw [hg]; exact Nat.ne_of_lt (blk_lt (g := gb245) (o := .cells #[.slice Ao56 t242.length co56] 25 (0, 0)) q9_7) : gb245 ≠ gb250)); have n24_ := z9k ((by rw [hg]; exact Nat.ne_of_gt (blk_lt (g := gb245) (o := .cells #[.slice Ao56 t242.length co56] 25 (0, 0)) q9_7) : gb250 ≠ gb245)); clear HO229; clear HO232; clear HO235; clear HO240; clear HO244; clear HO248; clear BK223; clear BK224; clear BK237; clear BK241; clear BK245; clear HB; have HO229 := n0_; have HO232 := n1_; have HO235 := n2_; have HO240 := n3_; have HO244 := n4_; have HO248 := n5_; have BK223 := n6_; have BK224 := n7_; have BK237 := n8_; have BK241 := n9_; have BK245 := n10_; have HB := n11_; have BK250 := n12_; have GW250 := n13_; have GE250 := n14_; have NB223_250 := n15_; have NB250_223 := n16_; have NB224_250 := n17_; have NB250_224 := n18_; have NB237_250 := n19_; have NB250_237 := n20_; have NB241_250 := n21_; have NB250_241 := n22_; have NB245_250 := n23_; have NB250_245 := n24_; clear n0_ n1_ n2_ n3_ n4_ n5_ n6_ n7_ n8_ n9_ n10_ n11_ n12_ n13_ n14_ n15_ n16_ n17_ n18_ n19_ n20_ n21_ n22_ n23_ n24_; clear hb hbox hg; obtain ⟨Ao65, co65, eo65⟩ := XS_slice HO248.out; subst eo65; have hnb66 := NB250_223.out; have hnc66 := NB223_250.out; have hnb67 := NB250_224.out; have hnc67 := NB224_250.out; have hnb68 := NB250_237.out; have hnc68 := NB237_250.out; have hnb69 := NB250_241.out; have hnc69 := NB241_250.out; have hnb70 := NB250_245.out; have hnc70 := NB245_250.out; have hcz71_0 : w64.cell? ⟨gb250, 0, none⟩ = some (.slice none 0 0) := (blk_cell BK250.out 0).trans rfl; have hfz71_0 := blk_frozen BK250.out 0))
      (try simp only [Act.put, z9a, z9b, z9c])
      go_cut [53] (fun v53 wc => ∃ (kq : Nat) (x53_24 : Bool), v53 = .bool x53_24 ∧ Aside0 (laws_FnExactRoughJoin.j0 kq t236 t249 x53_24 l0_0 l1_0 t233 t238 t242 t246 = some r) ∧ Aside0 (kq ≤ k) ∧ Aside0 (XS F234 wc w.heap.size (fun k_ => ¬ F239 k_ ∧ ¬ F243 k_ ∧ ¬ F247 k_) (.slice Ao41 t233.length co41) t233) ∧ Aside0 (XS F239 wc w.heap.size (fun k_ => ¬ F234 k_ ∧ ¬ F243 k_ ∧ ¬ F247 k_) (.slice Ao47 t238.length co47) t238) ∧ Aside0 (XS F243 wc w.heap.size (fun k_ => ¬ F234 k_ ∧ ¬ F239 k_ ∧ ¬ F247 k_) (.slice Ao56 t242.length co56) t242) ∧ Aside0 (XS F247 wc w.heap.size (fun k_ => ¬ F234 k_ ∧ ¬ F239 k_ ∧ ¬ F243 k_) (.slice Ao65 t246.length co65) t246) ∧ Aside0 (wc.heap[gb223]? = some (.cells #[(.slice A0_0 l0_0.length c0_0)] 44 (0, 0))) ∧ Aside0 (wc.heap[gb224]? = some (.cells #[(.slice A1_0 l1_0.length c1_0)] 44 (0, 0))) ∧ Aside0 (wc.heap[gb237]? = some (.cells #[(.slice Ao41 t233.length co41)] 25 (0, 0))) ∧ Aside0 (wc.heap[gb241]? = some (.cells #[(.slice Ao47 t238.length co47)] 25 (0, 0))) ∧ Aside0 (wc.heap[gb245]? = some (.cells #[(.slice Ao56 t242.length co56)] 25 (0, 0))) ∧ Aside0 (wc.heap[gb250]? = some (.cells #[(.slice Ao65 t246.length co65)] 25 (0, 0))) ∧ Aside0 (Below w.heap.size w wc))
      case first =>
        have H := HC25.out;clear HC25
        replace H := Option.bind_eq_some_iff.mp H
        obtain ⟨t251, A720, H⟩ := H
        replace H : (if t251 = true then (laws_FnExactRoughJoin.j0 k t236 t249 (t249 != t236) l0_0 l1_0 t233 t238 t242 t246) else (laws_FnExactRoughJoin.j0 k t236 t249 true l0_0 l1_0 t233 t238 t242 t246)) = some r := H
        have A72 := Aside0.mk A720;clear A720
        by_cases c73 : t251 = true
        · subst c73
          have H1 : (laws_FnExactRoughJoin.j0 k t236 t249 (t249 != t236) l0_0 l1_0 t233 t238 t242 t246) = some r := by rw [if_pos rfl] at H; exact H
          clear H;have H := H1;clear H1
          have H' := Aside0.mk H
          clear H;have hnb74 := NB250_223.out;have hnc74 := NB223_250.out;have hnb75 := NB250_224.out;have hnc75 := NB224_250.out;have hnb76 := NB250_237.out;have hnc76 := NB237_250.out;have hnb77 := NB250_241.out;have hnc77 := NB241_250.out;have hnb78 := NB250_245.out;have hnc78 := NB245_250.out
          have hcz79_0 : w64.cell? ⟨gb250, 0, none⟩ = some (.slice none 0 0) := (blk_cell BK250.out 0).trans rfl
          have hfz79_0 := blk_frozen BK250.out 0;have hnb80 := NB237_223.out;have hnc80 := NB223_237.out;have hnb81 := NB237_224.out;have hnc81 := NB224_237.out;have hnb82 := NB237_241.out;have hnc82 := NB241_237.out;have hnb83 := NB237_245.out;have hnc83 := NB245_237.out
          have hcz84_0 : w64.cell? ⟨gb237, 0, none⟩ = some (.slice Ao41 t233.length co41) := (blk_cell BK237.out 0).trans rfl
          have hfz84_0 := blk_frozen BK237.out 0
          go_wp2_with (first | ((with_reducible refine gate_callee (f := 28) rfl ?_); refine goesL_ (some 47) rfl rfl Try.func28 (by kernel_rfl) rfl #[.agg #[.slice Ao65 t246.length co65], .agg #[.slice Ao41 t233.length co41]] rfl q9_5 ?_; (with_reducible refine (laws_eqRough.calls k _ _ t246 _ _ t233 true _ ?side1 ?side2 ?side3 ?side4 A72.out).mono ?_); (case side1 => exact q9_103); (case side2 => exact (XS_reads HO248.out).2.1); (case side3 => exact q9_105); (case side4 => exact (XS_reads HO235.out).2.1); rintro e w85 ⟨rfl, hb⟩; refine ⟨_, rfl, ?_⟩; have n0_ := z9k (XS_below q9_96 hb); have n1_ := z9k (XS_below q9_97 hb); have n2_ := z9k (XS_below q9_36 hb); have n3_ := z9k (XS_below q9_98 hb); have n4_ := z9k (XS_below q9_99 hb); have n5_ := z9k (XS_below q9_35 hb); have n6_ := z9k (blk_below (g := gb223) (o := .cells #[.slice A0_0 l0_0.length c0_0] 44 (0, 0)) q9_70 hb); have n7_ := z9k (blk_below (g := gb224) (o := .cells #[.slice A1_0 l1_0.length c1_0] 44 (0, 0)) q9_71 hb); have n8_ := z9k (blk_below (g := gb237) (o := .cells #[.slice Ao41 t233.length co41] 25 (0, 0)) q9_72 hb); have n9_ := z9k (blk_below (g := gb241) (o := .cells #[.slice Ao47 t238.length co47] 25 (0, 0)) q9_73 hb); have n10_ := z9k (blk_below (g := gb245) (o := .cells #[.slice Ao56 t242.length co56] 25 (0, 0)) q9_74 hb); have n11_ := z9k (blk_below (g := gb250) (o := .cells #[.slice Ao65 t246.length co65] 25 (0, 0)) q9_68 hb); have n12_ := z9k (below_step q9_0 hb); clear HO229; clear HO232; clear HO235; clear HO240; clear HO244; clear HO248; clear BK223; clear BK224; clear BK237; clear BK241; clear BK245; clear BK250; clear HB; have HO229 := n0_; have HO232 := n1_; have HO235 := n2_; have HO240 := n3_; have HO244 := n4_; have HO248 := n5_; have BK223 := n6_; have BK224 := n7_; have BK237 := n8_; have BK241 := n9_; have BK245 := n10_; have BK250 := n11_; have HB := n12_; clear n0_ n1_ n2_ n3_ n4_ n5_ n6_ n7_ n8_ n9_ n10_ n11_ n12_; (try clear hb); (try clear hb2); (try clear hk); (try clear hi)))
          go_meet
          case rel => exact ⟨_, ((t249 != t236)), q9_100, H', ⟨by first | omega | exact Nat.le_refl _⟩, ⟨by (with_reducible repeat (first | apply XS_alloc | apply XS_drewN | apply XS_drew)); exact XS_mono HO235.out (fun _ hk => ⟨hk.1.1.2, ⟨hk.1.2, hk.2⟩⟩)⟩, ⟨by (with_reducible repeat (first | apply XS_alloc | apply XS_drewN | apply XS_drew)); exact XS_mono HO240.out (fun _ hk => ⟨hk.1.1.2, ⟨hk.1.2, hk.2⟩⟩)⟩, ⟨by (with_reducible repeat (first | apply XS_alloc | apply XS_drewN | apply XS_drew)); exact XS_mono HO244.out (fun _ hk => ⟨hk.1.1.2, ⟨hk.1.2, hk.2⟩⟩)⟩, ⟨by (with_reducible repeat (first | apply XS_alloc | apply XS_drewN | apply XS_drew)); exact XS_mono HO248.out (fun _ hk => ⟨hk.1.1.2, ⟨hk.1.2, hk.2⟩⟩)⟩, ⟨by (with_reducible repeat (first | refine blk_drewN ?_ _ | refine blk_drew ?_ | refine blk_alloc ?_ _)); exact BK223.out⟩, ⟨by (with_reducible repeat (first | refine blk_drewN ?_ _ | refine blk_drew ?_ | refine blk_alloc ?_ _)); exact BK224.out⟩, ⟨by (with_reducible repeat (first | refine blk_drewN ?_ _ | refine blk_drew ?_ | refine blk_alloc ?_ _)); exact BK237.out⟩, ⟨by (with_reducible repeat (first | refine blk_drewN ?_ _ | refine blk_drew ?_ | refine blk_alloc ?_ _)); exact BK241.out⟩, ⟨by (with_reducible repeat (first | refine blk_drewN ?_ _ | refine blk_drew ?_ | refine blk_alloc ?_ _)); exact BK245.out⟩, ⟨by (with_reducible repeat (first | refine blk_drewN ?_ _ | refine blk_drew ?_ | refine blk_alloc ?_ _)); exact BK250.out⟩, ⟨q9_0⟩⟩
        · replace c73 := Bool.eq_false_iff.mpr c73
          subst c73
          have H1 : (laws_FnExactRoughJoin.j0 k t236 t249 true l0_0 l1_0 t233 t238 t242 t246) = some r := by rw [if_neg (show ¬ (false = true) by decide)] at H; exact H
          clear H;have H := H1;clear H1
          have H' := Aside0.mk H
          clear H;have hnb86 := NB250_223.out;have hnc86 := NB223_250.out;have hnb87 := NB250_224.out;have hnc87 := NB224_250.out;have hnb88 := NB250_237.out;have hnc88 := NB237_250.out;have hnb89 := NB250_241.out;have hnc89 := NB241_250.out;have hnb90 := NB250_245.out;have hnc90 := NB245_250.out
          have hcz91_0 : w64.cell? ⟨gb250, 0, none⟩ = some (.slice none 0 0) := (blk_cell BK250.out 0).trans rfl
          have hfz91_0 := blk_frozen BK250.out 0;have hnb92 := NB237_223.out;have hnc92 := NB223_237.out;have hnb93 := NB237_224.out;have hnc93 := NB224_237.out;have hnb94 := NB237_241.out;have hnc94 := NB241_237.out;have hnb95 := NB237_245.out;have hnc95 := NB245_237.out
          have hcz96_0 : w64.cell? ⟨gb237, 0, none⟩ = some (.slice Ao41 t233.length co41) := (blk_cell BK237.out 0).trans rfl
          have hfz96_0 := blk_frozen BK237.out 0
          go_wp2_with (first | ((with_reducible refine gate_callee (f := 28) rfl ?_); refine goesL_ (some 47) rfl rfl Try.func28 (by kernel_rfl) rfl #[.agg #[.slice Ao65 t246.length co65], .agg #[.slice Ao41 t233.length co41]] rfl q9_5 ?_; (with_reducible refine (laws_eqRough.calls k _ _ t246 _ _ t233 false _ ?side1 ?side2 ?side3 ?side4 A72.out).mono ?_); (case side1 => exact q9_103); (case side2 => exact (XS_reads HO248.out).2.1); (case side3 => exact q9_105); (case side4 => exact (XS_reads HO235.out).2.1); rintro e w97 ⟨rfl, hb⟩; refine ⟨_, rfl, ?_⟩; have n0_ := z9k (XS_below q9_96 hb); have n1_ := z9k (XS_below q9_97 hb); have n2_ := z9k (XS_below q9_36 hb); have n3_ := z9k (XS_below q9_98 hb); have n4_ := z9k (XS_below q9_99 hb); have n5_ := z9k (XS_below q9_35 hb); have n6_ := z9k (blk_below (g := gb223) (o := .cells #[.slice A0_0 l0_0.length c0_0] 44 (0, 0)) q9_70 hb); have n7_ := z9k (blk_below (g := gb224) (o := .cells #[.slice A1_0 l1_0.length c1_0] 44 (0, 0)) q9_71 hb); have n8_ := z9k (blk_below (g := gb237) (o := .cells #[.slice Ao41 t233.length co41] 25 (0, 0)) q9_72 hb); have n9_ := z9k (blk_below (g := gb241) (o := .cells #[.slice Ao47 t238.length co47] 25 (0, 0)) q9_73 hb); have n10_ := z9k (blk_below (g := gb245) (o := .cells #[.slice Ao56 t242.length co56] 25 (0, 0)) q9_74 hb); have n11_ := z9k (blk_below (g := gb250) (o := .cells #[.slice Ao65 t246.length co65] 25 (0, 0)) q9_68 hb); have n12_ := z9k (below_step q9_0 hb); clear HO229; clear HO232; clear HO235; clear HO240; clear HO244; clear HO248; clear BK223; clear BK224; clear BK237; clear BK241; clear BK245; clear BK250; clear HB; have HO229 := n0_; have HO232 := n1_; have HO235 := n2_; have HO240 := n3_; have HO244 := n4_; have HO248 := n5_; have BK223 := n6_; have BK224 := n7_; have BK237 := n8_; have BK241 := n9_; have BK245 := n10_; have BK250 := n11_; have HB := n12_; clear n0_ n1_ n2_ n3_ n4_ n5_ n6_ n7_ n8_ n9_ n10_ n11_ n12_; (try clear hb); (try clear hb2); (try clear hk); (try clear hi)))
          go_meet
          case rel => exact ⟨_, (true), q9_100, H', ⟨by first | omega | exact Nat.le_refl _⟩, ⟨by (with_reducible repeat (first | apply XS_alloc | apply XS_drewN | apply XS_drew)); exact XS_mono HO235.out (fun _ hk => ⟨hk.1.1.2, ⟨hk.1.2, hk.2⟩⟩)⟩, ⟨by (with_reducible repeat (first | apply XS_alloc | apply XS_drewN | apply XS_drew)); exact XS_mono HO240.out (fun _ hk => ⟨hk.1.1.2, ⟨hk.1.2, hk.2⟩⟩)⟩, ⟨by (with_reducible repeat (first | apply XS_alloc | apply XS_drewN | apply XS_drew)); exact XS_mono HO244.out (fun _ hk => ⟨hk.1.1.2, ⟨hk.1.2, hk.2⟩⟩)⟩, ⟨by (with_reducible repeat (first | apply XS_alloc | apply XS_drewN | apply XS_drew)); exact XS_mono HO248.out (fun _ hk => ⟨hk.1.1.2, ⟨hk.1.2, hk.2⟩⟩)⟩, ⟨by (with_reducible repeat (first | refine blk_drewN ?_ _ | refine blk_drew ?_ | refine blk_alloc ?_ _)); exact BK223.out⟩, ⟨by (with_reducible repeat (first | refine blk_drewN ?_ _ | refine blk_drew ?_ | refine blk_alloc ?_ _)); exact BK224.out⟩, ⟨by (with_reducible repeat (first | refine blk_drewN ?_ _ | refine blk_drew ?_ | refine blk_alloc ?_ _)); exact BK237.out⟩, ⟨by (with_reducible repeat (first | refine blk_drewN ?_ _ | refine blk_drew ?_ | refine blk_alloc ?_ _)); exact BK241.out⟩, ⟨by (with_reducible repeat (first | refine blk_drewN ?_ _ | refine blk_drew ?_ | refine blk_alloc ?_ _)); exact BK245.out⟩, ⟨by (with_reducible repeat (first | refine blk_drewN ?_ _ | refine blk_drew ?_ | refine blk_alloc ?_ _)); exact BK250.out⟩, ⟨q9_0⟩⟩
      case rest =>
        clear HC25
        try clear c1
        try clear c2
        try clear p2
        try clear c4
        try clear c5
        try clear c6
        try clear c7
        try clear c8
        try clear c9
        try clear c13
        try clear c14
        try clear c27
        try clear c28
        try clear c43
        try clear c48
        try clear c49
        try clear c50
        try clear c52
        try clear c57
        try clear c58
        try clear c59
        try clear c60
        try clear c66
        try clear c67
        try clear c68
        try clear c69
        try clear c70
        try clear c73
        try clear c74
        try clear c75
        try clear c76
        try clear c77
        try clear c78
        try clear c80
        try clear c81
        try clear c82
        try clear c83
        try clear c86
        try clear c87
        try clear c88
        try clear c89
        try clear c90
        try clear c92
        try clear c93
        try clear c94
        try clear c95
        try clear hcz44_0
        try clear hcz51_0
        try clear hcz53_0
        try clear hcz61_0
        try clear hcz62_0
        try clear hcz71_0
        try clear hcz79_0
        try clear hcz84_0
        try clear hcz91_0
        try clear hcz96_0
        try clear hfz44_0
        try clear hfz51_0
        try clear hfz53_0
        try clear hfz61_0
        try clear hfz62_0
        try clear hfz71_0
        try clear hfz79_0
        try clear hfz84_0
        try clear hfz91_0
        try clear hfz96_0
        obtain ⟨kq, x53_24, rfl, HA, HJ24, HO_238000, HO_242000, HO_246000, HO_251000, BK223, BK224, BK237, BK241, BK245, BK250, HB⟩ := hcut
        cases kq with
        | zero => exact absurd HA.out (by simp [laws_FnExactRoughJoin.j0])
        | succ kj24 =>
          have H := HA.out;clear HA
          simp only [laws_FnExactRoughJoin.j0] at H
          by_cases c98 : x53_24 = true
          · subst c98
            have H1 : (some false) = some r := by rw [if_pos rfl] at H; exact H
            clear H;have H := H1;clear H1
            obtain rfl := Option.some.inj H
            go_wp2
            go_ret
            exact ⟨q9_30, q9_0⟩
          · replace c98 := Bool.eq_false_iff.mpr c98
            subst c98
            have H1 : ((laws_toRough.f kj24 l0_0).bind fun t252 => ((laws_eqRough.f kj24 t238 t252).bind fun t255 => (if t255 = true then ((laws_toRough.f kj24 l1_0).bind fun t256 => ((laws_eqRough.f kj24 t242 t256).bind fun t259 => (if t259 = true then ((laws_markRough.f kj24 t238 1).bind fun bt260 => ((laws_markRough.f kj24 t242 bt260.1).bind fun bt262 => (if bt262.1 < 0 then (laws_FnExactRoughJoin.j1 kj24 t236 true l0_0 l1_0 t233 t246) else ((laws_eqRough.f kj24 t246 t233).bind fun t264 => (if t264 = true then (laws_FnExactRoughJoin.j1 kj24 t236 (t249 != t236) l0_0 l1_0 t233 t246) else (laws_FnExactRoughJoin.j1 kj24 t236 true l0_0 l1_0 t233 t246)))))) else (some false)))) else (some false)))) = some r := by rw [if_neg (show ¬ (false = true) by decide)] at H; exact H
            clear H;have H := H1;clear H1
            replace H := Option.bind_eq_some_iff.mp H
            obtain ⟨t252, A990, H⟩ := H
            replace H : ((laws_eqRough.f kj24 t238 t252).bind fun t255 => (if t255 = true then ((laws_toRough.f kj24 l1_0).bind fun t256 => ((laws_eqRough.f kj24 t242 t256).bind fun t259 => (if t259 = true then ((laws_markRough.f kj24 t238 1).bind fun bt260 => ((laws_markRough.f kj24 t242 bt260.1).bind fun bt262 => (if bt262.1 < 0 then (laws_FnExactRoughJoin.j1 kj24 t236 true l0_0 l1_0 t233 t246) else ((laws_eqRough.f kj24 t246 t233).bind fun t264 => (if t264 = true then (laws_FnExactRoughJoin.j1 kj24 t236 (t249 != t236) l0_0 l1_0 t233 t246) else (laws_FnExactRoughJoin.j1 kj24 t236 true l0_0 l1_0 t233 t246)))))) else (some false)))) else (some false))) = some r := H
            have A99 := Aside0.mk A990;clear A990
            replace H := Option.bind_eq_some_iff.mp H
            obtain ⟨t255, A1000, H⟩ := H
            replace H : (if t255 = true then ((laws_toRough.f kj24 l1_0).bind fun t256 => ((laws_eqRough.f kj24 t242 t256).bind fun t259 => (if t259 = true then ((laws_markRough.f kj24 t238 1).bind fun bt260 => ((laws_markRough.f kj24 t242 bt260.1).bind fun bt262 => (if bt262.1 < 0 then (laws_FnExactRoughJoin.j1 kj24 t236 true l0_0 l1_0 t233 t246) else ((laws_eqRough.f kj24 t246 t233).bind fun t264 => (if t264 = true then (laws_FnExactRoughJoin.j1 kj24 t236 (t249 != t236) l0_0 l1_0 t233 t246) else (laws_FnExactRoughJoin.j1 kj24 t236 true l0_0 l1_0 t233 t246)))))) else (some false)))) else (some false)) = some r := H
            have A100 := Aside0.mk A1000;clear A1000
            by_cases c101 : t255 = true
            · subst c101
              have H1 : ((laws_toRough.f kj24 l1_0).bind fun t256 => ((laws_eqRough.f kj24 t242 t256).bind fun t259 => (if t259 = true then ((laws_markRough.f kj24 t238 1).bind fun bt260 => ((laws_markRough.f kj24 t242 bt260.1).bind fun bt262 => (if bt262.1 < 0 then (laws_FnExactRoughJoin.j1 kj24 t236 true l0_0 l1_0 t233 t246) else ((laws_eqRough.f kj24 t246 t233).bind fun t264 => (if t264 = true then (laws_FnExactRoughJoin.j1 kj24 t236 (t249 != t236) l0_0 l1_0 t233 t246) else (laws_FnExactRoughJoin.j1 kj24 t236 true l0_0 l1_0 t233 t246)))))) else (some false)))) = some r := by rw [if_pos rfl] at H; exact H
              clear H;have H := H1;clear H1
              replace H := Option.bind_eq_some_iff.mp H
              obtain ⟨t256, A1020, H⟩ := H
              replace H : ((laws_eqRough.f kj24 t242 t256).bind fun t259 => (if t259 = true then ((laws_markRough.f kj24 t238 1).bind fun bt260 => ((laws_markRough.f kj24 t242 bt260.1).bind fun bt262 => (if bt262.1 < 0 then (laws_FnExactRoughJoin.j1 kj24 t236 true l0_0 l1_0 t233 t246) else ((laws_eqRough.f kj24 t246 t233).bind fun t264 => (if t264 = true then (laws_FnExactRoughJoin.j1 kj24 t236 (t249 != t236) l0_0 l1_0 t233 t246) else (laws_FnExactRoughJoin.j1 kj24 t236 true l0_0 l1_0 t233 t246)))))) else (some false))) = some r := H
              have A102 := Aside0.mk A1020;clear A1020
              replace H := Option.bind_eq_some_iff.mp H
              obtain ⟨t259, A1030, H⟩ := H
              replace H : (if t259 = true then ((laws_markRough.f kj24 t238 1).bind fun bt260 => ((laws_markRough.f kj24 t242 bt260.1).bind fun bt262 => (if bt262.1 < 0 then (laws_FnExactRoughJoin.j1 kj24 t236 true l0_0 l1_0 t233 t246) else ((laws_eqRough.f kj24 t246 t233).bind fun t264 => (if t264 = true then (laws_FnExactRoughJoin.j1 kj24 t236 (t249 != t236) l0_0 l1_0 t233 t246) else (laws_FnExactRoughJoin.j1 kj24 t236 true l0_0 l1_0 t233 t246)))))) else (some false)) = some r := H
              have A103 := Aside0.mk A1030;clear A1030
              by_cases c104 : t259 = true
              · subst c104
                have H1 : ((laws_markRough.f kj24 t238 1).bind fun bt260 => ((laws_markRough.f kj24 t242 bt260.1).bind fun bt262 => (if bt262.1 < 0 then (laws_FnExactRoughJoin.j1 kj24 t236 true l0_0 l1_0 t233 t246) else ((laws_eqRough.f kj24 t246 t233).bind fun t264 => (if t264 = true then (laws_FnExactRoughJoin.j1 kj24 t236 (t249 != t236) l0_0 l1_0 t233 t246) else (laws_FnExactRoughJoin.j1 kj24 t236 true l0_0 l1_0 t233 t246)))))) = some r := by rw [if_pos rfl] at H; exact H
                clear H;have H := H1;clear H1
                replace H := Option.bind_eq_some_iff.mp H
                obtain ⟨⟨t260, t261⟩, A1050, H⟩ := H
                replace H : ((laws_markRough.f kj24 t242 t260).bind fun bt262 => (if bt262.1 < 0 then (laws_FnExactRoughJoin.j1 kj24 t236 true l0_0 l1_0 t233 t246) else ((laws_eqRough.f kj24 t246 t233).bind fun t264 => (if t264 = true then (laws_FnExactRoughJoin.j1 kj24 t236 (t249 != t236) l0_0 l1_0 t233 t246) else (laws_FnExactRoughJoin.j1 kj24 t236 true l0_0 l1_0 t233 t246))))) = some r := H
                have A105 := Aside0.mk A1050;clear A1050
                replace H := Option.bind_eq_some_iff.mp H
                obtain ⟨⟨t262, t263⟩, A1060, H⟩ := H
                replace H : (if t262 < 0 then (laws_FnExactRoughJoin.j1 kj24 t236 true l0_0 l1_0 t233 t246) else ((laws_eqRough.f kj24 t246 t233).bind fun t264 => (if t264 = true then (laws_FnExactRoughJoin.j1 kj24 t236 (t249 != t236) l0_0 l1_0 t233 t246) else (laws_FnExactRoughJoin.j1 kj24 t236 true l0_0 l1_0 t233 t246)))) = some r := H
                have A106 := Aside0.mk A1060;clear A1060;have HC107 := Aside0.mk H;clear H
                try go_wp2
                have n0_ := z9k (XS_drew HO_238000.out);have n1_ := z9k (XS_drew HO_242000.out);have n2_ := z9k (XS_drew HO_246000.out);have n3_ := z9k (XS_drew HO_251000.out);have n4_ := z9k (blk_drew BK223.out);have n5_ := z9k (blk_drew BK224.out);have n6_ := z9k (blk_drew BK237.out);have n7_ := z9k (blk_drew BK241.out);have n8_ := z9k (blk_drew BK245.out);have n9_ := z9k (blk_drew BK250.out);have n10_ := z9k (below_drew1 HB.out);clear HO_238000 HO_242000 HO_246000 HO_251000 BK223 BK224 BK237 BK241 BK245 BK250 HB;have HO_238000 := n0_;have HO_242000 := n1_;have HO_246000 := n2_;have HO_251000 := n3_;have BK223 := n4_;have BK224 := n5_;have BK237 := n6_;have BK241 := n7_;have BK245 := n8_;have BK250 := n9_;have HB := n10_;clear n0_ n1_ n2_ n3_ n4_ n5_ n6_ n7_ n8_ n9_ n10_;refine start_ (n := 5) (S := fun w' => w'.cell? ⟨gb241, 0, none⟩ = some (.slice Ao47 t238.length co47) ∧ w'.cell? ⟨gb223, 0, none⟩ = some (.slice A0_0 l0_0.length c0_0)) (ds := []) #[false, false, false, false, false] (by kernel_rfl) rfl rfl ⟨(blk_cell BK241.out 0).trans rfl, (blk_cell BK223.out 0).trans rfl⟩ (fun hHeld => ?_)
                generalize wc.drew = w108 at HO_238000 HO_242000 HO_246000 HO_251000 BK223 BK224 BK237 BK241 BK245 BK250 HB hHeld ⊢
                refine take_ (i := 0) (N := some 54) (v := ?_) (a' := ?_) #[true, false, false, false, false] rfl rfl (by kernel_rfl) (fun _ _ _ h => h) (Or.inl ⟨by rfl, ?_⟩) hHeld ?_ ?_;rotate_left
                · rintro w' ⟨s0, s1⟩
                  go_simp
                  with_reducible rfl
                rotate_left
                · simp only [Act.put, z9a, z9b, z9c, i64_w, i32_w]
                  rfl
                refine take_ (i := 1) (N := some 55) (v := ?_) (a' := ?_) #[true, true, false, false, false] rfl rfl (by kernel_rfl) (fun _ _ _ h => h) (Or.inl ⟨by rfl, ?_⟩) hHeld ?_ ?_;rotate_left
                · rintro w' ⟨s0, s1⟩
                  go_simp
                  with_reducible rfl
                rotate_left
                · simp only [Act.put, z9a, z9b, z9c, i64_w, i32_w]
                  rfl
                refine one_ (i := 2) (N := some 56) #[true, true, true, false, false] rfl rfl (by kernel_rfl) (by decide) (fun K hK => ?_);refine goes_ Try.func27 (by kernel_rfl) rfl #[.agg #[.slice A0_0 l0_0.length c0_0]] (by rfl) rfl rfl q9_5 ?_
                with_reducible refine (laws_toRough.calls kj24 _ _ l0_0 t252 _ ?side1 ?side2 A99.out).mono ?_
                (case side1 => exact q9_16);(case side2 => exact HC0_0.out);rintro e w109 ⟨v253, rfl, ho0, hb⟩; obtain ⟨F253, hF0, ho0⟩ := XS_intro ho0;refine ⟨_, rfl, ?_⟩;have n0_ := z9k (XS_elder q9_11 hF0 hb);have n1_ := z9k (XS_elder q9_12 hF0 hb);have n2_ := z9k (XS_elder q9_13 hF0 hb);have n3_ := z9k (XS_elder q9_14 hF0 hb);have n4_ := z9k (XS_lower (XS_new (XS_new (XS_new (XS_new ho0 (XS_lt q9_11)) (XS_lt q9_12)) (XS_lt q9_13)) (XS_lt q9_14)) (below_size q9_0));have n5_ := z9k (blk_below (g := gb223) (o := .cells #[.slice A0_0 l0_0.length c0_0] 44 (0, 0)) q9_1 hb);have n6_ := z9k (blk_below (g := gb224) (o := .cells #[.slice A1_0 l1_0.length c1_0] 44 (0, 0)) q9_2 hb);have n7_ := z9k (blk_below (g := gb237) (o := .cells #[.slice Ao41 t233.length co41] 25 (0, 0)) q9_4 hb);have n8_ := z9k (blk_below (g := gb241) (o := .cells #[.slice Ao47 t238.length co47] 25 (0, 0)) q9_6 hb);have n9_ := z9k (blk_below (g := gb245) (o := .cells #[.slice Ao56 t242.length co56] 25 (0, 0)) q9_7 hb);have n10_ := z9k (blk_below (g := gb250) (o := .cells #[.slice Ao65 t246.length co65] 25 (0, 0)) q9_8 hb);have n11_ := z9k (below_step q9_0 hb);clear HO_238000 HO_242000 HO_246000 HO_251000 BK223 BK224 BK237 BK241 BK245 BK250 HB;have HO_238000 := n0_;have HO_242000 := n1_;have HO_246000 := n2_;have HO_251000 := n3_;have HO254 := n4_;have BK223 := n5_;have BK224 := n6_;have BK237 := n7_;have BK241 := n8_;have BK245 := n9_;have BK250 := n10_;have HB := n11_;clear n0_ n1_ n2_ n3_ n4_ n5_ n6_ n7_ n8_ n9_ n10_ n11_;(try clear hb);(try clear hb2);(try clear hk);(try clear hi);(try clear ho0); (try clear hF0);obtain ⟨Ao110, co110, eo110⟩ := XS_slice HO254.out;(first | subst eo110 | (injection eo110 with f1_ f2_ f3_; have f4_ := f1_.symm; have f5_ := f3_.symm; clear f1_ f2_ f3_; subst f4_; subst f5_));refine hK.out _ _ ⟨(blk_cell BK241.out 0).trans rfl, (blk_cell BK223.out 0).trans rfl⟩ (fun hHeld => ?_);clear hK K;refine norm_ (a' := ?_) ?_ ?_;rotate_left
                · show Act.put _ (some 56) _ = _
                  simp only [Act.put, z9a, z9b, z9c, i64_w, i32_w]
                  rfl
                refine one_ (i := 3) (N := some 57) #[true, true, true, true, false] rfl rfl (by kernel_rfl) (by decide) (fun K hK => ?_);refine goes_ Try.func28 (by kernel_rfl) rfl #[.agg #[.slice Ao47 t238.length co47], .agg #[.slice Ao110 t252.length co110]] (by rfl) rfl rfl q9_5 ?_
                with_reducible refine (laws_eqRough.calls kj24 _ _ t238 _ _ t252 true _ ?side1 ?side2 ?side3 ?side4 A100.out).mono ?_
                (case side1 => exact q9_58);(case side2 => exact (XS_reads HO_242000.out).2.1);(case side3 => exact q9_59);(case side4 => exact (XS_reads HO254.out).2.1);rintro e w111 ⟨rfl, hb⟩;refine ⟨_, rfl, ?_⟩;have n0_ := z9k (XS_below q9_11 hb);have n1_ := z9k (XS_below q9_12 hb);have n2_ := z9k (XS_below q9_13 hb);have n3_ := z9k (XS_below q9_14 hb);have n4_ := z9k (XS_below q9_31 hb);have n5_ := z9k (blk_below (g := gb223) (o := .cells #[.slice A0_0 l0_0.length c0_0] 44 (0, 0)) q9_1 hb);have n6_ := z9k (blk_below (g := gb224) (o := .cells #[.slice A1_0 l1_0.length c1_0] 44 (0, 0)) q9_2 hb);have n7_ := z9k (blk_below (g := gb237) (o := .cells #[.slice Ao41 t233.length co41] 25 (0, 0)) q9_4 hb);have n8_ := z9k (blk_below (g := gb241) (o := .cells #[.slice Ao47 t238.length co47] 25 (0, 0)) q9_6 hb);have n9_ := z9k (blk_below (g := gb245) (o := .cells #[.slice Ao56 t242.length co56] 25 (0, 0)) q9_7 hb);have n10_ := z9k (blk_below (g := gb250) (o := .cells #[.slice Ao65 t246.length co65] 25 (0, 0)) q9_8 hb);have n11_ := z9k (below_step q9_0 hb);clear HO_238000 HO_242000 HO_246000 HO_251000 HO254 BK223 BK224 BK237 BK241 BK245 BK250 HB;have HO_238000 := n0_;have HO_242000 := n1_;have HO_246000 := n2_;have HO_251000 := n3_;have HO254 := n4_;have BK223 := n5_;have BK224 := n6_;have BK237 := n7_;have BK241 := n8_;have BK245 := n9_;have BK250 := n10_;have HB := n11_;clear n0_ n1_ n2_ n3_ n4_ n5_ n6_ n7_ n8_ n9_ n10_ n11_;(try clear hb);(try clear hb2);(try clear hk);(try clear hi);refine hK.out _ _ ⟨(blk_cell BK241.out 0).trans rfl, (blk_cell BK223.out 0).trans rfl⟩ (fun hHeld => ?_);clear hK K;refine norm_ (a' := ?_) ?_ ?_;rotate_left
                · show Act.put _ (some 57) _ = _
                  simp only [Act.put, z9a, z9b, z9c, i64_w, i32_w]
                  rfl
                refine pure_ (i := 4) (N := some 58) (v := ?_) (a' := ?_) #[true, true, true, true, true] rfl rfl (by kernel_rfl) (fun _ _ _ h => h) (Or.inl ⟨by rfl, ?_⟩) ?_ ?_;rotate_left
                · intro w'
                  go_simp
                  with_reducible rfl
                rotate_left
                · simp only [Act.put, z9a, z9b, z9c, i64_w, i32_w]
                  rfl
                refine done_ (by kernel_rfl) ?_
                try go_wp2
                have n0_ := z9k (XS_drew HO_238000.out);have n1_ := z9k (XS_drew HO_242000.out);have n2_ := z9k (XS_drew HO_246000.out);have n3_ := z9k (XS_drew HO_251000.out);have n4_ := z9k (XS_drew HO254.out);have n5_ := z9k (blk_drew BK223.out);have n6_ := z9k (blk_drew BK224.out);have n7_ := z9k (blk_drew BK237.out);have n8_ := z9k (blk_drew BK241.out);have n9_ := z9k (blk_drew BK245.out);have n10_ := z9k (blk_drew BK250.out);have n11_ := z9k (below_drew1 HB.out);clear HO_238000 HO_242000 HO_246000 HO_251000 HO254 BK223 BK224 BK237 BK241 BK245 BK250 HB;have HO_238000 := n0_;have HO_242000 := n1_;have HO_246000 := n2_;have HO_251000 := n3_;have HO254 := n4_;have BK223 := n5_;have BK224 := n6_;have BK237 := n7_;have BK241 := n8_;have BK245 := n9_;have BK250 := n10_;have HB := n11_;clear n0_ n1_ n2_ n3_ n4_ n5_ n6_ n7_ n8_ n9_ n10_ n11_;refine start_ (n := 5) (S := fun w' => w'.cell? ⟨gb245, 0, none⟩ = some (.slice Ao56 t242.length co56) ∧ w'.cell? ⟨gb224, 0, none⟩ = some (.slice A1_0 l1_0.length c1_0)) (ds := []) #[false, false, false, false, false] (by kernel_rfl) rfl rfl ⟨(blk_cell BK245.out 0).trans rfl, (blk_cell BK224.out 0).trans rfl⟩ (fun hHeld => ?_)
                generalize w111.drew = w112 at HO_238000 HO_242000 HO_246000 HO_251000 HO254 BK223 BK224 BK237 BK241 BK245 BK250 HB hHeld ⊢
                refine take_ (i := 0) (N := some 59) (v := ?_) (a' := ?_) #[true, false, false, false, false] rfl rfl (by kernel_rfl) (fun _ _ _ h => h) (Or.inl ⟨by rfl, ?_⟩) hHeld ?_ ?_;rotate_left
                · rintro w' ⟨s0, s1⟩
                  go_simp
                  with_reducible rfl
                rotate_left
                · simp only [Act.put, z9a, z9b, z9c, i64_w, i32_w]
                  rfl
                refine take_ (i := 1) (N := some 60) (v := ?_) (a' := ?_) #[true, true, false, false, false] rfl rfl (by kernel_rfl) (fun _ _ _ h => h) (Or.inl ⟨by rfl, ?_⟩) hHeld ?_ ?_;rotate_left
                · rintro w' ⟨s0, s1⟩
                  go_simp
                  with_reducible rfl
                rotate_left
                · simp only [Act.put, z9a, z9b, z9c, i64_w, i32_w]
                  rfl
                refine one_ (i := 2) (N := some 61) #[true, true, true, false, false] rfl rfl (by kernel_rfl) (by decide) (fun K hK => ?_);refine goes_ Try.func27 (by kernel_rfl) rfl #[.agg #[.slice A1_0 l1_0.length c1_0]] (by rfl) rfl rfl q9_5 ?_
                with_reducible refine (laws_toRough.calls kj24 _ _ l1_0 t256 _ ?side1 ?side2 A102.out).mono ?_
                (case side1 => exact q9_17);(case side2 => exact HC1_0.out);rintro e w113 ⟨v257, rfl, ho0, hb⟩; obtain ⟨F257, hF0, ho0⟩ := XS_intro ho0;refine ⟨_, rfl, ?_⟩;have n0_ := z9k (XS_elder q9_11 hF0 hb);have n1_ := z9k (XS_elder q9_12 hF0 hb);have n2_ := z9k (XS_elder q9_13 hF0 hb);have n3_ := z9k (XS_elder q9_14 hF0 hb);have n4_ := z9k (XS_elder q9_31 hF0 hb);have n5_ := z9k (XS_lower (XS_new (XS_new (XS_new (XS_new (XS_new ho0 (XS_lt q9_11)) (XS_lt q9_12)) (XS_lt q9_13)) (XS_lt q9_14)) (XS_lt q9_31)) (below_size q9_0));have n6_ := z9k (blk_below (g := gb223) (o := .cells #[.slice A0_0 l0_0.length c0_0] 44 (0, 0)) q9_1 hb);have n7_ := z9k (blk_below (g := gb224) (o := .cells #[.slice A1_0 l1_0.length c1_0] 44 (0, 0)) q9_2 hb);have n8_ := z9k (blk_below (g := gb237) (o := .cells #[.slice Ao41 t233.length co41] 25 (0, 0)) q9_4 hb);have n9_ := z9k (blk_below (g := gb241) (o := .cells #[.slice Ao47 t238.length co47] 25 (0, 0)) q9_6 hb);have n10_ := z9k (blk_below (g := gb245) (o := .cells #[.slice Ao56 t242.length co56] 25 (0, 0)) q9_7 hb);have n11_ := z9k (blk_below (g := gb250) (o := .cells #[.slice Ao65 t246.length co65] 25 (0, 0)) q9_8 hb);have n12_ := z9k (below_step q9_0 hb);clear HO_238000 HO_242000 HO_246000 HO_251000 HO254 BK223 BK224 BK237 BK241 BK245 BK250 HB;have HO_238000 := n0_;have HO_242000 := n1_;have HO_246000 := n2_;have HO_251000 := n3_;have HO254 := n4_;have HO258 := n5_;have BK223 := n6_;have BK224 := n7_;have BK237 := n8_;have BK241 := n9_;have BK245 := n10_;have BK250 := n11_;have HB := n12_;clear n0_ n1_ n2_ n3_ n4_ n5_ n6_ n7_ n8_ n9_ n10_ n11_ n12_;(try clear hb);(try clear hb2);(try clear hk);(try clear hi);(try clear ho0); (try clear hF0);obtain ⟨Ao114, co114, eo114⟩ := XS_slice HO258.out;(first | subst eo114 | (injection eo114 with f1_ f2_ f3_; have f4_ := f1_.symm; have f5_ := f3_.symm; clear f1_ f2_ f3_; subst f4_; subst f5_));refine hK.out _ _ ⟨(blk_cell BK245.out 0).trans rfl, (blk_cell BK224.out 0).trans rfl⟩ (fun hHeld => ?_);clear hK K;refine norm_ (a' := ?_) ?_ ?_;rotate_left
                · show Act.put _ (some 61) _ = _
                  simp only [Act.put, z9a, z9b, z9c, i64_w, i32_w]
                  rfl
                refine one_ (i := 3) (N := some 62) #[true, true, true, true, false] rfl rfl (by kernel_rfl) (by decide) (fun K hK => ?_);refine goes_ Try.func28 (by kernel_rfl) rfl #[.agg #[.slice Ao56 t242.length co56], .agg #[.slice Ao114 t256.length co114]] (by rfl) rfl rfl q9_5 ?_
                with_reducible refine (laws_eqRough.calls kj24 _ _ t242 _ _ t256 true _ ?side1 ?side2 ?side3 ?side4 A103.out).mono ?_
                (case side1 => exact q9_110);(case side2 => exact (XS_reads HO_246000.out).2.1);(case side3 => exact q9_112);(case side4 => exact (XS_reads HO258.out).2.1);rintro e w115 ⟨rfl, hb⟩;refine ⟨_, rfl, ?_⟩;have n0_ := z9k (XS_below q9_11 hb);have n1_ := z9k (XS_below q9_12 hb);have n2_ := z9k (XS_below q9_13 hb);have n3_ := z9k (XS_below q9_14 hb);have n4_ := z9k (XS_below q9_31 hb);have n5_ := z9k (XS_below q9_67 hb);have n6_ := z9k (blk_below (g := gb223) (o := .cells #[.slice A0_0 l0_0.length c0_0] 44 (0, 0)) q9_1 hb);have n7_ := z9k (blk_below (g := gb224) (o := .cells #[.slice A1_0 l1_0.length c1_0] 44 (0, 0)) q9_2 hb);have n8_ := z9k (blk_below (g := gb237) (o := .cells #[.slice Ao41 t233.length co41] 25 (0, 0)) q9_4 hb);have n9_ := z9k (blk_below (g := gb241) (o := .cells #[.slice Ao47 t238.length co47] 25 (0, 0)) q9_6 hb);have n10_ := z9k (blk_below (g := gb245) (o := .cells #[.slice Ao56 t242.length co56] 25 (0, 0)) q9_7 hb);have n11_ := z9k (blk_below (g := gb250) (o := .cells #[.slice Ao65 t246.length co65] 25 (0, 0)) q9_8 hb);have n12_ := z9k (below_step q9_0 hb);clear HO_238000 HO_242000 HO_246000 HO_251000 HO254 HO258 BK223 BK224 BK237 BK241 BK245 BK250 HB;have HO_238000 := n0_;have HO_242000 := n1_;have HO_246000 := n2_;have HO_251000 := n3_;have HO254 := n4_;have HO258 := n5_;have BK223 := n6_;have BK224 := n7_;have BK237 := n8_;have BK241 := n9_;have BK245 := n10_;have BK250 := n11_;have HB := n12_;clear n0_ n1_ n2_ n3_ n4_ n5_ n6_ n7_ n8_ n9_ n10_ n11_ n12_;(try clear hb);(try clear hb2);(try clear hk);(try clear hi);refine hK.out _ _ ⟨(blk_cell BK245.out 0).trans rfl, (blk_cell BK224.out 0).trans rfl⟩ (fun hHeld => ?_);clear hK K;refine norm_ (a' := ?_) ?_ ?_;rotate_left
                · show Act.put _ (some 62) _ = _
                  simp only [Act.put, z9a, z9b, z9c, i64_w, i32_w]
                  rfl
                refine pure_ (i := 4) (N := some 63) (v := ?_) (a' := ?_) #[true, true, true, true, true] rfl rfl (by kernel_rfl) (fun _ _ _ h => h) (Or.inl ⟨by rfl, ?_⟩) ?_ ?_;rotate_left
                · intro w'
                  go_simp
                  with_reducible rfl
                rotate_left
                · simp only [Act.put, z9a, z9b, z9c, i64_w, i32_w]
                  rfl
                refine done_ (by kernel_rfl) ?_;have hnb116 := NB241_223.out;have hnc116 := NB223_241.out;have hnb117 := NB241_224.out;have hnc117 := NB224_241.out;have hnb118 := NB241_237.out;have hnc118 := NB237_241.out;have hnb119 := NB241_245.out;have hnc119 := NB245_241.out;have hnb120 := NB241_250.out;have hnc120 := NB250_241.out
                have hcz121_0 : w115.cell? ⟨gb241, 0, none⟩ = some (.slice Ao47 t238.length co47) := (blk_cell BK241.out 0).trans rfl
                have hfz121_0 := blk_frozen BK241.out 0
                go_upto_region 21 with (first | ((with_reducible refine gate_callee (f := 29) rfl ?_); refine goesL_ (some 66) rfl rfl Try.func29 (by kernel_rfl) rfl #[.agg #[.slice Ao47 t238.length co47], .int .i64 1] rfl q9_5 ?_; (with_reducible refine (laws_markRough.calls kj24 ?p1_ (.slice Ao47 t238.length co47) t238 1 t260 t261 w _ ?side1 ?side2 A105.out).mono ?_); (case side1 => exact q9_0); (case side2 => exact XS_own HO_242000.out); rintro e w122 ⟨rfl, hy0, hb, hkp⟩; refine ⟨_, rfl, ?_⟩; have n0_ := z9k (XS_mono (ok' := fun k_ => ¬ F239 k_ ∧ ¬ F243 k_ ∧ ¬ F247 k_ ∧ ¬ F253 k_ ∧ ¬ F257 k_) (XS_keptB (HO_238000.out) hkp (fun k_ hk_ hs_ => (hk_.1.1.1) hs_.1.1)) (fun k_ hk_ => ⟨hk_.1.1.1.1, hk_.1.1.1.2.1, hk_.1.1.1.2.2, hk_.1.1.2, hk_.1.2⟩)); have n1_ := z9k (XS_reok HO_242000.out hy0 hkp); have n2_ := z9k (XS_mono (ok' := fun k_ => ¬ F234 k_ ∧ ¬ F239 k_ ∧ ¬ F247 k_ ∧ ¬ F253 k_ ∧ ¬ F257 k_) (XS_keptB (HO_246000.out) hkp (fun k_ hk_ hs_ => (hk_.1.1.2.1) hs_.1.1)) (fun k_ hk_ => ⟨hk_.1.1.1.1, hk_.1.1.1.2.1, hk_.1.1.1.2.2, hk_.1.1.2, hk_.1.2⟩)); have n3_ := z9k (XS_mono (ok' := fun k_ => ¬ F234 k_ ∧ ¬ F239 k_ ∧ ¬ F243 k_ ∧ ¬ F253 k_ ∧ ¬ F257 k_) (XS_keptB (HO_251000.out) hkp (fun k_ hk_ hs_ => (hk_.1.1.2.1) hs_.1.1)) (fun k_ hk_ => ⟨hk_.1.1.1.1, hk_.1.1.1.2.1, hk_.1.1.1.2.2, hk_.1.1.2, hk_.1.2⟩)); have n4_ := z9k (XS_blk_kept q9_1 hkp (by decide)); have n5_ := z9k (XS_blk_kept q9_2 hkp (by decide)); have n6_ := z9k (XS_blk_kept q9_4 hkp (by decide)); have n7_ := z9k (XS_blk_kept q9_6 hkp (by decide)); have n8_ := z9k (XS_blk_kept q9_7 hkp (by decide)); have n9_ := z9k (XS_blk_kept q9_8 hkp (by decide)); have n10_ := z9k (XS_mono (ok' := fun k_ => ¬ F234 k_ ∧ ¬ F239 k_ ∧ ¬ F243 k_ ∧ ¬ F247 k_ ∧ ¬ F257 k_) (XS_keptB (HO254.out) hkp (fun k_ hk_ hs_ => (hk_.1.1.1.2) hs_.1.1)) (fun k_ hk_ => ⟨hk_.1.1.1.1.1.2, hk_.1.1.1.1.2, hk_.1.1.1.2, hk_.1.1.2, hk_.1.2⟩)); have n11_ := z9k (XS_mono (ok' := fun k_ => ¬ F234 k_ ∧ ¬ F239 k_ ∧ ¬ F243 k_ ∧ ¬ F247 k_ ∧ ¬ F253 k_) (XS_keptB (HO258.out) hkp (fun k_ hk_ hs_ => (hk_.1.1.1.2) hs_.1.1)) (fun k_ hk_ => ⟨hk_.1.1.1.1.1.2, hk_.1.1.1.1.2, hk_.1.1.1.2, hk_.1.1.2, hk_.1.2⟩)); have n12_ := z9k (hb); clear HO_238000; clear HO_242000; clear HO_246000; clear HO_251000; clear BK223; clear BK224; clear BK237; clear BK241; clear BK245; clear BK250; clear HO254; clear HO258; clear HB; have HO_238000 := n0_; have HO_242000 := n1_; have HO_246000 := n2_; have HO_251000 := n3_; have BK223 := n4_; have BK224 := n5_; have BK237 := n6_; have BK241 := n7_; have BK245 := n8_; have BK250 := n9_; have HO254 := n10_; have HO258 := n11_; have HB := n12_; clear n0_ n1_ n2_ n3_ n4_ n5_ n6_ n7_ n8_ n9_ n10_ n11_ n12_; (try clear hb); (try clear hkp); (try clear hy0); have hnb123 := NB245_223.out; have hnc123 := NB223_245.out; have hnb124 := NB245_224.out; have hnc124 := NB224_245.out; have hnb125 := NB245_237.out; have hnc125 := NB237_245.out; have hnb126 := NB245_250.out; have hnc126 := NB250_245.out; have hcz127_0 : w122.cell? ⟨gb245, 0, none⟩ = some (.slice Ao56 t242.length co56) := (blk_cell BK245.out 0).trans rfl; have hfz127_0 := blk_frozen BK245.out 0) | ((with_reducible refine gate_callee (f := 29) rfl ?_); refine goesL_ (some 69) rfl rfl Try.func29 (by kernel_rfl) rfl #[.agg #[.slice Ao56 t242.length co56], .int .i64 t260] rfl q9_5 ?_; (with_reducible refine (laws_markRough.calls kj24 ?p2_ (.slice Ao56 t242.length co56) t242 t260 t262 t263 w _ ?side1 ?side2 A106.out).mono ?_); (case side1 => exact q9_0); (case side2 => exact XS_own HO_246000.out); rintro e w128 ⟨rfl, hy0, hb, hkp⟩; refine ⟨_, rfl, ?_⟩; have n0_ := z9k (XS_mono (ok' := fun k_ => ¬ F239 k_ ∧ ¬ F243 k_ ∧ ¬ F247 k_ ∧ ¬ F253 k_ ∧ ¬ F257 k_) (XS_keptB (HO_238000.out) hkp (fun k_ hk_ hs_ => (hk_.2.1) hs_.1.1)) (fun k_ hk_ => ⟨hk_.1.1, hk_.1.2.1, hk_.1.2.2.1, hk_.1.2.2.2.1, hk_.1.2.2.2.2⟩)); have n1_ := z9k (XS_mono (ok' := fun k_ => ¬ F234 k_ ∧ ¬ F243 k_ ∧ ¬ F247 k_ ∧ ¬ F253 k_ ∧ ¬ F257 k_) (XS_keptB (HO_242000.out) hkp (fun k_ hk_ hs_ => (hk_.1.1.2.1) hs_.1.1)) (fun k_ hk_ => ⟨hk_.1.1.1.1, hk_.1.1.1.2.1, hk_.1.1.1.2.2, hk_.1.1.2, hk_.1.2⟩)); have n2_ := z9k (XS_reok HO_246000.out hy0 hkp); have n3_ := z9k (XS_mono (ok' := fun k_ => ¬ F234 k_ ∧ ¬ F239 k_ ∧ ¬ F243 k_ ∧ ¬ F253 k_ ∧ ¬ F257 k_) (XS_keptB (HO_251000.out) hkp (fun k_ hk_ hs_ => (hk_.2.2.1) hs_.1.1)) (fun k_ hk_ => ⟨hk_.1.1, hk_.1.2.1, hk_.1.2.2.1, hk_.1.2.2.2.1, hk_.1.2.2.2.2⟩)); have n4_ := z9k (XS_blk_kept q9_1 hkp (by decide)); have n5_ := z9k (XS_blk_kept q9_2 hkp (by decide)); have n6_ := z9k (XS_blk_kept q9_4 hkp (by decide)); have n7_ := z9k (XS_blk_kept q9_6 hkp (by decide)); have n8_ := z9k (XS_blk_kept q9_7 hkp (by decide)); have n9_ := z9k (XS_blk_kept q9_8 hkp (by decide)); have n10_ := z9k (XS_mono (ok' := fun k_ => ¬ F234 k_ ∧ ¬ F239 k_ ∧ ¬ F243 k_ ∧ ¬ F247 k_ ∧ ¬ F257 k_) (XS_keptB (HO254.out) hkp (fun k_ hk_ hs_ => (hk_.2.2.1) hs_.1.1)) (fun k_ hk_ => ⟨hk_.1.1, hk_.1.2.1, hk_.1.2.2.1, hk_.1.2.2.2.1, hk_.1.2.2.2.2⟩)); have n11_ := z9k (XS_mono (ok' := fun k_ => ¬ F234 k_ ∧ ¬ F239 k_ ∧ ¬ F243 k_ ∧ ¬ F247 k_ ∧ ¬ F253 k_) (XS_keptB (HO258.out) hkp (fun k_ hk_ hs_ => (hk_.2.2.1) hs_.1.1)) (fun k_ hk_ => ⟨hk_.1.1, hk_.1.2.1, hk_.1.2.2.1, hk_.1.2.2.2.1, hk_.1.2.2.2.2⟩)); have n12_ := z9k (hb); clear HO_238000; clear HO_242000; clear HO_246000; clear HO_251000; clear BK223; clear BK224; clear BK237; clear BK241; clear BK245; clear BK250; clear HO254; clear HO258; clear HB; have HO_238000 := n0_; have HO_242000 := n1_; have HO_246000 := n2_; have HO_251000 := n3_; have BK223 := n4_; have BK224 := n5_; have BK237 := n6_; have BK241 := n7_; have BK245 := n8_; have BK250 := n9_; have HO254 := n10_; have HO258 := n11_; have HB := n12_; clear n0_ n1_ n2_ n3_ n4_ n5_ n6_ n7_ n8_ n9_ n10_ n11_ n12_; (try clear hb); (try clear hkp); (try clear hy0)))
                (try simp only [Act.put, z9a, z9b, z9c])
                go_cut [82] (fun v82 wc => ∃ (kq : Nat) (x82_106 : Bool), v82 = .bool x82_106 ∧ Aside0 (laws_FnExactRoughJoin.j1 kq t236 x82_106 l0_0 l1_0 t233 t246 = some r) ∧ Aside0 (kq ≤ kj24) ∧ Aside0 (XS F234 wc w.heap.size (fun k_ => ¬ F239 k_ ∧ ¬ F243 k_ ∧ ¬ F247 k_) (.slice Ao41 t233.length co41) t233) ∧ Aside0 (XS F239 wc w.heap.size (fun k_ => ¬ F234 k_ ∧ ¬ F243 k_ ∧ ¬ F247 k_) (.slice Ao47 t238.length co47) t261) ∧ Aside0 (XS F243 wc w.heap.size (fun k_ => ¬ F234 k_ ∧ ¬ F239 k_ ∧ ¬ F247 k_) (.slice Ao56 t242.length co56) t263) ∧ Aside0 (XS F247 wc w.heap.size (fun k_ => ¬ F234 k_ ∧ ¬ F239 k_ ∧ ¬ F243 k_) (.slice Ao65 t246.length co65) t246) ∧ Aside0 (wc.heap[gb223]? = some (.cells #[(.slice A0_0 l0_0.length c0_0)] 44 (0, 0))) ∧ Aside0 (wc.heap[gb224]? = some (.cells #[(.slice A1_0 l1_0.length c1_0)] 44 (0, 0))) ∧ Aside0 (wc.heap[gb237]? = some (.cells #[(.slice Ao41 t233.length co41)] 25 (0, 0))) ∧ Aside0 (wc.heap[gb241]? = some (.cells #[(.slice Ao47 t238.length co47)] 25 (0, 0))) ∧ Aside0 (wc.heap[gb245]? = some (.cells #[(.slice Ao56 t242.length co56)] 25 (0, 0))) ∧ Aside0 (wc.heap[gb250]? = some (.cells #[(.slice Ao65 t246.length co65)] 25 (0, 0))) ∧ Aside0 (Below w.heap.size w wc))
                case first =>
                  have H := HC107.out;clear HC107
                  by_cases c129 : t262 < 0
                  · rw [if_pos c129] at H
                    have c129b0 : decide (t262 < 0) = true := decide_eq_true c129
                    clear c129;(first | rw [c129b0] | (simp only [i64_w, i32_w]; rw [c129b0]) | skip)
                    have H' := Aside0.mk H
                    clear H
                    go_wp2
                    go_meet
                    case rel => exact ⟨_, (true), q9_100, H', ⟨by have := HJ24.out; first | omega | exact Nat.le_refl _⟩, ⟨by (with_reducible repeat (first | apply XS_alloc | apply XS_drewN | apply XS_drew)); exact XS_mono HO_238000.out (fun _ hk => ⟨hk.1, ⟨hk.2.1, hk.2.2.1⟩⟩)⟩, ⟨by (with_reducible repeat (first | apply XS_alloc | apply XS_drewN | apply XS_drew)); exact XS_mono HO_242000.out (fun _ hk => ⟨hk.1, ⟨hk.2.1, hk.2.2.1⟩⟩)⟩, ⟨by (with_reducible repeat (first | apply XS_alloc | apply XS_drewN | apply XS_drew)); exact XS_mono HO_246000.out (fun _ hk => ⟨hk.1, ⟨hk.2.1, hk.2.2.1⟩⟩)⟩, ⟨by (with_reducible repeat (first | apply XS_alloc | apply XS_drewN | apply XS_drew)); exact XS_mono HO_251000.out (fun _ hk => ⟨hk.1, ⟨hk.2.1, hk.2.2.1⟩⟩)⟩, ⟨by (with_reducible repeat (first | refine blk_drewN ?_ _ | refine blk_drew ?_ | refine blk_alloc ?_ _)); exact BK223.out⟩, ⟨by (with_reducible repeat (first | refine blk_drewN ?_ _ | refine blk_drew ?_ | refine blk_alloc ?_ _)); exact BK224.out⟩, ⟨by (with_reducible repeat (first | refine blk_drewN ?_ _ | refine blk_drew ?_ | refine blk_alloc ?_ _)); exact BK237.out⟩, ⟨by (with_reducible repeat (first | refine blk_drewN ?_ _ | refine blk_drew ?_ | refine blk_alloc ?_ _)); exact BK241.out⟩, ⟨by (with_reducible repeat (first | refine blk_drewN ?_ _ | refine blk_drew ?_ | refine blk_alloc ?_ _)); exact BK245.out⟩, ⟨by (with_reducible repeat (first | refine blk_drewN ?_ _ | refine blk_drew ?_ | refine blk_alloc ?_ _)); exact BK250.out⟩, ⟨q9_0⟩⟩
                  · rw [if_neg c129] at H
                    have c129b0 : decide (t262 < 0) = false := decide_eq_false c129
                    clear c129;(first | rw [c129b0] | (simp only [i64_w, i32_w]; rw [c129b0]) | skip)
                    replace H := Option.bind_eq_some_iff.mp H
                    obtain ⟨t264, A1300, H⟩ := H
                    replace H : (if t264 = true then (laws_FnExactRoughJoin.j1 kj24 t236 (t249 != t236) l0_0 l1_0 t233 t246) else (laws_FnExactRoughJoin.j1 kj24 t236 true l0_0 l1_0 t233 t246)) = some r := H
                    have A130 := Aside0.mk A1300;clear A1300
                    by_cases c131 : t264 = true
                    · subst c131
                      have H1 : (laws_FnExactRoughJoin.j1 kj24 t236 (t249 != t236) l0_0 l1_0 t233 t246) = some r := by rw [if_pos rfl] at H; exact H
                      clear H;have H := H1;clear H1
                      have H' := Aside0.mk H
                      clear H;have hnb132 := NB250_223.out;have hnc132 := NB223_250.out;have hnb133 := NB250_224.out;have hnc133 := NB224_250.out;have hnb134 := NB250_237.out;have hnc134 := NB237_250.out;have hnb135 := NB250_241.out;have hnc135 := NB241_250.out;have hnb136 := NB250_245.out;have hnc136 := NB245_250.out
                      have hcz137_0 : w128.cell? ⟨gb250, 0, none⟩ = some (.slice Ao65 t246.length co65) := (blk_cell BK250.out 0).trans rfl
                      have hfz137_0 := blk_frozen BK250.out 0;have hnb138 := NB237_223.out;have hnc138 := NB223_237.out;have hnb139 := NB237_224.out;have hnc139 := NB224_237.out;have hnb140 := NB237_241.out;have hnc140 := NB241_237.out;have hnb141 := NB237_245.out;have hnc141 := NB245_237.out
                      have hcz142_0 : w128.cell? ⟨gb237, 0, none⟩ = some (.slice Ao41 t233.length co41) := (blk_cell BK237.out 0).trans rfl
                      have hfz142_0 := blk_frozen BK237.out 0
                      go_wp2_with (first | (go_at_call 28; (with_reducible refine (laws_eqRough.calls kj24 _ _ t246 _ _ t233 true _ ?side1 ?side2 ?side3 ?side4 A130.out).mono ?_); (case side1 => exact q9_24); (case side2 => exact (XS_reads HO_251000.out).2.1); (case side3 => exact q9_111); (case side4 => exact (XS_reads HO_238000.out).2.1); rintro e w143 ⟨rfl, hb⟩; have n0_ := z9k (XS_below q9_11 hb); have n1_ := z9k (XS_below q9_12 hb); have n2_ := z9k (XS_below q9_13 hb); have n3_ := z9k (XS_below q9_14 hb); have n4_ := z9k (XS_below q9_31 hb); have n5_ := z9k (XS_below q9_67 hb); have n6_ := z9k (blk_below (g := gb223) (o := .cells #[.slice A0_0 l0_0.length c0_0] 44 (0, 0)) q9_1 hb); have n7_ := z9k (blk_below (g := gb224) (o := .cells #[.slice A1_0 l1_0.length c1_0] 44 (0, 0)) q9_2 hb); have n8_ := z9k (blk_below (g := gb237) (o := .cells #[.slice Ao41 t233.length co41] 25 (0, 0)) q9_4 hb); have n9_ := z9k (blk_below (g := gb241) (o := .cells #[.slice Ao47 t238.length co47] 25 (0, 0)) q9_6 hb); have n10_ := z9k (blk_below (g := gb245) (o := .cells #[.slice Ao56 t242.length co56] 25 (0, 0)) q9_7 hb); have n11_ := z9k (blk_below (g := gb250) (o := .cells #[.slice Ao65 t246.length co65] 25 (0, 0)) q9_8 hb); have n12_ := z9k (below_step q9_0 hb); clear HO_238000; clear HO_242000; clear HO_246000; clear HO_251000; clear HO254; clear HO258; clear BK223; clear BK224; clear BK237; clear BK241; clear BK245; clear BK250; clear HB; have HO_238000 := n0_; have HO_242000 := n1_; have HO_246000 := n2_; have HO_251000 := n3_; have HO254 := n4_; have HO258 := n5_; have BK223 := n6_; have BK224 := n7_; have BK237 := n8_; have BK241 := n9_; have BK245 := n10_; have BK250 := n11_; have HB := n12_; clear n0_ n1_ n2_ n3_ n4_ n5_ n6_ n7_ n8_ n9_ n10_ n11_ n12_; (try clear hb); (try clear hb2); (try clear hk); (try clear hi)))
                      go_meet
                      case rel => exact ⟨_, ((t249 != t236)), q9_100, H', ⟨by have := HJ24.out; first | omega | exact Nat.le_refl _⟩, ⟨by (with_reducible repeat (first | apply XS_alloc | apply XS_drewN | apply XS_drew)); exact XS_mono HO_238000.out (fun _ hk => ⟨hk.1, ⟨hk.2.1, hk.2.2.1⟩⟩)⟩, ⟨by (with_reducible repeat (first | apply XS_alloc | apply XS_drewN | apply XS_drew)); exact XS_mono HO_242000.out (fun _ hk => ⟨hk.1, ⟨hk.2.1, hk.2.2.1⟩⟩)⟩, ⟨by (with_reducible repeat (first | apply XS_alloc | apply XS_drewN | apply XS_drew)); exact XS_mono HO_246000.out (fun _ hk => ⟨hk.1, ⟨hk.2.1, hk.2.2.1⟩⟩)⟩, ⟨by (with_reducible repeat (first | apply XS_alloc | apply XS_drewN | apply XS_drew)); exact XS_mono HO_251000.out (fun _ hk => ⟨hk.1, ⟨hk.2.1, hk.2.2.1⟩⟩)⟩, ⟨by (with_reducible repeat (first | refine blk_drewN ?_ _ | refine blk_drew ?_ | refine blk_alloc ?_ _)); exact BK223.out⟩, ⟨by (with_reducible repeat (first | refine blk_drewN ?_ _ | refine blk_drew ?_ | refine blk_alloc ?_ _)); exact BK224.out⟩, ⟨by (with_reducible repeat (first | refine blk_drewN ?_ _ | refine blk_drew ?_ | refine blk_alloc ?_ _)); exact BK237.out⟩, ⟨by (with_reducible repeat (first | refine blk_drewN ?_ _ | refine blk_drew ?_ | refine blk_alloc ?_ _)); exact BK241.out⟩, ⟨by (with_reducible repeat (first | refine blk_drewN ?_ _ | refine blk_drew ?_ | refine blk_alloc ?_ _)); exact BK245.out⟩, ⟨by (with_reducible repeat (first | refine blk_drewN ?_ _ | refine blk_drew ?_ | refine blk_alloc ?_ _)); exact BK250.out⟩, ⟨q9_0⟩⟩
                    · replace c131 := Bool.eq_false_iff.mpr c131
                      subst c131
                      have H1 : (laws_FnExactRoughJoin.j1 kj24 t236 true l0_0 l1_0 t233 t246) = some r := by rw [if_neg (show ¬ (false = true) by decide)] at H; exact H
                      clear H;have H := H1;clear H1
                      have H' := Aside0.mk H
                      clear H;have hnb144 := NB250_223.out;have hnc144 := NB223_250.out;have hnb145 := NB250_224.out;have hnc145 := NB224_250.out;have hnb146 := NB250_237.out;have hnc146 := NB237_250.out;have hnb147 := NB250_241.out;have hnc147 := NB241_250.out;have hnb148 := NB250_245.out;have hnc148 := NB245_250.out
                      have hcz149_0 : w128.cell? ⟨gb250, 0, none⟩ = some (.slice Ao65 t246.length co65) := (blk_cell BK250.out 0).trans rfl
                      have hfz149_0 := blk_frozen BK250.out 0;have hnb150 := NB237_223.out;have hnc150 := NB223_237.out;have hnb151 := NB237_224.out;have hnc151 := NB224_237.out;have hnb152 := NB237_241.out;have hnc152 := NB241_237.out;have hnb153 := NB237_245.out;have hnc153 := NB245_237.out
                      have hcz154_0 : w128.cell? ⟨gb237, 0, none⟩ = some (.slice Ao41 t233.length co41) := (blk_cell BK237.out 0).trans rfl
                      have hfz154_0 := blk_frozen BK237.out 0
                      go_wp2_with (first | (go_at_call 28; (with_reducible refine (laws_eqRough.calls kj24 _ _ t246 _ _ t233 false _ ?side1 ?side2 ?side3 ?side4 A130.out).mono ?_); (case side1 => exact q9_24); (case side2 => exact (XS_reads HO_251000.out).2.1); (case side3 => exact q9_111); (case side4 => exact (XS_reads HO_238000.out).2.1); rintro e w155 ⟨rfl, hb⟩; have n0_ := z9k (XS_below q9_11 hb); have n1_ := z9k (XS_below q9_12 hb); have n2_ := z9k (XS_below q9_13 hb); have n3_ := z9k (XS_below q9_14 hb); have n4_ := z9k (XS_below q9_31 hb); have n5_ := z9k (XS_below q9_67 hb); have n6_ := z9k (blk_below (g := gb223) (o := .cells #[.slice A0_0 l0_0.length c0_0] 44 (0, 0)) q9_1 hb); have n7_ := z9k (blk_below (g := gb224) (o := .cells #[.slice A1_0 l1_0.length c1_0] 44 (0, 0)) q9_2 hb); have n8_ := z9k (blk_below (g := gb237) (o := .cells #[.slice Ao41 t233.length co41] 25 (0, 0)) q9_4 hb); have n9_ := z9k (blk_below (g := gb241) (o := .cells #[.slice Ao47 t238.length co47] 25 (0, 0)) q9_6 hb); have n10_ := z9k (blk_below (g := gb245) (o := .cells #[.slice Ao56 t242.length co56] 25 (0, 0)) q9_7 hb); have n11_ := z9k (blk_below (g := gb250) (o := .cells #[.slice Ao65 t246.length co65] 25 (0, 0)) q9_8 hb); have n12_ := z9k (below_step q9_0 hb); clear HO_238000; clear HO_242000; clear HO_246000; clear HO_251000; clear HO254; clear HO258; clear BK223; clear BK224; clear BK237; clear BK241; clear BK245; clear BK250; clear HB; have HO_238000 := n0_; have HO_242000 := n1_; have HO_246000 := n2_; have HO_251000 := n3_; have HO254 := n4_; have HO258 := n5_; have BK223 := n6_; have BK224 := n7_; have BK237 := n8_; have BK241 := n9_; have BK245 := n10_; have BK250 := n11_; have HB := n12_; clear n0_ n1_ n2_ n3_ n4_ n5_ n6_ n7_ n8_ n9_ n10_ n11_ n12_; (try clear hb); (try clear hb2); (try clear hk); (try clear hi)))
                      go_meet
                      case rel => exact ⟨_, (true), q9_100, H', ⟨by have := HJ24.out; first | omega | exact Nat.le_refl _⟩, ⟨by (with_reducible repeat (first | apply XS_alloc | apply XS_drewN | apply XS_drew)); exact XS_mono HO_238000.out (fun _ hk => ⟨hk.1, ⟨hk.2.1, hk.2.2.1⟩⟩)⟩, ⟨by (with_reducible repeat (first | apply XS_alloc | apply XS_drewN | apply XS_drew)); exact XS_mono HO_242000.out (fun _ hk => ⟨hk.1, ⟨hk.2.1, hk.2.2.1⟩⟩)⟩, ⟨by (with_reducible repeat (first | apply XS_alloc | apply XS_drewN | apply XS_drew)); exact XS_mono HO_246000.out (fun _ hk => ⟨hk.1, ⟨hk.2.1, hk.2.2.1⟩⟩)⟩, ⟨by (with_reducible repeat (first | apply XS_alloc | apply XS_drewN | apply XS_drew)); exact XS_mono HO_251000.out (fun _ hk => ⟨hk.1, ⟨hk.2.1, hk.2.2.1⟩⟩)⟩, ⟨by (with_reducible repeat (first | refine blk_drewN ?_ _ | refine blk_drew ?_ | refine blk_alloc ?_ _)); exact BK223.out⟩, ⟨by (with_reducible repeat (first | refine blk_drewN ?_ _ | refine blk_drew ?_ | refine blk_alloc ?_ _)); exact BK224.out⟩, ⟨by (with_reducible repeat (first | refine blk_drewN ?_ _ | refine blk_drew ?_ | refine blk_alloc ?_ _)); exact BK237.out⟩, ⟨by (with_reducible repeat (first | refine blk_drewN ?_ _ | refine blk_drew ?_ | refine blk_alloc ?_ _)); exact BK241.out⟩, ⟨by (with_reducible repeat (first | refine blk_drewN ?_ _ | refine blk_drew ?_ | refine blk_alloc ?_ _)); exact BK245.out⟩, ⟨by (with_reducible repeat (first | refine blk_drewN ?_ _ | refine blk_drew ?_ | refine blk_alloc ?_ _)); exact BK250.out⟩, ⟨q9_0⟩⟩
                case rest =>
                  clear HC107
                  try clear c1
                  try clear c2
                  try clear p2
                  try clear c4
                  try clear c5
                  try clear c6
                  try clear c7
                  try clear c8
                  try clear c9
                  try clear c10
                  try clear c11
                  try clear c12
                  try clear c13
                  try clear c14
                  try clear c15
                  try clear c27
                  try clear c28
                  try clear c29
                  try clear c43
                  try clear c48
                  try clear c49
                  try clear c50
                  try clear c52
                  try clear c57
                  try clear c58
                  try clear c59
                  try clear c60
                  try clear c66
                  try clear c67
                  try clear c68
                  try clear c69
                  try clear c70
                  try clear c73
                  try clear c74
                  try clear c75
                  try clear c76
                  try clear c77
                  try clear c78
                  try clear c80
                  try clear c81
                  try clear c82
                  try clear c83
                  try clear c86
                  try clear c87
                  try clear c88
                  try clear c89
                  try clear c90
                  try clear c92
                  try clear c93
                  try clear c94
                  try clear c95
                  try clear c98
                  try clear c101
                  try clear c104
                  try clear c116
                  try clear c117
                  try clear c118
                  try clear c119
                  try clear c120
                  try clear c123
                  try clear c124
                  try clear c125
                  try clear c126
                  try clear c129
                  try clear c129b0
                  try clear c131
                  try clear c132
                  try clear c133
                  try clear c134
                  try clear c135
                  try clear c136
                  try clear c138
                  try clear c139
                  try clear c140
                  try clear c141
                  try clear c144
                  try clear c145
                  try clear c146
                  try clear c147
                  try clear c148
                  try clear c150
                  try clear c151
                  try clear c152
                  try clear c153
                  try clear hcz121_0
                  try clear hcz127_0
                  try clear hcz137_0
                  try clear hcz142_0
                  try clear hcz149_0
                  try clear hcz154_0
                  try clear hcz44_0
                  try clear hcz51_0
                  try clear hcz53_0
                  try clear hcz61_0
                  try clear hcz62_0
                  try clear hcz71_0
                  try clear hcz79_0
                  try clear hcz84_0
                  try clear hcz91_0
                  try clear hcz96_0
                  try clear hfz121_0
                  try clear hfz127_0
                  try clear hfz137_0
                  try clear hfz142_0
                  try clear hfz149_0
                  try clear hfz154_0
                  try clear hfz44_0
                  try clear hfz51_0
                  try clear hfz53_0
                  try clear hfz61_0
                  try clear hfz62_0
                  try clear hfz71_0
                  try clear hfz79_0
                  try clear hfz84_0
                  try clear hfz91_0
                  try clear hfz96_0
                  try clear p2
                  obtain ⟨kq, x82_106, rfl, HA, HJ106, HO_238000, HO_242000, HO_246000, HO_251000, BK223, BK224, BK237, BK241, BK245, BK250, HB⟩ := hcut;have hl242000_106 := (XS_reads HO_242000.out).1
                  rw [hl242000_106] at HO_242000
                  (try simp only [hl242000_106])
                  (try simp only [hl242000_106] at BK223)
                  (try simp only [hl242000_106] at BK224)
                  (try simp only [hl242000_106] at BK237)
                  (try simp only [hl242000_106] at BK241)
                  (try simp only [hl242000_106] at BK245)
                  (try simp only [hl242000_106] at BK250)
                  (try simp only [hl242000_106] at HO_238000)
                  (try simp only [hl242000_106] at HO_246000)
                  (try simp only [hl242000_106] at HO_251000)
                  have hl246000_106 := (XS_reads HO_246000.out).1
                  rw [hl246000_106] at HO_246000
                  (try simp only [hl246000_106])
                  (try simp only [hl246000_106] at BK223)
                  (try simp only [hl246000_106] at BK224)
                  (try simp only [hl246000_106] at BK237)
                  (try simp only [hl246000_106] at BK241)
                  (try simp only [hl246000_106] at BK245)
                  (try simp only [hl246000_106] at BK250)
                  (try simp only [hl246000_106] at HO_238000)
                  (try simp only [hl246000_106] at HO_242000)
                  (try simp only [hl246000_106] at HO_251000)
                  cases kq with
                  | zero => exact absurd HA.out (by simp [laws_FnExactRoughJoin.j1])
                  | succ kj106 =>
                    have H := HA.out;clear HA
                    simp only [laws_FnExactRoughJoin.j1] at H
                    by_cases c156 : x82_106 = true
                    · subst c156
                      have H1 : (some false) = some r := by rw [if_pos rfl] at H; exact H
                      clear H;have H := H1;clear H1
                      obtain rfl := Option.some.inj H
                      go_wp2
                      go_ret
                      exact ⟨q9_30, q9_0⟩
                    · replace c156 := Bool.eq_false_iff.mpr c156
                      subst c156
                      have H1 : ((laws_markRough.f kj106 t246 1).bind fun bt265 => ((laws_heldRough.f kj106 bt265.2 1).bind fun t267 => (if t267 < 0 then (some false) else (if t267 = bt265.1 then ((laws_toRough.f kj106 l0_0).bind fun t268 => ((laws_toRough.f kj106 l1_0).bind fun t271 => ((impl_RoughJoin.f kj106 t268 t271).bind fun bt274 => ((laws_eqRough.f kj106 bt274.1 t233).bind fun t279 => (if t279 = true then (laws_FnExactRoughJoin.j2 kj106 bt265.1 (bt274.2 != t236) bt265.2) else (laws_FnExactRoughJoin.j2 kj106 bt265.1 true bt265.2)))))) else (some false))))) = some r := by rw [if_neg (show ¬ (false = true) by decide)] at H; exact H
                      clear H;have H := H1;clear H1
                      replace H := Option.bind_eq_some_iff.mp H
                      obtain ⟨⟨t265, t266⟩, A1570, H⟩ := H
                      replace H : ((laws_heldRough.f kj106 t266 1).bind fun t267 => (if t267 < 0 then (some false) else (if t267 = t265 then ((laws_toRough.f kj106 l0_0).bind fun t268 => ((laws_toRough.f kj106 l1_0).bind fun t271 => ((impl_RoughJoin.f kj106 t268 t271).bind fun bt274 => ((laws_eqRough.f kj106 bt274.1 t233).bind fun t279 => (if t279 = true then (laws_FnExactRoughJoin.j2 kj106 t265 (bt274.2 != t236) t266) else (laws_FnExactRoughJoin.j2 kj106 t265 true t266)))))) else (some false)))) = some r := H
                      have A157 := Aside0.mk A1570;clear A1570
                      replace H := Option.bind_eq_some_iff.mp H
                      obtain ⟨t267, A1580, H⟩ := H
                      replace H : (if t267 < 0 then (some false) else (if t267 = t265 then ((laws_toRough.f kj106 l0_0).bind fun t268 => ((laws_toRough.f kj106 l1_0).bind fun t271 => ((impl_RoughJoin.f kj106 t268 t271).bind fun bt274 => ((laws_eqRough.f kj106 bt274.1 t233).bind fun t279 => (if t279 = true then (laws_FnExactRoughJoin.j2 kj106 t265 (bt274.2 != t236) t266) else (laws_FnExactRoughJoin.j2 kj106 t265 true t266)))))) else (some false))) = some r := H
                      have A158 := Aside0.mk A1580;clear A1580
                      by_cases c159 : t267 < 0
                      · rw [if_pos c159] at H
                        have c159b0 : decide (t267 < 0) = true := decide_eq_true c159
                        clear c159
                        obtain rfl := Option.some.inj H
                        have hnb160 := NB250_223.out;have hnc160 := NB223_250.out;have hnb161 := NB250_224.out;have hnc161 := NB224_250.out;have hnb162 := NB250_237.out;have hnc162 := NB237_250.out;have hnb163 := NB250_241.out;have hnc163 := NB241_250.out;have hnb164 := NB250_245.out;have hnc164 := NB245_250.out
                        have hcz165_0 : wc.cell? ⟨gb250, 0, none⟩ = some (.slice Ao65 t246.length co65) := (blk_cell BK250.out 0).trans rfl
                        have hfz165_0 := blk_frozen BK250.out 0
                        go_wp2_with (first | ((with_reducible refine gate_callee (f := 29) rfl ?_); refine goesL_ (some 85) rfl rfl Try.func29 (by kernel_rfl) rfl #[.agg #[.slice Ao65 t246.length co65], .int .i64 1] rfl q9_5 ?_; (with_reducible refine (laws_markRough.calls kj106 ?p3_ (.slice Ao65 t246.length co65) t246 1 t265 t266 w _ ?side1 ?side2 A157.out).mono ?_); (case side1 => exact q9_0); (case side2 => exact XS_own HO_251000.out); rintro e w166 ⟨rfl, hy0, hb, hkp⟩; refine ⟨_, rfl, ?_⟩; have n0_ := z9k (XS_mono (ok' := fun k_ => ¬ F239 k_ ∧ ¬ F243 k_ ∧ ¬ F247 k_) (XS_keptB (HO_238000.out) hkp (fun k_ hk_ hs_ => (hk_.2.2) hs_.1.1)) (fun k_ hk_ => ⟨hk_.1.1, hk_.1.2.1, hk_.1.2.2⟩)); have n1_ := z9k (XS_mono (ok' := fun k_ => ¬ F234 k_ ∧ ¬ F243 k_ ∧ ¬ F247 k_) (XS_keptB (HO_242000.out) hkp (fun k_ hk_ hs_ => (hk_.2.2) hs_.1.1)) (fun k_ hk_ => ⟨hk_.1.1, hk_.1.2.1, hk_.1.2.2⟩)); have n2_ := z9k (XS_mono (ok' := fun k_ => ¬ F234 k_ ∧ ¬ F239 k_ ∧ ¬ F247 k_) (XS_keptB (HO_246000.out) hkp (fun k_ hk_ hs_ => (hk_.2.2) hs_.1.1)) (fun k_ hk_ => ⟨hk_.1.1, hk_.1.2.1, hk_.1.2.2⟩)); have n3_ := z9k (XS_reok HO_251000.out hy0 hkp); have n4_ := z9k (XS_blk_kept q9_1 hkp (by decide)); have n5_ := z9k (XS_blk_kept q9_2 hkp (by decide)); have n6_ := z9k (XS_blk_kept q9_4 hkp (by decide)); have n7_ := z9k (XS_blk_kept q9_6 hkp (by decide)); have n8_ := z9k (XS_blk_kept q9_7 hkp (by decide)); have n9_ := z9k (XS_blk_kept q9_8 hkp (by decide)); have n10_ := z9k (hb); clear HO_238000; clear HO_242000; clear HO_246000; clear HO_251000; clear BK223; clear BK224; clear BK237; clear BK241; clear BK245; clear BK250; clear HB; have HO_238000 := n0_; have HO_242000 := n1_; have HO_246000 := n2_; have HO_251000 := n3_; have BK223 := n4_; have BK224 := n5_; have BK237 := n6_; have BK241 := n7_; have BK245 := n8_; have BK250 := n9_; have HB := n10_; clear n0_ n1_ n2_ n3_ n4_ n5_ n6_ n7_ n8_ n9_ n10_; (try clear hb); (try clear hkp); (try clear hy0); have hcz167_0 : w166.cell? ⟨gb250, 0, none⟩ = some (.slice Ao65 t246.length co65) := (blk_cell BK250.out 0).trans rfl; have hfz167_0 := blk_frozen BK250.out 0) | ((with_reducible refine gate_callee (f := 30) rfl ?_); refine goesL_ (some 88) rfl rfl Try.func30 (by kernel_rfl) rfl #[.agg #[.slice Ao65 t266.length co65], .int .i64 1] rfl q9_54 ?_; (with_reducible refine (laws_heldRough.calls kj106 _ _ t266 1 t267 _ ?side1 ?side2 A158.out).mono ?_); (case side1 => exact q9_24); (case side2 => exact q9_104); rintro e w168 ⟨rfl, hb⟩; refine ⟨_, rfl, ?_⟩; have n0_ := z9k (XS_below q9_11 hb); have n1_ := z9k (XS_below q9_12 hb); have n2_ := z9k (XS_below q9_13 hb); have n3_ := z9k (XS_below q9_14 hb); have n4_ := z9k (blk_below (g := gb223) (o := .cells #[.slice A0_0 l0_0.length c0_0] 44 (0, 0)) q9_1 hb); have n5_ := z9k (blk_below (g := gb224) (o := .cells #[.slice A1_0 l1_0.length c1_0] 44 (0, 0)) q9_2 hb); have n6_ := z9k (blk_below (g := gb237) (o := .cells #[.slice Ao41 t233.length co41] 25 (0, 0)) q9_4 hb); have n7_ := z9k (blk_below (g := gb241) (o := .cells #[.slice Ao47 t261.length co47] 25 (0, 0)) q9_6 hb); have n8_ := z9k (blk_below (g := gb245) (o := .cells #[.slice Ao56 t263.length co56] 25 (0, 0)) q9_7 hb); have n9_ := z9k (blk_below (g := gb250) (o := .cells #[.slice Ao65 t246.length co65] 25 (0, 0)) q9_8 hb); have n10_ := z9k (below_step q9_0 hb); clear HO_238000; clear HO_242000; clear HO_246000; clear HO_251000; clear BK223; clear BK224; clear BK237; clear BK241; clear BK245; clear BK250; clear HB; have HO_238000 := n0_; have HO_242000 := n1_; have HO_246000 := n2_; have HO_251000 := n3_; have BK223 := n4_; have BK224 := n5_; have BK237 := n6_; have BK241 := n7_; have BK245 := n8_; have BK250 := n9_; have HB := n10_; clear n0_ n1_ n2_ n3_ n4_ n5_ n6_ n7_ n8_ n9_ n10_; (try clear hb); (try clear hb2); (try clear hk); (try clear hi)))
                        go_ret
                        exact ⟨q9_30, q9_0⟩
                      · rw [if_neg c159] at H
                        have c159b0 : decide (t267 < 0) = false := decide_eq_false c159
                        clear c159
                        by_cases c169 : t267 = t265
                        · rw [if_pos c169] at H
                          have c169b0 : (t267 == t265) = true := beq_iff_eq.mpr c169
                          have c169b1 : (t267 != t265) = false := bne_eq_false_iff_eq.mpr c169
                          clear c169
                          replace H := Option.bind_eq_some_iff.mp H
                          obtain ⟨t268, A1700, H⟩ := H
                          replace H : ((laws_toRough.f kj106 l1_0).bind fun t271 => ((impl_RoughJoin.f kj106 t268 t271).bind fun bt274 => ((laws_eqRough.f kj106 bt274.1 t233).bind fun t279 => (if t279 = true then (laws_FnExactRoughJoin.j2 kj106 t265 (bt274.2 != t236) t266) else (laws_FnExactRoughJoin.j2 kj106 t265 true t266))))) = some r := H
                          have A170 := Aside0.mk A1700;clear A1700
                          replace H := Option.bind_eq_some_iff.mp H
                          obtain ⟨t271, A1710, H⟩ := H
                          replace H : ((impl_RoughJoin.f kj106 t268 t271).bind fun bt274 => ((laws_eqRough.f kj106 bt274.1 t233).bind fun t279 => (if t279 = true then (laws_FnExactRoughJoin.j2 kj106 t265 (bt274.2 != t236) t266) else (laws_FnExactRoughJoin.j2 kj106 t265 true t266)))) = some r := H
                          have A171 := Aside0.mk A1710;clear A1710
                          replace H := Option.bind_eq_some_iff.mp H
                          obtain ⟨⟨t274, t277⟩, A1720, H⟩ := H
                          replace H : ((laws_eqRough.f kj106 t274 t233).bind fun t279 => (if t279 = true then (laws_FnExactRoughJoin.j2 kj106 t265 (t277 != t236) t266) else (laws_FnExactRoughJoin.j2 kj106 t265 true t266))) = some r := H
                          have A172 := Aside0.mk A1720;clear A1720;have HC173 := Aside0.mk H;clear H;have hnb174 := NB250_223.out;have hnc174 := NB223_250.out;have hnb175 := NB250_224.out;have hnc175 := NB224_250.out;have hnb176 := NB250_237.out;have hnc176 := NB237_250.out;have hnb177 := NB250_241.out;have hnc177 := NB241_250.out;have hnb178 := NB250_245.out;have hnc178 := NB245_250.out
                          have hcz179_0 : wc.cell? ⟨gb250, 0, none⟩ = some (.slice Ao65 t246.length co65) := (blk_cell BK250.out 0).trans rfl
                          have hfz179_0 := blk_frozen BK250.out 0
                          try go_wp2_with (first | ((with_reducible refine gate_callee (f := 29) rfl ?_); refine goesL_ (some 85) rfl rfl Try.func29 (by kernel_rfl) rfl #[.agg #[.slice Ao65 t246.length co65], .int .i64 1] rfl q9_5 ?_; (with_reducible refine (laws_markRough.calls kj106 ?p4_ (.slice Ao65 t246.length co65) t246 1 t265 t266 w _ ?side1 ?side2 A157.out).mono ?_); (case side1 => exact q9_0); (case side2 => exact XS_own HO_251000.out); rintro e w180 ⟨rfl, hy0, hb, hkp⟩; refine ⟨_, rfl, ?_⟩; have n0_ := z9k (XS_mono (ok' := fun k_ => ¬ F239 k_ ∧ ¬ F243 k_ ∧ ¬ F247 k_) (XS_keptB (HO_238000.out) hkp (fun k_ hk_ hs_ => (hk_.2.2) hs_.1.1)) (fun k_ hk_ => ⟨hk_.1.1, hk_.1.2.1, hk_.1.2.2⟩)); have n1_ := z9k (XS_mono (ok' := fun k_ => ¬ F234 k_ ∧ ¬ F243 k_ ∧ ¬ F247 k_) (XS_keptB (HO_242000.out) hkp (fun k_ hk_ hs_ => (hk_.2.2) hs_.1.1)) (fun k_ hk_ => ⟨hk_.1.1, hk_.1.2.1, hk_.1.2.2⟩)); have n2_ := z9k (XS_mono (ok' := fun k_ => ¬ F234 k_ ∧ ¬ F239 k_ ∧ ¬ F247 k_) (XS_keptB (HO_246000.out) hkp (fun k_ hk_ hs_ => (hk_.2.2) hs_.1.1)) (fun k_ hk_ => ⟨hk_.1.1, hk_.1.2.1, hk_.1.2.2⟩)); have n3_ := z9k (XS_reok HO_251000.out hy0 hkp); have n4_ := z9k (XS_blk_kept q9_1 hkp (by decide)); have n5_ := z9k (XS_blk_kept q9_2 hkp (by decide)); have n6_ := z9k (XS_blk_kept q9_4 hkp (by decide)); have n7_ := z9k (XS_blk_kept q9_6 hkp (by decide)); have n8_ := z9k (XS_blk_kept q9_7 hkp (by decide)); have n9_ := z9k (XS_blk_kept q9_8 hkp (by decide)); have n10_ := z9k (hb); clear HO_238000; clear HO_242000; clear HO_246000; clear HO_251000; clear BK223; clear BK224; clear BK237; clear BK241; clear BK245; clear BK250; clear HB; have HO_238000 := n0_; have HO_242000 := n1_; have HO_246000 := n2_; have HO_251000 := n3_; have BK223 := n4_; have BK224 := n5_; have BK237 := n6_; have BK241 := n7_; have BK245 := n8_; have BK250 := n9_; have HB := n10_; clear n0_ n1_ n2_ n3_ n4_ n5_ n6_ n7_ n8_ n9_ n10_; (try clear hb); (try clear hkp); (try clear hy0); have hcz181_0 : w180.cell? ⟨gb250, 0, none⟩ = some (.slice Ao65 t246.length co65) := (blk_cell BK250.out 0).trans rfl; have hfz181_0 := blk_frozen BK250.out 0) | ((with_reducible refine gate_callee (f := 30) rfl ?_); refine goesL_ (some 88) rfl rfl Try.func30 (by kernel_rfl) rfl #[.agg #[.slice Ao65 t266.length co65], .int .i64 1] rfl q9_54 ?_; (with_reducible refine (laws_heldRough.calls kj106 _ _ t266 1 t267 _ ?side1 ?side2 A158.out).mono ?_); (case side1 => exact q9_24); (case side2 => exact q9_104); rintro e w182 ⟨rfl, hb⟩; refine ⟨_, rfl, ?_⟩; have n0_ := z9k (XS_below q9_11 hb); have n1_ := z9k (XS_below q9_12 hb); have n2_ := z9k (XS_below q9_13 hb); have n3_ := z9k (XS_below q9_14 hb); have n4_ := z9k (blk_below (g := gb223) (o := .cells #[.slice A0_0 l0_0.length c0_0] 44 (0, 0)) q9_1 hb); have n5_ := z9k (blk_below (g := gb224) (o := .cells #[.slice A1_0 l1_0.length c1_0] 44 (0, 0)) q9_2 hb); have n6_ := z9k (blk_below (g := gb237) (o := .cells #[.slice Ao41 t233.length co41] 25 (0, 0)) q9_4 hb); have n7_ := z9k (blk_below (g := gb241) (o := .cells #[.slice Ao47 t261.length co47] 25 (0, 0)) q9_6 hb); have n8_ := z9k (blk_below (g := gb245) (o := .cells #[.slice Ao56 t263.length co56] 25 (0, 0)) q9_7 hb); have n9_ := z9k (blk_below (g := gb250) (o := .cells #[.slice Ao65 t246.length co65] 25 (0, 0)) q9_8 hb); have n10_ := z9k (below_step q9_0 hb); clear HO_238000; clear HO_242000; clear HO_246000; clear HO_251000; clear BK223; clear BK224; clear BK237; clear BK241; clear BK245; clear BK250; clear HB; have HO_238000 := n0_; have HO_242000 := n1_; have HO_246000 := n2_; have HO_251000 := n3_; have BK223 := n4_; have BK224 := n5_; have BK237 := n6_; have BK241 := n7_; have BK245 := n8_; have BK250 := n9_; have HB := n10_; clear n0_ n1_ n2_ n3_ n4_ n5_ n6_ n7_ n8_ n9_ n10_; (try clear hb); (try clear hb2); (try clear hk); (try clear hi)))
                          have n0_ := z9k (XS_drew HO_238000.out);have n1_ := z9k (XS_drew HO_242000.out);have n2_ := z9k (XS_drew HO_246000.out);have n3_ := z9k (XS_drew HO_251000.out);have n4_ := z9k (blk_drew BK223.out);have n5_ := z9k (blk_drew BK224.out);have n6_ := z9k (blk_drew BK237.out);have n7_ := z9k (blk_drew BK241.out);have n8_ := z9k (blk_drew BK245.out);have n9_ := z9k (blk_drew BK250.out);have n10_ := z9k (below_drew1 HB.out);clear HO_238000 HO_242000 HO_246000 HO_251000 BK223 BK224 BK237 BK241 BK245 BK250 HB;have HO_238000 := n0_;have HO_242000 := n1_;have HO_246000 := n2_;have HO_251000 := n3_;have BK223 := n4_;have BK224 := n5_;have BK237 := n6_;have BK241 := n7_;have BK245 := n8_;have BK250 := n9_;have HB := n10_;clear n0_ n1_ n2_ n3_ n4_ n5_ n6_ n7_ n8_ n9_ n10_;refine start_ (n := 11) (S := fun w' => w'.cell? ⟨gb223, 0, none⟩ = some (.slice A0_0 l0_0.length c0_0) ∧ w'.cell? ⟨gb224, 0, none⟩ = some (.slice A1_0 l1_0.length c1_0)) (ds := []) #[false, false, false, false, false, false, false, false, false, false, false] (by kernel_rfl) rfl rfl ⟨(blk_cell BK223.out 0).trans rfl, (blk_cell BK224.out 0).trans rfl⟩ (fun hHeld => ?_); refine with_tabW laws_FnExactRoughJoin.tab31 laws_FnExactRoughJoin.bits31 (fun HT_ HW_ => ?_)
                          generalize w182.drew = w183 at HO_238000 HO_242000 HO_246000 HO_251000 BK223 BK224 BK237 BK241 BK245 BK250 HB hHeld ⊢
                          refine take_ (i := 0) (N := some 95) (v := ?_) (a' := ?_) #[true, false, false, false, false, false, false, false, false, false, false] rfl rfl (take_ofW HT_.out HW_.out (by kernel_rfl)) (fun _ _ _ h => h) (Or.inl ⟨by rfl, ?_⟩) hHeld ?_ ?_;rotate_left
                          · rintro w' ⟨s0, s1⟩
                            go_simp
                            with_reducible rfl
                          rotate_left
                          · simp only [Act.put, z9a, z9b, z9c, i64_w, i32_w]
                            rfl
                          refine take_ (i := 2) (N := some 97) (v := ?_) (a' := ?_) #[true, false, true, false, false, false, false, false, false, false, false] rfl rfl (take_ofW HT_.out HW_.out (by kernel_rfl)) (fun _ _ _ h => h) (Or.inl ⟨by rfl, ?_⟩) hHeld ?_ ?_;rotate_left
                          · rintro w' ⟨s0, s1⟩
                            go_simp
                            with_reducible rfl
                          rotate_left
                          · simp only [Act.put, z9a, z9b, z9c, i64_w, i32_w]
                            rfl
                          refine join_ (σ := (Value × Value × Value × Nat) × (Nat → Prop) × (Nat → Prop) × (Nat → Prop)) 2 #[true, true, true, true, true, true, true, true, true, false, false] (fun s_ => [(96, .agg #[s_.1.1]), (98, .agg #[s_.1.2.1]), (99, .tuple #[.agg #[s_.1.2.2.1], .bool t277]), (15, .pointer (some ⟨s_.1.2.2.2, 0, none⟩)), (94, .tuple #[.agg #[s_.1.2.2.1], .bool t277]), (100, .agg #[s_.1.2.2.1]), (101, .bool t277)]) (fun s_ w' => (w'.cell? ⟨gb223, 0, none⟩ = some (.slice A0_0 l0_0.length c0_0) ∧ w'.cell? ⟨gb224, 0, none⟩ = some (.slice A1_0 l1_0.length c1_0)) ∧ (XS s_.2.1 w' w.heap.size (fun k_ => ¬ s_.2.2.1 k_ ∧ ¬ s_.2.2.2 k_ ∧ ¬ F234 k_ ∧ ¬ F239 k_ ∧ ¬ F243 k_ ∧ ¬ F247 k_) s_.1.1 t268) ∧ (XS s_.2.2.1 w' w.heap.size (fun k_ => ¬ s_.2.1 k_ ∧ ¬ s_.2.2.2 k_ ∧ ¬ F234 k_ ∧ ¬ F239 k_ ∧ ¬ F243 k_ ∧ ¬ F247 k_) s_.1.2.1 t271) ∧ (XS s_.2.2.2 w' w.heap.size (fun k_ => ¬ s_.2.1 k_ ∧ ¬ s_.2.2.1 k_ ∧ ¬ F234 k_ ∧ ¬ F239 k_ ∧ ¬ F243 k_ ∧ ¬ F247 k_) s_.1.2.2.1 t274) ∧ (XS F234 w' w.heap.size (fun k_ => ¬ s_.2.1 k_ ∧ ¬ s_.2.2.1 k_ ∧ ¬ s_.2.2.2 k_ ∧ ¬ F239 k_ ∧ ¬ F243 k_ ∧ ¬ F247 k_) (.slice Ao41 t233.length co41) t233) ∧ (XS F239 w' w.heap.size (fun k_ => ¬ s_.2.1 k_ ∧ ¬ s_.2.2.1 k_ ∧ ¬ s_.2.2.2 k_ ∧ ¬ F234 k_ ∧ ¬ F243 k_ ∧ ¬ F247 k_) (.slice Ao47 t261.length co47) t261) ∧ (XS F243 w' w.heap.size (fun k_ => ¬ s_.2.1 k_ ∧ ¬ s_.2.2.1 k_ ∧ ¬ s_.2.2.2 k_ ∧ ¬ F234 k_ ∧ ¬ F239 k_ ∧ ¬ F247 k_) (.slice Ao56 t263.length co56) t263) ∧ (XS F247 w' w.heap.size (fun k_ => ¬ s_.2.1 k_ ∧ ¬ s_.2.2.1 k_ ∧ ¬ s_.2.2.2 k_ ∧ ¬ F234 k_ ∧ ¬ F239 k_ ∧ ¬ F243 k_) (.slice Ao65 t246.length co65) t266) ∧ (w'.heap[gb223]? = some (.cells #[.slice A0_0 l0_0.length c0_0] 44 (0, 0))) ∧ (w'.heap[gb224]? = some (.cells #[.slice A1_0 l1_0.length c1_0] 44 (0, 0))) ∧ (w'.heap[gb237]? = some (.cells #[.slice Ao41 t233.length co41] 25 (0, 0))) ∧ (w'.heap[gb241]? = some (.cells #[.slice Ao47 t261.length co47] 25 (0, 0))) ∧ (w'.heap[gb245]? = some (.cells #[.slice Ao56 t263.length co56] 25 (0, 0))) ∧ (w'.heap[gb250]? = some (.cells #[.slice Ao65 t246.length co65] 25 (0, 0))) ∧ (w'.heap[s_.1.2.2.2]? = some (.cells #[.slice none 0 0] 25 (0, 0))) ∧ (w.heap.size ≤ s_.1.2.2.2) ∧ (w.heap.size ≤ s_.1.2.2.2) ∧ (gb223 ≠ s_.1.2.2.2) ∧ (s_.1.2.2.2 ≠ gb223) ∧ (gb224 ≠ s_.1.2.2.2) ∧ (s_.1.2.2.2 ≠ gb224) ∧ (gb237 ≠ s_.1.2.2.2) ∧ (s_.1.2.2.2 ≠ gb237) ∧ (gb241 ≠ s_.1.2.2.2) ∧ (s_.1.2.2.2 ≠ gb241) ∧ (gb245 ≠ s_.1.2.2.2) ∧ (s_.1.2.2.2 ≠ gb245) ∧ (gb250 ≠ s_.1.2.2.2) ∧ (s_.1.2.2.2 ≠ gb250) ∧ (Below w.heap.size w w')) ?_ ?_;rotate_left
                          · intro hCont
                            refine two_ (i := 1) (j := 8) (Ni := some 96) (Nj := some 15) #[true, true, true, false, false, false, false, false, false, false, false] #[true, false, true, false, false, false, false, false, true, false, false] rfl rfl rfl rfl (two_of HT_.out (by kernel_rfl)) (by decide) (by decide) (fun K hK => ?_) (fun K hK => ?_)
                            · skip
                              refine goes_ Try.func27 (by kernel_rfl) rfl #[.agg #[.slice A0_0 l0_0.length c0_0]] (by rfl) rfl rfl q9_5 ?_
                              with_reducible refine (laws_toRough.calls kj106 _ _ l0_0 t268 _ ?side1 ?side2 A170.out).mono ?_
                              (case side1 => exact q9_16);(case side2 => exact HC0_0.out);rintro e w184 ⟨v269, rfl, ho0, hb⟩; obtain ⟨F269, hF0, ho0⟩ := XS_intro ho0;refine ⟨_, rfl, ?_⟩;have n0_ := z9k (XS_elder q9_11 hF0 hb);have n1_ := z9k (XS_elder q9_12 hF0 hb);have n2_ := z9k (XS_elder q9_13 hF0 hb);have n3_ := z9k (XS_elder q9_14 hF0 hb);have n4_ := z9k (XS_lower (XS_new (XS_new (XS_new (XS_new ho0 (XS_lt q9_11)) (XS_lt q9_12)) (XS_lt q9_13)) (XS_lt q9_14)) (below_size q9_0));have n5_ := z9k (blk_below (g := gb223) (o := .cells #[.slice A0_0 l0_0.length c0_0] 44 (0, 0)) q9_1 hb);have n6_ := z9k (blk_below (g := gb224) (o := .cells #[.slice A1_0 l1_0.length c1_0] 44 (0, 0)) q9_2 hb);have n7_ := z9k (blk_below (g := gb237) (o := .cells #[.slice Ao41 t233.length co41] 25 (0, 0)) q9_4 hb);have n8_ := z9k (blk_below (g := gb241) (o := .cells #[.slice Ao47 t261.length co47] 25 (0, 0)) q9_6 hb);have n9_ := z9k (blk_below (g := gb245) (o := .cells #[.slice Ao56 t263.length co56] 25 (0, 0)) q9_7 hb);have n10_ := z9k (blk_below (g := gb250) (o := .cells #[.slice Ao65 t246.length co65] 25 (0, 0)) q9_8 hb);have n11_ := z9k (below_step q9_0 hb);clear HO_238000 HO_242000 HO_246000 HO_251000 BK223 BK224 BK237 BK241 BK245 BK250 HB;have HO_238000 := n0_;have HO_242000 := n1_;have HO_246000 := n2_;have HO_251000 := n3_;have HO270 := n4_;have BK223 := n5_;have BK224 := n6_;have BK237 := n7_;have BK241 := n8_;have BK245 := n9_;have BK250 := n10_;have HB := n11_;clear n0_ n1_ n2_ n3_ n4_ n5_ n6_ n7_ n8_ n9_ n10_ n11_;(try clear hb);(try clear hb2);(try clear hk);(try clear hi);(try clear ho0); (try clear hF0);refine hK.out _ _ ⟨(blk_cell BK223.out 0).trans rfl, (blk_cell BK224.out 0).trans rfl⟩ (fun hHeld => ?_);clear hK K;refine norm_ (a' := ?_) ?_ ?_;rotate_left
                              · show Act.put _ (some 96) _ = _
                                simp only [Act.put, z9a, z9b, z9c, i64_w, i32_w]
                                rfl
                              refine two_ (i := 3) (j := 8) (Ni := some 98) (Nj := some 15) #[true, true, true, true, false, false, false, false, false, false, false] #[true, true, true, false, false, false, false, false, true, false, false] rfl rfl rfl rfl (two_of HT_.out (by kernel_rfl)) (by decide) (by decide) (fun K hK => ?_) (fun K hK => ?_)
                              · skip
                                refine goes_ Try.func27 (by kernel_rfl) rfl #[.agg #[.slice A1_0 l1_0.length c1_0]] (by rfl) rfl rfl q9_5 ?_
                                with_reducible refine (laws_toRough.calls kj106 _ _ l1_0 t271 _ ?side1 ?side2 A171.out).mono ?_
                                (case side1 => exact q9_17);(case side2 => exact HC1_0.out);rintro e w185 ⟨v272, rfl, ho0, hb⟩; obtain ⟨F272, hF0, ho0⟩ := XS_intro ho0;refine ⟨_, rfl, ?_⟩;have n0_ := z9k (XS_elder q9_11 hF0 hb);have n1_ := z9k (XS_elder q9_12 hF0 hb);have n2_ := z9k (XS_elder q9_13 hF0 hb);have n3_ := z9k (XS_elder q9_14 hF0 hb);have n4_ := z9k (XS_elder q9_18 hF0 hb);have n5_ := z9k (XS_lower (XS_new (XS_new (XS_new (XS_new (XS_new ho0 (XS_lt q9_11)) (XS_lt q9_12)) (XS_lt q9_13)) (XS_lt q9_14)) (XS_lt q9_18)) (below_size q9_0));have n6_ := z9k (blk_below (g := gb223) (o := .cells #[.slice A0_0 l0_0.length c0_0] 44 (0, 0)) q9_1 hb);have n7_ := z9k (blk_below (g := gb224) (o := .cells #[.slice A1_0 l1_0.length c1_0] 44 (0, 0)) q9_2 hb);have n8_ := z9k (blk_below (g := gb237) (o := .cells #[.slice Ao41 t233.length co41] 25 (0, 0)) q9_4 hb);have n9_ := z9k (blk_below (g := gb241) (o := .cells #[.slice Ao47 t261.length co47] 25 (0, 0)) q9_6 hb);have n10_ := z9k (blk_below (g := gb245) (o := .cells #[.slice Ao56 t263.length co56] 25 (0, 0)) q9_7 hb);have n11_ := z9k (blk_below (g := gb250) (o := .cells #[.slice Ao65 t246.length co65] 25 (0, 0)) q9_8 hb);have n12_ := z9k (below_step q9_0 hb);clear HO_238000 HO_242000 HO_246000 HO_251000 HO270 BK223 BK224 BK237 BK241 BK245 BK250 HB;have HO_238000 := n0_;have HO_242000 := n1_;have HO_246000 := n2_;have HO_251000 := n3_;have HO270 := n4_;have HO273 := n5_;have BK223 := n6_;have BK224 := n7_;have BK237 := n8_;have BK241 := n9_;have BK245 := n10_;have BK250 := n11_;have HB := n12_;clear n0_ n1_ n2_ n3_ n4_ n5_ n6_ n7_ n8_ n9_ n10_ n11_ n12_;(try clear hb);(try clear hb2);(try clear hk);(try clear hi);(try clear ho0); (try clear hF0);obtain ⟨Ao186, co186, eo186⟩ := XS_slice HO270.out;(first | subst eo186 | (injection eo186 with f1_ f2_ f3_; have f4_ := f1_.symm; have f5_ := f3_.symm; clear f1_ f2_ f3_; subst f4_; subst f5_));obtain ⟨Ao187, co187, eo187⟩ := XS_slice HO273.out;(first | subst eo187 | (injection eo187 with f1_ f2_ f3_; have f4_ := f1_.symm; have f5_ := f3_.symm; clear f1_ f2_ f3_; subst f4_; subst f5_));refine hK.out _ _ ⟨(blk_cell BK223.out 0).trans rfl, (blk_cell BK224.out 0).trans rfl⟩ (fun hHeld => ?_);clear hK K;refine norm_ (a' := ?_) ?_ ?_;rotate_left
                                · show Act.put _ (some 98) _ = _
                                  simp only [Act.put, z9a, z9b, z9c, i64_w, i32_w]
                                  rfl
                                refine two_ (i := 4) (j := 8) (Ni := some 99) (Nj := some 15) #[true, true, true, true, true, false, false, false, false, false, false] #[true, true, true, true, false, false, false, false, true, false, false] rfl rfl rfl rfl (two_of HT_.out (by kernel_rfl)) (by decide) (by decide) (fun K hK => ?_) (fun K hK => ?_)
                                · skip
                                  refine goes_ Try.func14 (by kernel_rfl) rfl #[.agg #[.slice Ao186 t268.length co186], .agg #[.slice Ao187 t271.length co187]] (by rfl) rfl rfl q9_5 ?_
                                  with_reducible refine (impl_RoughJoin.calls kj106 _ _ t268 _ _ t271 t274 t277 _ ?side1 ?side2 ?side3 ?side4 A172.out).mono ?_
                                  (case side1 => exact q9_50);(case side2 => exact (XS_reads HO270.out).2.1);(case side3 => exact q9_51);(case side4 => exact (XS_reads HO273.out).2.1);rintro e w188 ⟨v275, rfl, ho0, hb⟩; obtain ⟨F275, hF0, ho0⟩ := XS_intro ho0;refine ⟨_, rfl, ?_⟩;have n0_ := z9k (XS_elder q9_11 hF0 hb);have n1_ := z9k (XS_elder q9_12 hF0 hb);have n2_ := z9k (XS_elder q9_13 hF0 hb);have n3_ := z9k (XS_elder q9_14 hF0 hb);have n4_ := z9k (XS_elder q9_18 hF0 hb);have n5_ := z9k (XS_elder q9_32 hF0 hb);have n6_ := z9k (XS_lower (XS_new (XS_new (XS_new (XS_new (XS_new (XS_new ho0 (XS_lt q9_11)) (XS_lt q9_12)) (XS_lt q9_13)) (XS_lt q9_14)) (XS_lt q9_18)) (XS_lt q9_32)) (below_size q9_0));have n7_ := z9k (blk_below (g := gb223) (o := .cells #[.slice A0_0 l0_0.length c0_0] 44 (0, 0)) q9_1 hb);have n8_ := z9k (blk_below (g := gb224) (o := .cells #[.slice A1_0 l1_0.length c1_0] 44 (0, 0)) q9_2 hb);have n9_ := z9k (blk_below (g := gb237) (o := .cells #[.slice Ao41 t233.length co41] 25 (0, 0)) q9_4 hb);have n10_ := z9k (blk_below (g := gb241) (o := .cells #[.slice Ao47 t261.length co47] 25 (0, 0)) q9_6 hb);have n11_ := z9k (blk_below (g := gb245) (o := .cells #[.slice Ao56 t263.length co56] 25 (0, 0)) q9_7 hb);have n12_ := z9k (blk_below (g := gb250) (o := .cells #[.slice Ao65 t246.length co65] 25 (0, 0)) q9_8 hb);have n13_ := z9k (below_step q9_0 hb);clear HO_238000 HO_242000 HO_246000 HO_251000 HO270 HO273 BK223 BK224 BK237 BK241 BK245 BK250 HB;have HO_238000 := n0_;have HO_242000 := n1_;have HO_246000 := n2_;have HO_251000 := n3_;have HO270 := n4_;have HO273 := n5_;have HO276 := n6_;have BK223 := n7_;have BK224 := n8_;have BK237 := n9_;have BK241 := n10_;have BK245 := n11_;have BK250 := n12_;have HB := n13_;clear n0_ n1_ n2_ n3_ n4_ n5_ n6_ n7_ n8_ n9_ n10_ n11_ n12_ n13_;(try clear hb);(try clear hb2);(try clear hk);(try clear hi);(try clear ho0); (try clear hF0);refine hK.out _ _ ⟨(blk_cell BK223.out 0).trans rfl, (blk_cell BK224.out 0).trans rfl⟩ (fun hHeld => ?_);clear hK K;refine norm_ (a' := ?_) ?_ ?_;rotate_left
                                  · show Act.put _ (some 99) _ = _
                                    simp only [Act.put, z9a, z9b, z9c, i64_w, i32_w]
                                    rfl
                                  refine pure_ (i := 5) (N := some 94) (v := ?_) (a' := ?_) #[true, true, true, true, true, true, false, false, false, false, false] rfl rfl (any_of HT_.out (by kernel_rfl)) (fun _ _ _ h => h) (Or.inl ⟨by rfl, ?_⟩) ?_ ?_;rotate_left
                                  · intro w'
                                    go_simp
                                    with_reducible rfl
                                  rotate_left
                                  · simp only [Act.put, z9a, z9b, z9c, i64_w, i32_w]
                                    rfl
                                  refine pure_ (i := 6) (N := some 100) (v := ?_) (a' := ?_) #[true, true, true, true, true, true, true, false, false, false, false] rfl rfl (any_of HT_.out (by kernel_rfl)) (fun _ _ _ h => h) (Or.inl ⟨by rfl, ?_⟩) ?_ ?_;rotate_left
                                  · intro w'
                                    go_simp
                                    with_reducible rfl
                                  rotate_left
                                  · simp only [Act.put, z9a, z9b, z9c, i64_w, i32_w]
                                    rfl
                                  refine pure_ (i := 7) (N := some 101) (v := ?_) (a' := ?_) #[true, true, true, true, true, true, true, true, false, false, false] rfl rfl (any_of HT_.out (by kernel_rfl)) (fun _ _ _ h => h) (Or.inl ⟨by rfl, ?_⟩) ?_ ?_;rotate_left
                                  · intro w'
                                    go_simp
                                    with_reducible rfl
                                  rotate_left
                                  · simp only [Act.put, z9a, z9b, z9c, i64_w, i32_w]
                                    rfl
                                  refine one_ (i := 8) (N := some 15) #[true, true, true, true, true, true, true, true, true, false, false] rfl rfl (one_of HT_.out (by kernel_rfl)) (by decide) (fun K hK => ?_);refine box_step ?hg (N := 15) ?hd (cs := #[.slice none 0 0]) (t := 25) ?hr ?_; (case hd => rfl); (case hg => rfl); (case hr => exact q9_47);intro gb278 hg w189 hbox hb;have n0_ := z9k (XS_below q9_11 hb);have n1_ := z9k (XS_below q9_12 hb);have n2_ := z9k (XS_below q9_13 hb);have n3_ := z9k (XS_below q9_14 hb);have n4_ := z9k (XS_below q9_18 hb);have n5_ := z9k (XS_below q9_32 hb);have n6_ := z9k (XS_below (by (with_reducible repeat (first | apply XS_alloc | apply XS_drewN | apply XS_drew)); exact HO276.out) hb);have n7_ := z9k (blk_below (g := gb223) (o := .cells #[.slice A0_0 l0_0.length c0_0] 44 (0, 0)) q9_1 hb);have n8_ := z9k (blk_below (g := gb224) (o := .cells #[.slice A1_0 l1_0.length c1_0] 44 (0, 0)) q9_2 hb);have n9_ := z9k (blk_below (g := gb237) (o := .cells #[.slice Ao41 t233.length co41] 25 (0, 0)) q9_4 hb);have n10_ := z9k (blk_below (g := gb241) (o := .cells #[.slice Ao47 t261.length co47] 25 (0, 0)) q9_6 hb);have n11_ := z9k (blk_below (g := gb245) (o := .cells #[.slice Ao56 t263.length co56] 25 (0, 0)) q9_7 hb);have n12_ := z9k (blk_below (g := gb250) (o := .cells #[.slice Ao65 t246.length co65] 25 (0, 0)) q9_8 hb);have n13_ := z9k (below_step q9_0 hb);have n14_ := z9k (hbox);have n15_ := z9k ((q9_109 : w.heap.size ≤ gb278));have n16_ := z9k ((q9_109 : w.heap.size ≤ gb278));have n17_ := z9k ((q9_19 : gb223 ≠ gb278));have n18_ := z9k ((q9_20 : gb278 ≠ gb223));have n19_ := z9k ((q9_27 : gb224 ≠ gb278));have n20_ := z9k ((q9_28 : gb278 ≠ gb224));have n21_ := z9k ((q9_44 : gb237 ≠ gb278));have n22_ := z9k ((q9_45 : gb278 ≠ gb237));have n23_ := z9k ((q9_60 : gb241 ≠ gb278));have n24_ := z9k ((q9_61 : gb278 ≠ gb241));have n25_ := z9k ((q9_62 : gb245 ≠ gb278));have n26_ := z9k ((q9_63 : gb278 ≠ gb245));have n27_ := z9k ((q9_64 : gb250 ≠ gb278));have n28_ := z9k ((q9_65 : gb278 ≠ gb250));clear HO_238000 HO_242000 HO_246000 HO_251000 HO270 HO273 HO276 BK223 BK224 BK237 BK241 BK245 BK250 HB;have HO_238000 := n0_;have HO_242000 := n1_;have HO_246000 := n2_;have HO_251000 := n3_;have HO270 := n4_;have HO273 := n5_;have HO276 := n6_;have BK223 := n7_;have BK224 := n8_;have BK237 := n9_;have BK241 := n10_;have BK245 := n11_;have BK250 := n12_;have HB := n13_;have BK278 := n14_;have GW278 := n15_;have GE278 := n16_;have NB223_278 := n17_;have NB278_223 := n18_;have NB224_278 := n19_;have NB278_224 := n20_;have NB237_278 := n21_;have NB278_237 := n22_;have NB241_278 := n23_;have NB278_241 := n24_;have NB245_278 := n25_;have NB278_245 := n26_;have NB250_278 := n27_;have NB278_250 := n28_;clear n0_ n1_ n2_ n3_ n4_ n5_ n6_ n7_ n8_ n9_ n10_ n11_ n12_ n13_ n14_ n15_ n16_ n17_ n18_ n19_ n20_ n21_ n22_ n23_ n24_ n25_ n26_ n27_ n28_ hb hbox hg;refine hK.out _ _ ⟨(blk_cell BK223.out 0).trans rfl, (blk_cell BK224.out 0).trans rfl⟩ (fun hHeld => ?_);clear hK K;refine norm_ (a' := ?_) ?_ ?_;rotate_left
                                  · show Act.put _ (some 15) _ = _
                                    simp only [Act.put, z9a, z9b, z9c, i64_w, i32_w]
                                    rfl
                                  exact norm_ q9_46 (hCont ((.slice Ao186 t268.length co186, .slice Ao187 t271.length co187, v275, gb278), F269, F272, F275) _ ⟨hHeld, q9_41, q9_42, q9_43, q9_37, q9_38, q9_39, q9_40, q9_1, q9_2, q9_4, q9_6, q9_7, q9_8, q9_21, GW278.out, GE278.out, NB223_278.out, NB278_223.out, NB224_278.out, NB278_224.out, NB237_278.out, NB278_237.out, NB241_278.out, NB278_241.out, NB245_278.out, NB278_245.out, NB250_278.out, NB278_250.out, q9_3⟩)
                                · skip
                                  refine box_step ?hg (N := 15) ?hd (cs := #[.slice none 0 0]) (t := 25) ?hr ?_; (case hd => rfl); (case hg => rfl); (case hr => exact q9_47);intro gb278 hg w186 hbox hb;have n0_ := z9k (XS_below q9_11 hb);have n1_ := z9k (XS_below q9_12 hb);have n2_ := z9k (XS_below q9_13 hb);have n3_ := z9k (XS_below q9_14 hb);have n4_ := z9k (XS_below q9_18 hb);have n5_ := z9k (XS_below q9_32 hb);have n6_ := z9k (blk_below (g := gb223) (o := .cells #[.slice A0_0 l0_0.length c0_0] 44 (0, 0)) q9_1 hb);have n7_ := z9k (blk_below (g := gb224) (o := .cells #[.slice A1_0 l1_0.length c1_0] 44 (0, 0)) q9_2 hb);have n8_ := z9k (blk_below (g := gb237) (o := .cells #[.slice Ao41 t233.length co41] 25 (0, 0)) q9_4 hb);have n9_ := z9k (blk_below (g := gb241) (o := .cells #[.slice Ao47 t261.length co47] 25 (0, 0)) q9_6 hb);have n10_ := z9k (blk_below (g := gb245) (o := .cells #[.slice Ao56 t263.length co56] 25 (0, 0)) q9_7 hb);have n11_ := z9k (blk_below (g := gb250) (o := .cells #[.slice Ao65 t246.length co65] 25 (0, 0)) q9_8 hb);have n12_ := z9k (below_step q9_0 hb);have n13_ := z9k (hbox);have n14_ := z9k ((q9_109 : w.heap.size ≤ gb278));have n15_ := z9k ((q9_109 : w.heap.size ≤ gb278));have n16_ := z9k ((q9_19 : gb223 ≠ gb278));have n17_ := z9k ((q9_20 : gb278 ≠ gb223));have n18_ := z9k ((q9_27 : gb224 ≠ gb278));have n19_ := z9k ((q9_28 : gb278 ≠ gb224));have n20_ := z9k ((q9_44 : gb237 ≠ gb278));have n21_ := z9k ((q9_45 : gb278 ≠ gb237));have n22_ := z9k ((q9_60 : gb241 ≠ gb278));have n23_ := z9k ((q9_61 : gb278 ≠ gb241));have n24_ := z9k ((q9_62 : gb245 ≠ gb278));have n25_ := z9k ((q9_63 : gb278 ≠ gb245));have n26_ := z9k ((q9_64 : gb250 ≠ gb278));have n27_ := z9k ((q9_65 : gb278 ≠ gb250));clear HO_238000 HO_242000 HO_246000 HO_251000 HO270 HO273 BK223 BK224 BK237 BK241 BK245 BK250 HB;have HO_238000 := n0_;have HO_242000 := n1_;have HO_246000 := n2_;have HO_251000 := n3_;have HO270 := n4_;have HO273 := n5_;have BK223 := n6_;have BK224 := n7_;have BK237 := n8_;have BK241 := n9_;have BK245 := n10_;have BK250 := n11_;have HB := n12_;have BK278 := n13_;have GW278 := n14_;have GE278 := n15_;have NB223_278 := n16_;have NB278_223 := n17_;have NB224_278 := n18_;have NB278_224 := n19_;have NB237_278 := n20_;have NB278_237 := n21_;have NB241_278 := n22_;have NB278_241 := n23_;have NB245_278 := n24_;have NB278_245 := n25_;have NB250_278 := n26_;have NB278_250 := n27_;clear n0_ n1_ n2_ n3_ n4_ n5_ n6_ n7_ n8_ n9_ n10_ n11_ n12_ n13_ n14_ n15_ n16_ n17_ n18_ n19_ n20_ n21_ n22_ n23_ n24_ n25_ n26_ n27_ hb hbox hg;obtain ⟨Ao187, co187, eo187⟩ := XS_slice HO270.out;(first | subst eo187 | (injection eo187 with f1_ f2_ f3_; have f4_ := f1_.symm; have f5_ := f3_.symm; clear f1_ f2_ f3_; subst f4_; subst f5_));obtain ⟨Ao188, co188, eo188⟩ := XS_slice HO273.out;(first | subst eo188 | (injection eo188 with f1_ f2_ f3_; have f4_ := f1_.symm; have f5_ := f3_.symm; clear f1_ f2_ f3_; subst f4_; subst f5_));refine hK.out _ _ ⟨(blk_cell BK223.out 0).trans rfl, (blk_cell BK224.out 0).trans rfl⟩ (fun hHeld => ?_);clear hK K;refine norm_ (a' := ?_) ?_ ?_;rotate_left
                                  · show Act.put _ (some 15) _ = _
                                    simp only [Act.put, z9a, z9b, z9c, i64_w, i32_w]
                                    rfl
                                  refine one_ (i := 4) (N := some 99) #[true, true, true, true, true, false, false, false, true, false, false] rfl rfl (one_of HT_.out (by kernel_rfl)) (by decide) (fun K hK => ?_);refine goes_ Try.func14 (by kernel_rfl) rfl #[.agg #[.slice Ao187 t268.length co187], .agg #[.slice Ao188 t271.length co188]] (by rfl) rfl rfl q9_5 ?_
                                  with_reducible refine (impl_RoughJoin.calls kj106 _ _ t268 _ _ t271 t274 t277 _ ?side1 ?side2 ?side3 ?side4 A172.out).mono ?_
                                  (case side1 => exact q9_50);(case side2 => exact (XS_reads HO270.out).2.1);(case side3 => exact q9_51);(case side4 => exact (XS_reads HO273.out).2.1);rintro e w189 ⟨v275, rfl, ho0, hb⟩; obtain ⟨F275, hF0, ho0⟩ := XS_intro ho0;refine ⟨_, rfl, ?_⟩;have n0_ := z9k (XS_elder q9_11 hF0 hb);have n1_ := z9k (XS_elder q9_12 hF0 hb);have n2_ := z9k (XS_elder q9_13 hF0 hb);have n3_ := z9k (XS_elder q9_14 hF0 hb);have n4_ := z9k (XS_elder q9_18 hF0 hb);have n5_ := z9k (XS_elder q9_32 hF0 hb);have n6_ := z9k (XS_lower (XS_new (XS_new (XS_new (XS_new (XS_new (XS_new ho0 (XS_lt q9_11)) (XS_lt q9_12)) (XS_lt q9_13)) (XS_lt q9_14)) (XS_lt q9_18)) (XS_lt q9_32)) (below_size q9_3));have n7_ := z9k (blk_below (g := gb223) (o := .cells #[.slice A0_0 l0_0.length c0_0] 44 (0, 0)) q9_1 hb);have n8_ := z9k (blk_below (g := gb224) (o := .cells #[.slice A1_0 l1_0.length c1_0] 44 (0, 0)) q9_2 hb);have n9_ := z9k (blk_below (g := gb237) (o := .cells #[.slice Ao41 t233.length co41] 25 (0, 0)) q9_4 hb);have n10_ := z9k (blk_below (g := gb241) (o := .cells #[.slice Ao47 t261.length co47] 25 (0, 0)) q9_6 hb);have n11_ := z9k (blk_below (g := gb245) (o := .cells #[.slice Ao56 t263.length co56] 25 (0, 0)) q9_7 hb);have n12_ := z9k (blk_below (g := gb250) (o := .cells #[.slice Ao65 t246.length co65] 25 (0, 0)) q9_8 hb);have n13_ := z9k (blk_below (g := gb278) (o := .cells #[.slice none 0 0] 25 (0, 0)) q9_21 hb);have n14_ := z9k (below_step q9_3 hb);clear HO_238000 HO_242000 HO_246000 HO_251000 HO270 HO273 BK223 BK224 BK237 BK241 BK245 BK250 BK278 HB;have HO_238000 := n0_;have HO_242000 := n1_;have HO_246000 := n2_;have HO_251000 := n3_;have HO270 := n4_;have HO273 := n5_;have HO276 := n6_;have BK223 := n7_;have BK224 := n8_;have BK237 := n9_;have BK241 := n10_;have BK245 := n11_;have BK250 := n12_;have BK278 := n13_;have HB := n14_;clear n0_ n1_ n2_ n3_ n4_ n5_ n6_ n7_ n8_ n9_ n10_ n11_ n12_ n13_ n14_;(try clear hb);(try clear hb2);(try clear hk);(try clear hi);(try clear ho0); (try clear hF0);refine hK.out _ _ ⟨(blk_cell BK223.out 0).trans rfl, (blk_cell BK224.out 0).trans rfl⟩ (fun hHeld => ?_);clear hK K;refine norm_ (a' := ?_) ?_ ?_;rotate_left
                                  · show Act.put _ (some 99) _ = _
                                    simp only [Act.put, z9a, z9b, z9c, i64_w, i32_w]
                                    rfl
                                  refine pure_ (i := 5) (N := some 94) (v := ?_) (a' := ?_) #[true, true, true, true, true, true, false, false, true, false, false] rfl rfl (any_of HT_.out (by kernel_rfl)) (fun _ _ _ h => h) (Or.inl ⟨by rfl, ?_⟩) ?_ ?_;rotate_left
                                  · intro w'
                                    go_simp
                                    with_reducible rfl
                                  rotate_left
                                  · simp only [Act.put, z9a, z9b, z9c, i64_w, i32_w]
                                    rfl
                                  refine pure_ (i := 6) (N := some 100) (v := ?_) (a' := ?_) #[true, true, true, true, true, true, true, false, true, false, false] rfl rfl (any_of HT_.out (by kernel_rfl)) (fun _ _ _ h => h) (Or.inl ⟨by rfl, ?_⟩) ?_ ?_;rotate_left
                                  · intro w'
                                    go_simp
                                    with_reducible rfl
                                  rotate_left
                                  · simp only [Act.put, z9a, z9b, z9c, i64_w, i32_w]
                                    rfl
                                  refine pure_ (i := 7) (N := some 101) (v := ?_) (a' := ?_) #[true, true, true, true, true, true, true, true, true, false, false] rfl rfl (any_of HT_.out (by kernel_rfl)) (fun _ _ _ h => h) (Or.inl ⟨by rfl, ?_⟩) ?_ ?_;rotate_left
                                  · intro w'
                                    go_simp
                                    with_reducible rfl
                                  rotate_left
                                  · simp only [Act.put, z9a, z9b, z9c, i64_w, i32_w]
                                    rfl
                                  exact norm_ q9_46 (hCont ((.slice Ao187 t268.length co187, .slice Ao188 t271.length co188, v275, gb278), F269, F272, F275) _ ⟨hHeld, q9_41, q9_42, q9_43, q9_37, q9_38, q9_39, q9_40, q9_1, q9_2, q9_4, q9_6, q9_7, q9_8, q9_21, GW278.out, GE278.out, NB223_278.out, NB278_223.out, NB224_278.out, NB278_224.out, NB237_278.out, NB278_237.out, NB241_278.out, NB278_241.out, NB245_278.out, NB278_245.out, NB250_278.out, NB278_250.out, q9_3⟩)
                              · skip
                                refine box_step ?hg (N := 15) ?hd (cs := #[.slice none 0 0]) (t := 25) ?hr ?_; (case hd => rfl); (case hg => rfl); (case hr => exact q9_47);intro gb278 hg w185 hbox hb;have n0_ := z9k (XS_below q9_11 hb);have n1_ := z9k (XS_below q9_12 hb);have n2_ := z9k (XS_below q9_13 hb);have n3_ := z9k (XS_below q9_14 hb);have n4_ := z9k (XS_below q9_18 hb);have n5_ := z9k (blk_below (g := gb223) (o := .cells #[.slice A0_0 l0_0.length c0_0] 44 (0, 0)) q9_1 hb);have n6_ := z9k (blk_below (g := gb224) (o := .cells #[.slice A1_0 l1_0.length c1_0] 44 (0, 0)) q9_2 hb);have n7_ := z9k (blk_below (g := gb237) (o := .cells #[.slice Ao41 t233.length co41] 25 (0, 0)) q9_4 hb);have n8_ := z9k (blk_below (g := gb241) (o := .cells #[.slice Ao47 t261.length co47] 25 (0, 0)) q9_6 hb);have n9_ := z9k (blk_below (g := gb245) (o := .cells #[.slice Ao56 t263.length co56] 25 (0, 0)) q9_7 hb);have n10_ := z9k (blk_below (g := gb250) (o := .cells #[.slice Ao65 t246.length co65] 25 (0, 0)) q9_8 hb);have n11_ := z9k (below_step q9_0 hb);have n12_ := z9k (hbox);have n13_ := z9k ((q9_109 : w.heap.size ≤ gb278));have n14_ := z9k ((q9_109 : w.heap.size ≤ gb278));have n15_ := z9k ((q9_19 : gb223 ≠ gb278));have n16_ := z9k ((q9_20 : gb278 ≠ gb223));have n17_ := z9k ((q9_27 : gb224 ≠ gb278));have n18_ := z9k ((q9_28 : gb278 ≠ gb224));have n19_ := z9k ((q9_44 : gb237 ≠ gb278));have n20_ := z9k ((q9_45 : gb278 ≠ gb237));have n21_ := z9k ((q9_60 : gb241 ≠ gb278));have n22_ := z9k ((q9_61 : gb278 ≠ gb241));have n23_ := z9k ((q9_62 : gb245 ≠ gb278));have n24_ := z9k ((q9_63 : gb278 ≠ gb245));have n25_ := z9k ((q9_64 : gb250 ≠ gb278));have n26_ := z9k ((q9_65 : gb278 ≠ gb250));clear HO_238000 HO_242000 HO_246000 HO_251000 HO270 BK223 BK224 BK237 BK241 BK245 BK250 HB;have HO_238000 := n0_;have HO_242000 := n1_;have HO_246000 := n2_;have HO_251000 := n3_;have HO270 := n4_;have BK223 := n5_;have BK224 := n6_;have BK237 := n7_;have BK241 := n8_;have BK245 := n9_;have BK250 := n10_;have HB := n11_;have BK278 := n12_;have GW278 := n13_;have GE278 := n14_;have NB223_278 := n15_;have NB278_223 := n16_;have NB224_278 := n17_;have NB278_224 := n18_;have NB237_278 := n19_;have NB278_237 := n20_;have NB241_278 := n21_;have NB278_241 := n22_;have NB245_278 := n23_;have NB278_245 := n24_;have NB250_278 := n25_;have NB278_250 := n26_;clear n0_ n1_ n2_ n3_ n4_ n5_ n6_ n7_ n8_ n9_ n10_ n11_ n12_ n13_ n14_ n15_ n16_ n17_ n18_ n19_ n20_ n21_ n22_ n23_ n24_ n25_ n26_ hb hbox hg;refine hK.out _ _ ⟨(blk_cell BK223.out 0).trans rfl, (blk_cell BK224.out 0).trans rfl⟩ (fun hHeld => ?_);clear hK K;refine norm_ (a' := ?_) ?_ ?_;rotate_left
                                · show Act.put _ (some 15) _ = _
                                  simp only [Act.put, z9a, z9b, z9c, i64_w, i32_w]
                                  rfl
                                refine one_ (i := 3) (N := some 98) #[true, true, true, true, false, false, false, false, true, false, false] rfl rfl (one_of HT_.out (by kernel_rfl)) (by decide) (fun K hK => ?_);refine goes_ Try.func27 (by kernel_rfl) rfl #[.agg #[.slice A1_0 l1_0.length c1_0]] (by rfl) rfl rfl q9_5 ?_
                                with_reducible refine (laws_toRough.calls kj106 _ _ l1_0 t271 _ ?side1 ?side2 A171.out).mono ?_
                                (case side1 => exact q9_17);(case side2 => exact HC1_0.out);rintro e w186 ⟨v272, rfl, ho0, hb⟩; obtain ⟨F272, hF0, ho0⟩ := XS_intro ho0;refine ⟨_, rfl, ?_⟩;have n0_ := z9k (XS_elder q9_11 hF0 hb);have n1_ := z9k (XS_elder q9_12 hF0 hb);have n2_ := z9k (XS_elder q9_13 hF0 hb);have n3_ := z9k (XS_elder q9_14 hF0 hb);have n4_ := z9k (XS_elder q9_18 hF0 hb);have n5_ := z9k (XS_lower (XS_new (XS_new (XS_new (XS_new (XS_new ho0 (XS_lt q9_11)) (XS_lt q9_12)) (XS_lt q9_13)) (XS_lt q9_14)) (XS_lt q9_18)) (below_size q9_3));have n6_ := z9k (blk_below (g := gb223) (o := .cells #[.slice A0_0 l0_0.length c0_0] 44 (0, 0)) q9_1 hb);have n7_ := z9k (blk_below (g := gb224) (o := .cells #[.slice A1_0 l1_0.length c1_0] 44 (0, 0)) q9_2 hb);have n8_ := z9k (blk_below (g := gb237) (o := .cells #[.slice Ao41 t233.length co41] 25 (0, 0)) q9_4 hb);have n9_ := z9k (blk_below (g := gb241) (o := .cells #[.slice Ao47 t261.length co47] 25 (0, 0)) q9_6 hb);have n10_ := z9k (blk_below (g := gb245) (o := .cells #[.slice Ao56 t263.length co56] 25 (0, 0)) q9_7 hb);have n11_ := z9k (blk_below (g := gb250) (o := .cells #[.slice Ao65 t246.length co65] 25 (0, 0)) q9_8 hb);have n12_ := z9k (blk_below (g := gb278) (o := .cells #[.slice none 0 0] 25 (0, 0)) q9_21 hb);have n13_ := z9k (below_step q9_3 hb);clear HO_238000 HO_242000 HO_246000 HO_251000 HO270 BK223 BK224 BK237 BK241 BK245 BK250 BK278 HB;have HO_238000 := n0_;have HO_242000 := n1_;have HO_246000 := n2_;have HO_251000 := n3_;have HO270 := n4_;have HO273 := n5_;have BK223 := n6_;have BK224 := n7_;have BK237 := n8_;have BK241 := n9_;have BK245 := n10_;have BK250 := n11_;have BK278 := n12_;have HB := n13_;clear n0_ n1_ n2_ n3_ n4_ n5_ n6_ n7_ n8_ n9_ n10_ n11_ n12_ n13_;(try clear hb);(try clear hb2);(try clear hk);(try clear hi);(try clear ho0); (try clear hF0);obtain ⟨Ao187, co187, eo187⟩ := XS_slice HO270.out;(first | subst eo187 | (injection eo187 with f1_ f2_ f3_; have f4_ := f1_.symm; have f5_ := f3_.symm; clear f1_ f2_ f3_; subst f4_; subst f5_));obtain ⟨Ao188, co188, eo188⟩ := XS_slice HO273.out;(first | subst eo188 | (injection eo188 with f1_ f2_ f3_; have f4_ := f1_.symm; have f5_ := f3_.symm; clear f1_ f2_ f3_; subst f4_; subst f5_));refine hK.out _ _ ⟨(blk_cell BK223.out 0).trans rfl, (blk_cell BK224.out 0).trans rfl⟩ (fun hHeld => ?_);clear hK K;refine norm_ (a' := ?_) ?_ ?_;rotate_left
                                · show Act.put _ (some 98) _ = _
                                  simp only [Act.put, z9a, z9b, z9c, i64_w, i32_w]
                                  rfl
                                refine one_ (i := 4) (N := some 99) #[true, true, true, true, true, false, false, false, true, false, false] rfl rfl (one_of HT_.out (by kernel_rfl)) (by decide) (fun K hK => ?_);refine goes_ Try.func14 (by kernel_rfl) rfl #[.agg #[.slice Ao187 t268.length co187], .agg #[.slice Ao188 t271.length co188]] (by rfl) rfl rfl q9_5 ?_
                                with_reducible refine (impl_RoughJoin.calls kj106 _ _ t268 _ _ t271 t274 t277 _ ?side1 ?side2 ?side3 ?side4 A172.out).mono ?_
                                (case side1 => exact q9_50);(case side2 => exact (XS_reads HO270.out).2.1);(case side3 => exact q9_51);(case side4 => exact (XS_reads HO273.out).2.1);rintro e w189 ⟨v275, rfl, ho0, hb⟩; obtain ⟨F275, hF0, ho0⟩ := XS_intro ho0;refine ⟨_, rfl, ?_⟩;have n0_ := z9k (XS_elder q9_11 hF0 hb);have n1_ := z9k (XS_elder q9_12 hF0 hb);have n2_ := z9k (XS_elder q9_13 hF0 hb);have n3_ := z9k (XS_elder q9_14 hF0 hb);have n4_ := z9k (XS_elder q9_18 hF0 hb);have n5_ := z9k (XS_elder q9_32 hF0 hb);have n6_ := z9k (XS_lower (XS_new (XS_new (XS_new (XS_new (XS_new (XS_new ho0 (XS_lt q9_11)) (XS_lt q9_12)) (XS_lt q9_13)) (XS_lt q9_14)) (XS_lt q9_18)) (XS_lt q9_32)) (below_size q9_3));have n7_ := z9k (blk_below (g := gb223) (o := .cells #[.slice A0_0 l0_0.length c0_0] 44 (0, 0)) q9_1 hb);have n8_ := z9k (blk_below (g := gb224) (o := .cells #[.slice A1_0 l1_0.length c1_0] 44 (0, 0)) q9_2 hb);have n9_ := z9k (blk_below (g := gb237) (o := .cells #[.slice Ao41 t233.length co41] 25 (0, 0)) q9_4 hb);have n10_ := z9k (blk_below (g := gb241) (o := .cells #[.slice Ao47 t261.length co47] 25 (0, 0)) q9_6 hb);have n11_ := z9k (blk_below (g := gb245) (o := .cells #[.slice Ao56 t263.length co56] 25 (0, 0)) q9_7 hb);have n12_ := z9k (blk_below (g := gb250) (o := .cells #[.slice Ao65 t246.length co65] 25 (0, 0)) q9_8 hb);have n13_ := z9k (blk_below (g := gb278) (o := .cells #[.slice none 0 0] 25 (0, 0)) q9_21 hb);have n14_ := z9k (below_step q9_3 hb);clear HO_238000 HO_242000 HO_246000 HO_251000 HO270 HO273 BK223 BK224 BK237 BK241 BK245 BK250 BK278 HB;have HO_238000 := n0_;have HO_242000 := n1_;have HO_246000 := n2_;have HO_251000 := n3_;have HO270 := n4_;have HO273 := n5_;have HO276 := n6_;have BK223 := n7_;have BK224 := n8_;have BK237 := n9_;have BK241 := n10_;have BK245 := n11_;have BK250 := n12_;have BK278 := n13_;have HB := n14_;clear n0_ n1_ n2_ n3_ n4_ n5_ n6_ n7_ n8_ n9_ n10_ n11_ n12_ n13_ n14_;(try clear hb);(try clear hb2);(try clear hk);(try clear hi);(try clear ho0); (try clear hF0);refine hK.out _ _ ⟨(blk_cell BK223.out 0).trans rfl, (blk_cell BK224.out 0).trans rfl⟩ (fun hHeld => ?_);clear hK K;refine norm_ (a' := ?_) ?_ ?_;rotate_left
                                · show Act.put _ (some 99) _ = _
                                  simp only [Act.put, z9a, z9b, z9c, i64_w, i32_w]
                                  rfl
                                refine pure_ (i := 5) (N := some 94) (v := ?_) (a' := ?_) #[true, true, true, true, true, true, false, false, true, false, false] rfl rfl (any_of HT_.out (by kernel_rfl)) (fun _ _ _ h => h) (Or.inl ⟨by rfl, ?_⟩) ?_ ?_;rotate_left
                                · intro w'
                                  go_simp
                                  with_reducible rfl
                                rotate_left
                                · simp only [Act.put, z9a, z9b, z9c, i64_w, i32_w]
                                  rfl
                                refine pure_ (i := 6) (N := some 100) (v := ?_) (a' := ?_) #[true, true, true, true, true, true, true, false, true, false, false] rfl rfl (any_of HT_.out (by kernel_rfl)) (fun _ _ _ h => h) (Or.inl ⟨by rfl, ?_⟩) ?_ ?_;rotate_left
                                · intro w'
                                  go_simp
                                  with_reducible rfl
                                rotate_left
                                · simp only [Act.put, z9a, z9b, z9c, i64_w, i32_w]
                                  rfl
                                refine pure_ (i := 7) (N := some 101) (v := ?_) (a' := ?_) #[true, true, true, true, true, true, true, true, true, false, false] rfl rfl (any_of HT_.out (by kernel_rfl)) (fun _ _ _ h => h) (Or.inl ⟨by rfl, ?_⟩) ?_ ?_;rotate_left
                                · intro w'
                                  go_simp
                                  with_reducible rfl
                                rotate_left
                                · simp only [Act.put, z9a, z9b, z9c, i64_w, i32_w]
                                  rfl
                                exact norm_ q9_46 (hCont ((.slice Ao187 t268.length co187, .slice Ao188 t271.length co188, v275, gb278), F269, F272, F275) _ ⟨hHeld, q9_41, q9_42, q9_43, q9_37, q9_38, q9_39, q9_40, q9_1, q9_2, q9_4, q9_6, q9_7, q9_8, q9_21, GW278.out, GE278.out, NB223_278.out, NB278_223.out, NB224_278.out, NB278_224.out, NB237_278.out, NB278_237.out, NB241_278.out, NB278_241.out, NB245_278.out, NB278_245.out, NB250_278.out, NB278_250.out, q9_3⟩)
                            · skip
                              refine box_step ?hg (N := 15) ?hd (cs := #[.slice none 0 0]) (t := 25) ?hr ?_; (case hd => rfl); (case hg => rfl); (case hr => exact q9_47);intro gb278 hg w184 hbox hb;have n0_ := z9k (XS_below q9_11 hb);have n1_ := z9k (XS_below q9_12 hb);have n2_ := z9k (XS_below q9_13 hb);have n3_ := z9k (XS_below q9_14 hb);have n4_ := z9k (blk_below (g := gb223) (o := .cells #[.slice A0_0 l0_0.length c0_0] 44 (0, 0)) q9_1 hb);have n5_ := z9k (blk_below (g := gb224) (o := .cells #[.slice A1_0 l1_0.length c1_0] 44 (0, 0)) q9_2 hb);have n6_ := z9k (blk_below (g := gb237) (o := .cells #[.slice Ao41 t233.length co41] 25 (0, 0)) q9_4 hb);have n7_ := z9k (blk_below (g := gb241) (o := .cells #[.slice Ao47 t261.length co47] 25 (0, 0)) q9_6 hb);have n8_ := z9k (blk_below (g := gb245) (o := .cells #[.slice Ao56 t263.length co56] 25 (0, 0)) q9_7 hb);have n9_ := z9k (blk_below (g := gb250) (o := .cells #[.slice Ao65 t246.length co65] 25 (0, 0)) q9_8 hb);have n10_ := z9k (below_step q9_0 hb);have n11_ := z9k (hbox);have n12_ := z9k ((q9_109 : w.heap.size ≤ gb278));have n13_ := z9k ((q9_109 : w.heap.size ≤ gb278));have n14_ := z9k ((q9_19 : gb223 ≠ gb278));have n15_ := z9k ((q9_20 : gb278 ≠ gb223));have n16_ := z9k ((q9_27 : gb224 ≠ gb278));have n17_ := z9k ((q9_28 : gb278 ≠ gb224));have n18_ := z9k ((q9_44 : gb237 ≠ gb278));have n19_ := z9k ((q9_45 : gb278 ≠ gb237));have n20_ := z9k ((q9_60 : gb241 ≠ gb278));have n21_ := z9k ((q9_61 : gb278 ≠ gb241));have n22_ := z9k ((q9_62 : gb245 ≠ gb278));have n23_ := z9k ((q9_63 : gb278 ≠ gb245));have n24_ := z9k ((q9_64 : gb250 ≠ gb278));have n25_ := z9k ((q9_65 : gb278 ≠ gb250));clear HO_238000 HO_242000 HO_246000 HO_251000 BK223 BK224 BK237 BK241 BK245 BK250 HB;have HO_238000 := n0_;have HO_242000 := n1_;have HO_246000 := n2_;have HO_251000 := n3_;have BK223 := n4_;have BK224 := n5_;have BK237 := n6_;have BK241 := n7_;have BK245 := n8_;have BK250 := n9_;have HB := n10_;have BK278 := n11_;have GW278 := n12_;have GE278 := n13_;have NB223_278 := n14_;have NB278_223 := n15_;have NB224_278 := n16_;have NB278_224 := n17_;have NB237_278 := n18_;have NB278_237 := n19_;have NB241_278 := n20_;have NB278_241 := n21_;have NB245_278 := n22_;have NB278_245 := n23_;have NB250_278 := n24_;have NB278_250 := n25_;clear n0_ n1_ n2_ n3_ n4_ n5_ n6_ n7_ n8_ n9_ n10_ n11_ n12_ n13_ n14_ n15_ n16_ n17_ n18_ n19_ n20_ n21_ n22_ n23_ n24_ n25_ hb hbox hg;refine hK.out _ _ ⟨(blk_cell BK223.out 0).trans rfl, (blk_cell BK224.out 0).trans rfl⟩ (fun hHeld => ?_);clear hK K;refine norm_ (a' := ?_) ?_ ?_;rotate_left
                              · show Act.put _ (some 15) _ = _
                                simp only [Act.put, z9a, z9b, z9c, i64_w, i32_w]
                                rfl
                              refine one_ (i := 1) (N := some 96) #[true, true, true, false, false, false, false, false, true, false, false] rfl rfl (one_of HT_.out (by kernel_rfl)) (by decide) (fun K hK => ?_);refine goes_ Try.func27 (by kernel_rfl) rfl #[.agg #[.slice A0_0 l0_0.length c0_0]] (by rfl) rfl rfl q9_5 ?_
                              with_reducible refine (laws_toRough.calls kj106 _ _ l0_0 t268 _ ?side1 ?side2 A170.out).mono ?_
                              (case side1 => exact q9_16);(case side2 => exact HC0_0.out);rintro e w185 ⟨v269, rfl, ho0, hb⟩; obtain ⟨F269, hF0, ho0⟩ := XS_intro ho0;refine ⟨_, rfl, ?_⟩;have n0_ := z9k (XS_elder q9_11 hF0 hb);have n1_ := z9k (XS_elder q9_12 hF0 hb);have n2_ := z9k (XS_elder q9_13 hF0 hb);have n3_ := z9k (XS_elder q9_14 hF0 hb);have n4_ := z9k (XS_lower (XS_new (XS_new (XS_new (XS_new ho0 (XS_lt q9_11)) (XS_lt q9_12)) (XS_lt q9_13)) (XS_lt q9_14)) (below_size q9_3));have n5_ := z9k (blk_below (g := gb223) (o := .cells #[.slice A0_0 l0_0.length c0_0] 44 (0, 0)) q9_1 hb);have n6_ := z9k (blk_below (g := gb224) (o := .cells #[.slice A1_0 l1_0.length c1_0] 44 (0, 0)) q9_2 hb);have n7_ := z9k (blk_below (g := gb237) (o := .cells #[.slice Ao41 t233.length co41] 25 (0, 0)) q9_4 hb);have n8_ := z9k (blk_below (g := gb241) (o := .cells #[.slice Ao47 t261.length co47] 25 (0, 0)) q9_6 hb);have n9_ := z9k (blk_below (g := gb245) (o := .cells #[.slice Ao56 t263.length co56] 25 (0, 0)) q9_7 hb);have n10_ := z9k (blk_below (g := gb250) (o := .cells #[.slice Ao65 t246.length co65] 25 (0, 0)) q9_8 hb);have n11_ := z9k (blk_below (g := gb278) (o := .cells #[.slice none 0 0] 25 (0, 0)) q9_21 hb);have n12_ := z9k (below_step q9_3 hb);clear HO_238000 HO_242000 HO_246000 HO_251000 BK223 BK224 BK237 BK241 BK245 BK250 BK278 HB;have HO_238000 := n0_;have HO_242000 := n1_;have HO_246000 := n2_;have HO_251000 := n3_;have HO270 := n4_;have BK223 := n5_;have BK224 := n6_;have BK237 := n7_;have BK241 := n8_;have BK245 := n9_;have BK250 := n10_;have BK278 := n11_;have HB := n12_;clear n0_ n1_ n2_ n3_ n4_ n5_ n6_ n7_ n8_ n9_ n10_ n11_ n12_;(try clear hb);(try clear hb2);(try clear hk);(try clear hi);(try clear ho0); (try clear hF0);refine hK.out _ _ ⟨(blk_cell BK223.out 0).trans rfl, (blk_cell BK224.out 0).trans rfl⟩ (fun hHeld => ?_);clear hK K;refine norm_ (a' := ?_) ?_ ?_;rotate_left
                              · show Act.put _ (some 96) _ = _
                                simp only [Act.put, z9a, z9b, z9c, i64_w, i32_w]
                                rfl
                              refine one_ (i := 3) (N := some 98) #[true, true, true, true, false, false, false, false, true, false, false] rfl rfl (one_of HT_.out (by kernel_rfl)) (by decide) (fun K hK => ?_);refine goes_ Try.func27 (by kernel_rfl) rfl #[.agg #[.slice A1_0 l1_0.length c1_0]] (by rfl) rfl rfl q9_5 ?_
                              with_reducible refine (laws_toRough.calls kj106 _ _ l1_0 t271 _ ?side1 ?side2 A171.out).mono ?_
                              (case side1 => exact q9_17);(case side2 => exact HC1_0.out);rintro e w186 ⟨v272, rfl, ho0, hb⟩; obtain ⟨F272, hF0, ho0⟩ := XS_intro ho0;refine ⟨_, rfl, ?_⟩;have n0_ := z9k (XS_elder q9_11 hF0 hb);have n1_ := z9k (XS_elder q9_12 hF0 hb);have n2_ := z9k (XS_elder q9_13 hF0 hb);have n3_ := z9k (XS_elder q9_14 hF0 hb);have n4_ := z9k (XS_elder q9_18 hF0 hb);have n5_ := z9k (XS_lower (XS_new (XS_new (XS_new (XS_new (XS_new ho0 (XS_lt q9_11)) (XS_lt q9_12)) (XS_lt q9_13)) (XS_lt q9_14)) (XS_lt q9_18)) (below_size q9_3));have n6_ := z9k (blk_below (g := gb223) (o := .cells #[.slice A0_0 l0_0.length c0_0] 44 (0, 0)) q9_1 hb);have n7_ := z9k (blk_below (g := gb224) (o := .cells #[.slice A1_0 l1_0.length c1_0] 44 (0, 0)) q9_2 hb);have n8_ := z9k (blk_below (g := gb237) (o := .cells #[.slice Ao41 t233.length co41] 25 (0, 0)) q9_4 hb);have n9_ := z9k (blk_below (g := gb241) (o := .cells #[.slice Ao47 t261.length co47] 25 (0, 0)) q9_6 hb);have n10_ := z9k (blk_below (g := gb245) (o := .cells #[.slice Ao56 t263.length co56] 25 (0, 0)) q9_7 hb);have n11_ := z9k (blk_below (g := gb250) (o := .cells #[.slice Ao65 t246.length co65] 25 (0, 0)) q9_8 hb);have n12_ := z9k (blk_below (g := gb278) (o := .cells #[.slice none 0 0] 25 (0, 0)) q9_21 hb);have n13_ := z9k (below_step q9_3 hb);clear HO_238000 HO_242000 HO_246000 HO_251000 HO270 BK223 BK224 BK237 BK241 BK245 BK250 BK278 HB;have HO_238000 := n0_;have HO_242000 := n1_;have HO_246000 := n2_;have HO_251000 := n3_;have HO270 := n4_;have HO273 := n5_;have BK223 := n6_;have BK224 := n7_;have BK237 := n8_;have BK241 := n9_;have BK245 := n10_;have BK250 := n11_;have BK278 := n12_;have HB := n13_;clear n0_ n1_ n2_ n3_ n4_ n5_ n6_ n7_ n8_ n9_ n10_ n11_ n12_ n13_;(try clear hb);(try clear hb2);(try clear hk);(try clear hi);(try clear ho0); (try clear hF0);obtain ⟨Ao187, co187, eo187⟩ := XS_slice HO270.out;(first | subst eo187 | (injection eo187 with f1_ f2_ f3_; have f4_ := f1_.symm; have f5_ := f3_.symm; clear f1_ f2_ f3_; subst f4_; subst f5_));obtain ⟨Ao188, co188, eo188⟩ := XS_slice HO273.out;(first | subst eo188 | (injection eo188 with f1_ f2_ f3_; have f4_ := f1_.symm; have f5_ := f3_.symm; clear f1_ f2_ f3_; subst f4_; subst f5_));refine hK.out _ _ ⟨(blk_cell BK223.out 0).trans rfl, (blk_cell BK224.out 0).trans rfl⟩ (fun hHeld => ?_);clear hK K;refine norm_ (a' := ?_) ?_ ?_;rotate_left
                              · show Act.put _ (some 98) _ = _
                                simp only [Act.put, z9a, z9b, z9c, i64_w, i32_w]
                                rfl
                              refine one_ (i := 4) (N := some 99) #[true, true, true, true, true, false, false, false, true, false, false] rfl rfl (one_of HT_.out (by kernel_rfl)) (by decide) (fun K hK => ?_);refine goes_ Try.func14 (by kernel_rfl) rfl #[.agg #[.slice Ao187 t268.length co187], .agg #[.slice Ao188 t271.length co188]] (by rfl) rfl rfl q9_5 ?_
                              with_reducible refine (impl_RoughJoin.calls kj106 _ _ t268 _ _ t271 t274 t277 _ ?side1 ?side2 ?side3 ?side4 A172.out).mono ?_
                              (case side1 => exact q9_50);(case side2 => exact (XS_reads HO270.out).2.1);(case side3 => exact q9_51);(case side4 => exact (XS_reads HO273.out).2.1);rintro e w189 ⟨v275, rfl, ho0, hb⟩; obtain ⟨F275, hF0, ho0⟩ := XS_intro ho0;refine ⟨_, rfl, ?_⟩;have n0_ := z9k (XS_elder q9_11 hF0 hb);have n1_ := z9k (XS_elder q9_12 hF0 hb);have n2_ := z9k (XS_elder q9_13 hF0 hb);have n3_ := z9k (XS_elder q9_14 hF0 hb);have n4_ := z9k (XS_elder q9_18 hF0 hb);have n5_ := z9k (XS_elder q9_32 hF0 hb);have n6_ := z9k (XS_lower (XS_new (XS_new (XS_new (XS_new (XS_new (XS_new ho0 (XS_lt q9_11)) (XS_lt q9_12)) (XS_lt q9_13)) (XS_lt q9_14)) (XS_lt q9_18)) (XS_lt q9_32)) (below_size q9_3));have n7_ := z9k (blk_below (g := gb223) (o := .cells #[.slice A0_0 l0_0.length c0_0] 44 (0, 0)) q9_1 hb);have n8_ := z9k (blk_below (g := gb224) (o := .cells #[.slice A1_0 l1_0.length c1_0] 44 (0, 0)) q9_2 hb);have n9_ := z9k (blk_below (g := gb237) (o := .cells #[.slice Ao41 t233.length co41] 25 (0, 0)) q9_4 hb);have n10_ := z9k (blk_below (g := gb241) (o := .cells #[.slice Ao47 t261.length co47] 25 (0, 0)) q9_6 hb);have n11_ := z9k (blk_below (g := gb245) (o := .cells #[.slice Ao56 t263.length co56] 25 (0, 0)) q9_7 hb);have n12_ := z9k (blk_below (g := gb250) (o := .cells #[.slice Ao65 t246.length co65] 25 (0, 0)) q9_8 hb);have n13_ := z9k (blk_below (g := gb278) (o := .cells #[.slice none 0 0] 25 (0, 0)) q9_21 hb);have n14_ := z9k (below_step q9_3 hb);clear HO_238000 HO_242000 HO_246000 HO_251000 HO270 HO273 BK223 BK224 BK237 BK241 BK245 BK250 BK278 HB;have HO_238000 := n0_;have HO_242000 := n1_;have HO_246000 := n2_;have HO_251000 := n3_;have HO270 := n4_;have HO273 := n5_;have HO276 := n6_;have BK223 := n7_;have BK224 := n8_;have BK237 := n9_;have BK241 := n10_;have BK245 := n11_;have BK250 := n12_;have BK278 := n13_;have HB := n14_;clear n0_ n1_ n2_ n3_ n4_ n5_ n6_ n7_ n8_ n9_ n10_ n11_ n12_ n13_ n14_;(try clear hb);(try clear hb2);(try clear hk);(try clear hi);(try clear ho0); (try clear hF0);refine hK.out _ _ ⟨(blk_cell BK223.out 0).trans rfl, (blk_cell BK224.out 0).trans rfl⟩ (fun hHeld => ?_);clear hK K;refine norm_ (a' := ?_) ?_ ?_;rotate_left
                              · show Act.put _ (some 99) _ = _
                                simp only [Act.put, z9a, z9b, z9c, i64_w, i32_w]
                                rfl
                              refine pure_ (i := 5) (N := some 94) (v := ?_) (a' := ?_) #[true, true, true, true, true, true, false, false, true, false, false] rfl rfl (any_of HT_.out (by kernel_rfl)) (fun _ _ _ h => h) (Or.inl ⟨by rfl, ?_⟩) ?_ ?_;rotate_left
                              · intro w'
                                go_simp
                                with_reducible rfl
                              rotate_left
                              · simp only [Act.put, z9a, z9b, z9c, i64_w, i32_w]
                                rfl
                              refine pure_ (i := 6) (N := some 100) (v := ?_) (a' := ?_) #[true, true, true, true, true, true, true, false, true, false, false] rfl rfl (any_of HT_.out (by kernel_rfl)) (fun _ _ _ h => h) (Or.inl ⟨by rfl, ?_⟩) ?_ ?_;rotate_left
                              · intro w'
                                go_simp
                                with_reducible rfl
                              rotate_left
                              · simp only [Act.put, z9a, z9b, z9c, i64_w, i32_w]
                                rfl
                              refine pure_ (i := 7) (N := some 101) (v := ?_) (a' := ?_) #[true, true, true, true, true, true, true, true, true, false, false] rfl rfl (any_of HT_.out (by kernel_rfl)) (fun _ _ _ h => h) (Or.inl ⟨by rfl, ?_⟩) ?_ ?_;rotate_left
                              · intro w'
                                go_simp
                                with_reducible rfl
                              rotate_left
                              · simp only [Act.put, z9a, z9b, z9c, i64_w, i32_w]
                                rfl
                              exact norm_ q9_46 (hCont ((.slice Ao187 t268.length co187, .slice Ao188 t271.length co188, v275, gb278), F269, F272, F275) _ ⟨hHeld, q9_41, q9_42, q9_43, q9_37, q9_38, q9_39, q9_40, q9_1, q9_2, q9_4, q9_6, q9_7, q9_8, q9_21, GW278.out, GE278.out, NB223_278.out, NB278_223.out, NB224_278.out, NB278_224.out, NB237_278.out, NB278_237.out, NB241_278.out, NB278_241.out, NB245_278.out, NB278_245.out, NB250_278.out, NB278_250.out, q9_3⟩)
                          rintro ⟨⟨v269, v272, v275, gb278⟩, F269, F272, F275⟩ w190 ⟨hS_, h0_, h1_, h2_, h3_, h4_, h5_, h6_, h7_, h8_, h9_, h10_, h11_, h12_, h13_, h14_, h15_, h16_, h17_, h18_, h19_, h20_, h21_, h22_, h23_, h24_, h25_, h26_, h27_, h28_⟩
                          have n0_ : Aside0 (XS F269 w190 w.heap.size (fun k_ => ¬ F272 k_ ∧ ¬ F275 k_ ∧ ¬ F234 k_ ∧ ¬ F239 k_ ∧ ¬ F243 k_ ∧ ¬ F247 k_) v269 t268) := ⟨h0_⟩
                          have n1_ : Aside0 (XS F272 w190 w.heap.size (fun k_ => ¬ F269 k_ ∧ ¬ F275 k_ ∧ ¬ F234 k_ ∧ ¬ F239 k_ ∧ ¬ F243 k_ ∧ ¬ F247 k_) v272 t271) := ⟨h1_⟩
                          have n2_ : Aside0 (XS F275 w190 w.heap.size (fun k_ => ¬ F269 k_ ∧ ¬ F272 k_ ∧ ¬ F234 k_ ∧ ¬ F239 k_ ∧ ¬ F243 k_ ∧ ¬ F247 k_) v275 t274) := ⟨h2_⟩
                          have n3_ : Aside0 (XS F234 w190 w.heap.size (fun k_ => ¬ F269 k_ ∧ ¬ F272 k_ ∧ ¬ F275 k_ ∧ ¬ F239 k_ ∧ ¬ F243 k_ ∧ ¬ F247 k_) (.slice Ao41 t233.length co41) t233) := ⟨h3_⟩
                          have n4_ : Aside0 (XS F239 w190 w.heap.size (fun k_ => ¬ F269 k_ ∧ ¬ F272 k_ ∧ ¬ F275 k_ ∧ ¬ F234 k_ ∧ ¬ F243 k_ ∧ ¬ F247 k_) (.slice Ao47 t261.length co47) t261) := ⟨h4_⟩
                          have n5_ : Aside0 (XS F243 w190 w.heap.size (fun k_ => ¬ F269 k_ ∧ ¬ F272 k_ ∧ ¬ F275 k_ ∧ ¬ F234 k_ ∧ ¬ F239 k_ ∧ ¬ F247 k_) (.slice Ao56 t263.length co56) t263) := ⟨h5_⟩
                          have n6_ : Aside0 (XS F247 w190 w.heap.size (fun k_ => ¬ F269 k_ ∧ ¬ F272 k_ ∧ ¬ F275 k_ ∧ ¬ F234 k_ ∧ ¬ F239 k_ ∧ ¬ F243 k_) (.slice Ao65 t246.length co65) t266) := ⟨h6_⟩
                          have n7_ : Aside0 (w190.heap[gb223]? = some (.cells #[.slice A0_0 l0_0.length c0_0] 44 (0, 0))) := ⟨h7_⟩
                          have n8_ : Aside0 (w190.heap[gb224]? = some (.cells #[.slice A1_0 l1_0.length c1_0] 44 (0, 0))) := ⟨h8_⟩
                          have n9_ : Aside0 (w190.heap[gb237]? = some (.cells #[.slice Ao41 t233.length co41] 25 (0, 0))) := ⟨h9_⟩
                          have n10_ : Aside0 (w190.heap[gb241]? = some (.cells #[.slice Ao47 t261.length co47] 25 (0, 0))) := ⟨h10_⟩
                          have n11_ : Aside0 (w190.heap[gb245]? = some (.cells #[.slice Ao56 t263.length co56] 25 (0, 0))) := ⟨h11_⟩
                          have n12_ : Aside0 (w190.heap[gb250]? = some (.cells #[.slice Ao65 t246.length co65] 25 (0, 0))) := ⟨h12_⟩
                          have n13_ : Aside0 (w190.heap[gb278]? = some (.cells #[.slice none 0 0] 25 (0, 0))) := ⟨h13_⟩
                          have n14_ : Aside0 (w.heap.size ≤ gb278) := ⟨h14_⟩
                          have n15_ : Aside0 (w.heap.size ≤ gb278) := ⟨h15_⟩
                          have n16_ : Aside0 (gb223 ≠ gb278) := ⟨h16_⟩
                          have n17_ : Aside0 (gb278 ≠ gb223) := ⟨h17_⟩
                          have n18_ : Aside0 (gb224 ≠ gb278) := ⟨h18_⟩
                          have n19_ : Aside0 (gb278 ≠ gb224) := ⟨h19_⟩
                          have n20_ : Aside0 (gb237 ≠ gb278) := ⟨h20_⟩
                          have n21_ : Aside0 (gb278 ≠ gb237) := ⟨h21_⟩
                          have n22_ : Aside0 (gb241 ≠ gb278) := ⟨h22_⟩
                          have n23_ : Aside0 (gb278 ≠ gb241) := ⟨h23_⟩
                          have n24_ : Aside0 (gb245 ≠ gb278) := ⟨h24_⟩
                          have n25_ : Aside0 (gb278 ≠ gb245) := ⟨h25_⟩
                          have n26_ : Aside0 (gb250 ≠ gb278) := ⟨h26_⟩
                          have n27_ : Aside0 (gb278 ≠ gb250) := ⟨h27_⟩
                          have n28_ : Aside0 (Below w.heap.size w w190) := ⟨h28_⟩
                          clear HO_238000 HO_242000 HO_246000 HO_251000 BK223 BK224 BK237 BK241 BK245 BK250 HB h0_ h1_ h2_ h3_ h4_ h5_ h6_ h7_ h8_ h9_ h10_ h11_ h12_ h13_ h14_ h15_ h16_ h17_ h18_ h19_ h20_ h21_ h22_ h23_ h24_ h25_ h26_ h27_ h28_;have HO270 := n0_;have HO273 := n1_;have HO276 := n2_;have HO_238000 := n3_;have HO_242000 := n4_;have HO_246000 := n5_;have HO_251000 := n6_;have BK223 := n7_;have BK224 := n8_;have BK237 := n9_;have BK241 := n10_;have BK245 := n11_;have BK250 := n12_;have BK278 := n13_;have GW278 := n14_;have GE278 := n15_;have NB223_278 := n16_;have NB278_223 := n17_;have NB224_278 := n18_;have NB278_224 := n19_;have NB237_278 := n20_;have NB278_237 := n21_;have NB241_278 := n22_;have NB278_241 := n23_;have NB245_278 := n24_;have NB278_245 := n25_;have NB250_278 := n26_;have NB278_250 := n27_;have HB := n28_;clear n0_ n1_ n2_ n3_ n4_ n5_ n6_ n7_ n8_ n9_ n10_ n11_ n12_ n13_ n14_ n15_ n16_ n17_ n18_ n19_ n20_ n21_ n22_ n23_ n24_ n25_ n26_ n27_ n28_
                          have hHeld : w190.cell? ⟨gb223, 0, none⟩ = some (.slice A0_0 l0_0.length c0_0) ∧ w190.cell? ⟨gb224, 0, none⟩ = some (.slice A1_0 l1_0.length c1_0) := hS_
                          obtain ⟨Ao191, co191, eo191⟩ := XS_slice HO276.out;(first | subst eo191 | (injection eo191 with f1_ f2_ f3_; have f4_ := f1_.symm; have f5_ := f3_.symm; clear f1_ f2_ f3_; subst f4_; subst f5_));refine norm_ (a' := ?_) ?_ ?_;rotate_left
                          · simp only [putAll, Act.put, z9a, z9b, z9c]
                            rfl
                          refine one_ (i := 9) (N := none) #[true, true, true, true, true, true, true, true, true, true, false] rfl rfl (one_of HT_.out (by kernel_rfl)) (by decide) (fun K hK => ?_)
                          have hs192 : w190.cell? ⟨gb278, 0, none⟩ = some (.slice none 0 0) := (blk_cell BK278.out 0).trans rfl
                          have hfs192 := blk_frozen BK278.out 0;have hns192_0 := NB223_278.out;have hns192_1 := NB224_278.out;have hns192_2 := NB237_278.out;have hns192_3 := NB241_278.out;have hns192_4 := NB245_278.out;have hns192_5 := NB250_278.out;have hms192_0 := NB278_223.out;have hms192_1 := NB278_224.out;have hms192_2 := NB278_237.out;have hms192_3 := NB278_241.out;have hms192_4 := NB278_245.out;have hms192_5 := NB278_250.out;refine skip_ (w1 := ?_) (by rfl) rfl ?_ ?_;rotate_left
                          · go_simp
                            rfl
                          refine hK.out _ _ ⟨((cell_far (p := ⟨gb278, _, none⟩) NB223_278.out _).trans (hHeld.1)), ((cell_far (p := ⟨gb278, _, none⟩) NB224_278.out _).trans (hHeld.2))⟩ (fun hHeld => ?_);clear hK K;refine pure_ (i := 10) (N := some 16) (v := ?_) (a' := ?_) #[true, true, true, true, true, true, true, true, true, true, true] rfl rfl (any_of HT_.out (by kernel_rfl)) (fun _ _ _ h => h) (Or.inl ⟨by rfl, ?_⟩) ?_ ?_;rotate_left
                          · intro w'
                            go_simp
                            with_reducible rfl
                          rotate_left
                          · simp only [Act.put, z9a, z9b, z9c, i64_w, i32_w]
                            rfl
                          refine done_ (done_of HT_.out (by kernel_rfl)) ?_
                          go_upto_region 32 with (fail)
                          go_cut [110] (fun v110 wc => ∃ (kq : Nat) (x110_172 : Bool), v110 = .bool x110_172 ∧ Aside0 (laws_FnExactRoughJoin.j2 kq t265 x110_172 t266 = some r) ∧ Aside0 (kq ≤ kj106) ∧ Aside0 (XS F234 wc w.heap.size (fun k_ => ¬ F239 k_ ∧ ¬ F243 k_ ∧ ¬ F247 k_ ∧ ¬ F275 k_) (.slice Ao41 t233.length co41) t233) ∧ Aside0 (XS F239 wc w.heap.size (fun k_ => ¬ F234 k_ ∧ ¬ F243 k_ ∧ ¬ F247 k_ ∧ ¬ F275 k_) (.slice Ao47 t261.length co47) t261) ∧ Aside0 (XS F243 wc w.heap.size (fun k_ => ¬ F234 k_ ∧ ¬ F239 k_ ∧ ¬ F247 k_ ∧ ¬ F275 k_) (.slice Ao56 t263.length co56) t263) ∧ Aside0 (XS F247 wc w.heap.size (fun k_ => ¬ F234 k_ ∧ ¬ F239 k_ ∧ ¬ F243 k_ ∧ ¬ F275 k_) (.slice Ao65 t246.length co65) t266) ∧ Aside0 (XS F275 wc w.heap.size (fun k_ => ¬ F234 k_ ∧ ¬ F239 k_ ∧ ¬ F243 k_ ∧ ¬ F247 k_) (.slice Ao191 t274.length co191) t274) ∧ Aside0 (wc.heap[gb223]? = some (.cells #[(.slice A0_0 l0_0.length c0_0)] 44 (0, 0))) ∧ Aside0 (wc.heap[gb224]? = some (.cells #[(.slice A1_0 l1_0.length c1_0)] 44 (0, 0))) ∧ Aside0 (wc.heap[gb237]? = some (.cells #[(.slice Ao41 t233.length co41)] 25 (0, 0))) ∧ Aside0 (wc.heap[gb241]? = some (.cells #[(.slice Ao47 t261.length co47)] 25 (0, 0))) ∧ Aside0 (wc.heap[gb245]? = some (.cells #[(.slice Ao56 t263.length co56)] 25 (0, 0))) ∧ Aside0 (wc.heap[gb250]? = some (.cells #[(.slice Ao65 t246.length co65)] 25 (0, 0))) ∧ Aside0 (wc.heap[gb278]? = some (.cells #[(.slice Ao191 t274.length co191)] 25 (0, 0))) ∧ Aside0 (Below w.heap.size w wc))
                          case first =>
                            have H := HC173.out;clear HC173
                            replace H := Option.bind_eq_some_iff.mp H
                            obtain ⟨t279, A1930, H⟩ := H
                            replace H : (if t279 = true then (laws_FnExactRoughJoin.j2 kj106 t265 (t277 != t236) t266) else (laws_FnExactRoughJoin.j2 kj106 t265 true t266)) = some r := H
                            have A193 := Aside0.mk A1930;clear A1930
                            by_cases c194 : t279 = true
                            · subst c194
                              have H1 : (laws_FnExactRoughJoin.j2 kj106 t265 (t277 != t236) t266) = some r := by rw [if_pos rfl] at H; exact H
                              clear H;have H := H1;clear H1
                              have H' := Aside0.mk H
                              clear H;have hnb195 := NB278_223.out;have hnc195 := NB223_278.out;have hnb196 := NB278_224.out;have hnc196 := NB224_278.out;have hnb197 := NB278_237.out;have hnc197 := NB237_278.out;have hnb198 := NB278_241.out;have hnc198 := NB241_278.out;have hnb199 := NB278_245.out;have hnc199 := NB245_278.out;have hnb200 := NB278_250.out;have hnc200 := NB250_278.out
                              have hcz201_0 : w190.cell? ⟨gb278, 0, none⟩ = some (.slice none 0 0) := (blk_cell BK278.out 0).trans rfl
                              have hfz201_0 := blk_frozen BK278.out 0;have hnb202 := NB237_223.out;have hnc202 := NB223_237.out;have hnb203 := NB237_224.out;have hnc203 := NB224_237.out;have hnb204 := NB237_241.out;have hnc204 := NB241_237.out;have hnb205 := NB237_245.out;have hnc205 := NB245_237.out;have hnb206 := NB237_250.out;have hnc206 := NB250_237.out
                              have hcz207_0 : w190.cell? ⟨gb237, 0, none⟩ = some (.slice Ao41 t233.length co41) := (blk_cell BK237.out 0).trans rfl
                              have hfz207_0 := blk_frozen BK237.out 0
                              go_wp2_with (first | ((with_reducible refine gate_callee (f := 28) rfl ?_); refine goesL_ (some 104) rfl rfl Try.func28 (by kernel_rfl) rfl #[.agg #[.slice Ao191 t274.length co191], .agg #[.slice Ao41 t233.length co41]] rfl q9_5 ?_; (with_reducible refine (laws_eqRough.calls kj106 _ _ t274 _ _ t233 true _ ?side1 ?side2 ?side3 ?side4 A193.out).mono ?_); (case side1 => exact q9_101); (case side2 => exact (XS_reads HO276.out).2.1); (case side3 => exact q9_102); (case side4 => exact (XS_reads HO_238000.out).2.1); rintro e w208 ⟨rfl, hb⟩; refine ⟨_, rfl, ?_⟩; have n0_ := z9k (XS_below q9_33 hb); have n1_ := z9k (XS_below q9_81 hb); have n2_ := z9k (XS_below q9_82 hb); have n3_ := z9k (XS_below q9_83 hb); have n4_ := z9k (XS_below q9_84 hb); have n5_ := z9k (XS_below q9_85 hb); have n6_ := z9k (XS_below q9_34 hb); have n7_ := z9k (blk_below (g := gb223) (o := .cells #[.slice A0_0 l0_0.length c0_0] 44 (0, 0)) q9_75 hb); have n8_ := z9k (blk_below (g := gb224) (o := .cells #[.slice A1_0 l1_0.length c1_0] 44 (0, 0)) q9_76 hb); have n9_ := z9k (blk_below (g := gb237) (o := .cells #[.slice Ao41 t233.length co41] 25 (0, 0)) q9_77 hb); have n10_ := z9k (blk_below (g := gb241) (o := .cells #[.slice Ao47 t261.length co47] 25 (0, 0)) q9_78 hb); have n11_ := z9k (blk_below (g := gb245) (o := .cells #[.slice Ao56 t263.length co56] 25 (0, 0)) q9_79 hb); have n12_ := z9k (blk_below (g := gb250) (o := .cells #[.slice Ao65 t246.length co65] 25 (0, 0)) q9_80 hb); have n13_ := z9k (blk_below (g := gb278) (o := .cells #[.slice Ao191 t274.length co191] 25 (0, 0)) q9_69 hb); have n14_ := z9k (below_step q9_3 hb); clear HO_238000; clear HO_242000; clear HO_246000; clear HO_251000; clear HO270; clear HO273; clear HO276; clear BK223; clear BK224; clear BK237; clear BK241; clear BK245; clear BK250; clear BK278; clear HB; have HO_238000 := n0_; have HO_242000 := n1_; have HO_246000 := n2_; have HO_251000 := n3_; have HO270 := n4_; have HO273 := n5_; have HO276 := n6_; have BK223 := n7_; have BK224 := n8_; have BK237 := n9_; have BK241 := n10_; have BK245 := n11_; have BK250 := n12_; have BK278 := n13_; have HB := n14_; clear n0_ n1_ n2_ n3_ n4_ n5_ n6_ n7_ n8_ n9_ n10_ n11_ n12_ n13_ n14_; (try clear hb); (try clear hb2); (try clear hk); (try clear hi)))
                              go_meet
                              case rel => exact ⟨_, ((t277 != t236)), q9_100, H', ⟨by have := HJ24.out; have := HJ106.out; first | omega | exact Nat.le_refl _⟩, ⟨by (try simp only [hl242000_106]); (try simp only [hl246000_106]); (with_reducible repeat (first | apply XS_alloc | apply XS_drewN | apply XS_drew)); exact XS_mono HO_238000.out (fun _ hk => ⟨hk.2.2.2.1, ⟨hk.2.2.2.2.1, ⟨hk.2.2.2.2.2, hk.2.2.1⟩⟩⟩)⟩, ⟨by (try simp only [hl242000_106]); (try simp only [hl246000_106]); (with_reducible repeat (first | apply XS_alloc | apply XS_drewN | apply XS_drew)); exact XS_mono HO_242000.out (fun _ hk => ⟨hk.2.2.2.1, ⟨hk.2.2.2.2.1, ⟨hk.2.2.2.2.2, hk.2.2.1⟩⟩⟩)⟩, ⟨by (try simp only [hl242000_106]); (try simp only [hl246000_106]); (with_reducible repeat (first | apply XS_alloc | apply XS_drewN | apply XS_drew)); exact XS_mono HO_246000.out (fun _ hk => ⟨hk.2.2.2.1, ⟨hk.2.2.2.2.1, ⟨hk.2.2.2.2.2, hk.2.2.1⟩⟩⟩)⟩, ⟨by (try simp only [hl242000_106]); (try simp only [hl246000_106]); (with_reducible repeat (first | apply XS_alloc | apply XS_drewN | apply XS_drew)); exact XS_mono HO_251000.out (fun _ hk => ⟨hk.2.2.2.1, ⟨hk.2.2.2.2.1, ⟨hk.2.2.2.2.2, hk.2.2.1⟩⟩⟩)⟩, ⟨by (try simp only [hl242000_106]); (try simp only [hl246000_106]); (with_reducible repeat (first | apply XS_alloc | apply XS_drewN | apply XS_drew)); exact XS_mono HO276.out (fun _ hk => ⟨hk.2.2.1, ⟨hk.2.2.2.1, ⟨hk.2.2.2.2.1, hk.2.2.2.2.2⟩⟩⟩)⟩, ⟨by (try simp only [hl242000_106]); (try simp only [hl246000_106]); (with_reducible repeat (first | refine blk_drewN ?_ _ | refine blk_drew ?_ | refine blk_alloc ?_ _)); exact BK223.out⟩, ⟨by (try simp only [hl242000_106]); (try simp only [hl246000_106]); (with_reducible repeat (first | refine blk_drewN ?_ _ | refine blk_drew ?_ | refine blk_alloc ?_ _)); exact BK224.out⟩, ⟨by (try simp only [hl242000_106]); (try simp only [hl246000_106]); (with_reducible repeat (first | refine blk_drewN ?_ _ | refine blk_drew ?_ | refine blk_alloc ?_ _)); exact BK237.out⟩, ⟨by (try simp only [hl242000_106]); (try simp only [hl246000_106]); (with_reducible repeat (first | refine blk_drewN ?_ _ | refine blk_drew ?_ | refine blk_alloc ?_ _)); exact BK241.out⟩, ⟨by (try simp only [hl242000_106]); (try simp only [hl246000_106]); (with_reducible repeat (first | refine blk_drewN ?_ _ | refine blk_drew ?_ | refine blk_alloc ?_ _)); exact BK245.out⟩, ⟨by (try simp only [hl242000_106]); (try simp only [hl246000_106]); (with_reducible repeat (first | refine blk_drewN ?_ _ | refine blk_drew ?_ | refine blk_alloc ?_ _)); exact BK250.out⟩, ⟨by (try simp only [hl242000_106]); (try simp only [hl246000_106]); (with_reducible repeat (first | refine blk_drewN ?_ _ | refine blk_drew ?_ | refine blk_alloc ?_ _)); exact BK278.out⟩, ⟨q9_3⟩⟩
                            · replace c194 := Bool.eq_false_iff.mpr c194
                              subst c194
                              have H1 : (laws_FnExactRoughJoin.j2 kj106 t265 true t266) = some r := by rw [if_neg (show ¬ (false = true) by decide)] at H; exact H
                              clear H;have H := H1;clear H1
                              have H' := Aside0.mk H
                              clear H;have hnb209 := NB278_223.out;have hnc209 := NB223_278.out;have hnb210 := NB278_224.out;have hnc210 := NB224_278.out;have hnb211 := NB278_237.out;have hnc211 := NB237_278.out;have hnb212 := NB278_241.out;have hnc212 := NB241_278.out;have hnb213 := NB278_245.out;have hnc213 := NB245_278.out;have hnb214 := NB278_250.out;have hnc214 := NB250_278.out
                              have hcz215_0 : w190.cell? ⟨gb278, 0, none⟩ = some (.slice none 0 0) := (blk_cell BK278.out 0).trans rfl
                              have hfz215_0 := blk_frozen BK278.out 0;have hnb216 := NB237_223.out;have hnc216 := NB223_237.out;have hnb217 := NB237_224.out;have hnc217 := NB224_237.out;have hnb218 := NB237_241.out;have hnc218 := NB241_237.out;have hnb219 := NB237_245.out;have hnc219 := NB245_237.out;have hnb220 := NB237_250.out;have hnc220 := NB250_237.out
                              have hcz221_0 : w190.cell? ⟨gb237, 0, none⟩ = some (.slice Ao41 t233.length co41) := (blk_cell BK237.out 0).trans rfl
                              have hfz221_0 := blk_frozen BK237.out 0
                              go_wp2_with (first | ((with_reducible refine gate_callee (f := 28) rfl ?_); refine goesL_ (some 104) rfl rfl Try.func28 (by kernel_rfl) rfl #[.agg #[.slice Ao191 t274.length co191], .agg #[.slice Ao41 t233.length co41]] rfl q9_5 ?_; (with_reducible refine (laws_eqRough.calls kj106 _ _ t274 _ _ t233 false _ ?side1 ?side2 ?side3 ?side4 A193.out).mono ?_); (case side1 => exact q9_101); (case side2 => exact (XS_reads HO276.out).2.1); (case side3 => exact q9_102); (case side4 => exact (XS_reads HO_238000.out).2.1); rintro e w222 ⟨rfl, hb⟩; refine ⟨_, rfl, ?_⟩; have n0_ := z9k (XS_below q9_33 hb); have n1_ := z9k (XS_below q9_81 hb); have n2_ := z9k (XS_below q9_82 hb); have n3_ := z9k (XS_below q9_83 hb); have n4_ := z9k (XS_below q9_84 hb); have n5_ := z9k (XS_below q9_85 hb); have n6_ := z9k (XS_below q9_34 hb); have n7_ := z9k (blk_below (g := gb223) (o := .cells #[.slice A0_0 l0_0.length c0_0] 44 (0, 0)) q9_75 hb); have n8_ := z9k (blk_below (g := gb224) (o := .cells #[.slice A1_0 l1_0.length c1_0] 44 (0, 0)) q9_76 hb); have n9_ := z9k (blk_below (g := gb237) (o := .cells #[.slice Ao41 t233.length co41] 25 (0, 0)) q9_77 hb); have n10_ := z9k (blk_below (g := gb241) (o := .cells #[.slice Ao47 t261.length co47] 25 (0, 0)) q9_78 hb); have n11_ := z9k (blk_below (g := gb245) (o := .cells #[.slice Ao56 t263.length co56] 25 (0, 0)) q9_79 hb); have n12_ := z9k (blk_below (g := gb250) (o := .cells #[.slice Ao65 t246.length co65] 25 (0, 0)) q9_80 hb); have n13_ := z9k (blk_below (g := gb278) (o := .cells #[.slice Ao191 t274.length co191] 25 (0, 0)) q9_69 hb); have n14_ := z9k (below_step q9_3 hb); clear HO_238000; clear HO_242000; clear HO_246000; clear HO_251000; clear HO270; clear HO273; clear HO276; clear BK223; clear BK224; clear BK237; clear BK241; clear BK245; clear BK250; clear BK278; clear HB; have HO_238000 := n0_; have HO_242000 := n1_; have HO_246000 := n2_; have HO_251000 := n3_; have HO270 := n4_; have HO273 := n5_; have HO276 := n6_; have BK223 := n7_; have BK224 := n8_; have BK237 := n9_; have BK241 := n10_; have BK245 := n11_; have BK250 := n12_; have BK278 := n13_; have HB := n14_; clear n0_ n1_ n2_ n3_ n4_ n5_ n6_ n7_ n8_ n9_ n10_ n11_ n12_ n13_ n14_; (try clear hb); (try clear hb2); (try clear hk); (try clear hi)))
                              go_meet
                              case rel => exact ⟨_, (true), q9_100, H', ⟨by have := HJ24.out; have := HJ106.out; first | omega | exact Nat.le_refl _⟩, ⟨by (try simp only [hl242000_106]); (try simp only [hl246000_106]); (with_reducible repeat (first | apply XS_alloc | apply XS_drewN | apply XS_drew)); exact XS_mono HO_238000.out (fun _ hk => ⟨hk.2.2.2.1, ⟨hk.2.2.2.2.1, ⟨hk.2.2.2.2.2, hk.2.2.1⟩⟩⟩)⟩, ⟨by (try simp only [hl242000_106]); (try simp only [hl246000_106]); (with_reducible repeat (first | apply XS_alloc | apply XS_drewN | apply XS_drew)); exact XS_mono HO_242000.out (fun _ hk => ⟨hk.2.2.2.1, ⟨hk.2.2.2.2.1, ⟨hk.2.2.2.2.2, hk.2.2.1⟩⟩⟩)⟩, ⟨by (try simp only [hl242000_106]); (try simp only [hl246000_106]); (with_reducible repeat (first | apply XS_alloc | apply XS_drewN | apply XS_drew)); exact XS_mono HO_246000.out (fun _ hk => ⟨hk.2.2.2.1, ⟨hk.2.2.2.2.1, ⟨hk.2.2.2.2.2, hk.2.2.1⟩⟩⟩)⟩, ⟨by (try simp only [hl242000_106]); (try simp only [hl246000_106]); (with_reducible repeat (first | apply XS_alloc | apply XS_drewN | apply XS_drew)); exact XS_mono HO_251000.out (fun _ hk => ⟨hk.2.2.2.1, ⟨hk.2.2.2.2.1, ⟨hk.2.2.2.2.2, hk.2.2.1⟩⟩⟩)⟩, ⟨by (try simp only [hl242000_106]); (try simp only [hl246000_106]); (with_reducible repeat (first | apply XS_alloc | apply XS_drewN | apply XS_drew)); exact XS_mono HO276.out (fun _ hk => ⟨hk.2.2.1, ⟨hk.2.2.2.1, ⟨hk.2.2.2.2.1, hk.2.2.2.2.2⟩⟩⟩)⟩, ⟨by (try simp only [hl242000_106]); (try simp only [hl246000_106]); (with_reducible repeat (first | refine blk_drewN ?_ _ | refine blk_drew ?_ | refine blk_alloc ?_ _)); exact BK223.out⟩, ⟨by (try simp only [hl242000_106]); (try simp only [hl246000_106]); (with_reducible repeat (first | refine blk_drewN ?_ _ | refine blk_drew ?_ | refine blk_alloc ?_ _)); exact BK224.out⟩, ⟨by (try simp only [hl242000_106]); (try simp only [hl246000_106]); (with_reducible repeat (first | refine blk_drewN ?_ _ | refine blk_drew ?_ | refine blk_alloc ?_ _)); exact BK237.out⟩, ⟨by (try simp only [hl242000_106]); (try simp only [hl246000_106]); (with_reducible repeat (first | refine blk_drewN ?_ _ | refine blk_drew ?_ | refine blk_alloc ?_ _)); exact BK241.out⟩, ⟨by (try simp only [hl242000_106]); (try simp only [hl246000_106]); (with_reducible repeat (first | refine blk_drewN ?_ _ | refine blk_drew ?_ | refine blk_alloc ?_ _)); exact BK245.out⟩, ⟨by (try simp only [hl242000_106]); (try simp only [hl246000_106]); (with_reducible repeat (first | refine blk_drewN ?_ _ | refine blk_drew ?_ | refine blk_alloc ?_ _)); exact BK250.out⟩, ⟨by (try simp only [hl242000_106]); (try simp only [hl246000_106]); (with_reducible repeat (first | refine blk_drewN ?_ _ | refine blk_drew ?_ | refine blk_alloc ?_ _)); exact BK278.out⟩, ⟨q9_3⟩⟩
                          case rest =>
                            clear HC173
                            try clear c1
                            try clear c2
                            try clear p2
                            try clear c14
                            try clear c19
                            try clear c20
                            try clear c21
                            try clear c22
                            try clear c27
                            try clear c28
                            try clear c194
                            try clear c195
                            try clear c196
                            try clear c197
                            try clear c198
                            try clear c199
                            try clear c200
                            try clear c202
                            try clear c203
                            try clear c204
                            try clear c205
                            try clear c206
                            try clear c209
                            try clear c210
                            try clear c211
                            try clear c212
                            try clear c213
                            try clear c214
                            try clear c216
                            try clear c217
                            try clear c218
                            try clear c219
                            try clear c220
                            try clear hcz201_0
                            try clear hcz207_0
                            try clear hcz215_0
                            try clear hcz221_0
                            try clear hfz201_0
                            try clear hfz207_0
                            try clear hfz215_0
                            try clear hfz221_0
                            obtain ⟨kq, x110_172, rfl, HA, HJ172, HO_238000, HO_242000, HO_246000, HO_251000, HO_279000, BK223, BK224, BK237, BK241, BK245, BK250, BK278, HB⟩ := hcut;have hl251000_172 := (XS_reads HO_251000.out).1
                            rw [hl251000_172] at HO_251000
                            (try simp only [hl251000_172])
                            (try simp only [hl251000_172] at BK223)
                            (try simp only [hl251000_172] at BK224)
                            (try simp only [hl251000_172] at BK237)
                            (try simp only [hl251000_172] at BK241)
                            (try simp only [hl251000_172] at BK245)
                            (try simp only [hl251000_172] at BK250)
                            (try simp only [hl251000_172] at BK278)
                            (try simp only [hl251000_172] at HO_238000)
                            (try simp only [hl251000_172] at HO_242000)
                            (try simp only [hl251000_172] at HO_246000)
                            (try simp only [hl251000_172] at HO_279000)
                            cases kq with
                            | zero => exact absurd HA.out (by simp [laws_FnExactRoughJoin.j2])
                            | succ kj172 =>
                              have H := HA.out;clear HA
                              simp only [laws_FnExactRoughJoin.j2] at H
                              by_cases c223 : x110_172 = true
                              · subst c223
                                have H1 : (some false) = some r := by rw [if_pos rfl] at H; exact H
                                clear H;have H := H1;clear H1
                                obtain rfl := Option.some.inj H
                                go_wp2
                                go_ret
                                exact ⟨q9_30, q9_3⟩
                              · replace c223 := Bool.eq_false_iff.mpr c223
                                subst c223
                                have H1 : ((laws_heldRough.f kj172 t266 1).bind fun t280 => (if t280 < 0 then (some false) else (if t280 = t265 then (some true) else (some false)))) = some r := by rw [if_neg (show ¬ (false = true) by decide)] at H; exact H
                                clear H;have H := H1;clear H1
                                replace H := Option.bind_eq_some_iff.mp H
                                obtain ⟨t280, A2240, H⟩ := H
                                replace H : (if t280 < 0 then (some false) else (if t280 = t265 then (some true) else (some false))) = some r := H
                                have A224 := Aside0.mk A2240;clear A2240
                                by_cases c225 : t280 < 0
                                · rw [if_pos c225] at H
                                  have c225b0 : decide (t280 < 0) = true := decide_eq_true c225
                                  clear c225
                                  obtain rfl := Option.some.inj H
                                  have hnb226 := NB250_223.out;have hnc226 := NB223_250.out;have hnb227 := NB250_224.out;have hnc227 := NB224_250.out;have hnb228 := NB250_237.out;have hnc228 := NB237_250.out;have hnb229 := NB250_241.out;have hnc229 := NB241_250.out;have hnb230 := NB250_245.out;have hnc230 := NB245_250.out;have hnb231 := NB250_278.out;have hnc231 := NB278_250.out
                                  have hcz232_0 : wc.cell? ⟨gb250, 0, none⟩ = some (.slice Ao65 t266.length co65) := (blk_cell BK250.out 0).trans rfl
                                  have hfz232_0 := blk_frozen BK250.out 0
                                  go_wp2_with (first | ((with_reducible refine gate_callee (f := 30) rfl ?_); refine goesL_ (some 113) rfl rfl Try.func30 (by kernel_rfl) rfl #[.agg #[.slice Ao65 t266.length co65], .int .i64 1] rfl q9_5 ?_; (with_reducible refine (laws_heldRough.calls kj172 _ _ t266 1 t280 _ ?side1 ?side2 A224.out).mono ?_); (case side1 => exact q9_24); (case side2 => exact (XS_reads HO_251000.out).2.1); rintro e w233 ⟨rfl, hb⟩; refine ⟨_, rfl, ?_⟩; have n0_ := z9k (XS_below q9_11 hb); have n1_ := z9k (XS_below q9_12 hb); have n2_ := z9k (XS_below q9_13 hb); have n3_ := z9k (XS_below q9_14 hb); have n4_ := z9k (XS_below q9_106 hb); have n5_ := z9k (blk_below (g := gb223) (o := .cells #[.slice A0_0 l0_0.length c0_0] 44 (0, 0)) q9_1 hb); have n6_ := z9k (blk_below (g := gb224) (o := .cells #[.slice A1_0 l1_0.length c1_0] 44 (0, 0)) q9_2 hb); have n7_ := z9k (blk_below (g := gb237) (o := .cells #[.slice Ao41 t233.length co41] 25 (0, 0)) q9_4 hb); have n8_ := z9k (blk_below (g := gb241) (o := .cells #[.slice Ao47 t261.length co47] 25 (0, 0)) q9_6 hb); have n9_ := z9k (blk_below (g := gb245) (o := .cells #[.slice Ao56 t263.length co56] 25 (0, 0)) q9_7 hb); have n10_ := z9k (blk_below (g := gb250) (o := .cells #[.slice Ao65 t266.length co65] 25 (0, 0)) q9_8 hb); have n11_ := z9k (blk_below (g := gb278) (o := .cells #[.slice Ao191 t274.length co191] 25 (0, 0)) q9_21 hb); have n12_ := z9k (below_step q9_3 hb); clear HO_238000; clear HO_242000; clear HO_246000; clear HO_251000; clear HO_279000; clear BK223; clear BK224; clear BK237; clear BK241; clear BK245; clear BK250; clear BK278; clear HB; have HO_238000 := n0_; have HO_242000 := n1_; have HO_246000 := n2_; have HO_251000 := n3_; have HO_279000 := n4_; have BK223 := n5_; have BK224 := n6_; have BK237 := n7_; have BK241 := n8_; have BK245 := n9_; have BK250 := n10_; have BK278 := n11_; have HB := n12_; clear n0_ n1_ n2_ n3_ n4_ n5_ n6_ n7_ n8_ n9_ n10_ n11_ n12_; (try clear hb); (try clear hb2); (try clear hk); (try clear hi)))
                                  go_ret
                                  exact ⟨q9_30, q9_3⟩
                                · rw [if_neg c225] at H
                                  have c225b0 : decide (t280 < 0) = false := decide_eq_false c225
                                  clear c225
                                  by_cases c234 : t280 = t265
                                  · rw [if_pos c234] at H
                                    have c234b0 : (t280 == t265) = true := beq_iff_eq.mpr c234
                                    have c234b1 : (t280 != t265) = false := bne_eq_false_iff_eq.mpr c234
                                    clear c234
                                    obtain rfl := Option.some.inj H
                                    have hnb235 := NB250_223.out;have hnc235 := NB223_250.out;have hnb236 := NB250_224.out;have hnc236 := NB224_250.out;have hnb237 := NB250_237.out;have hnc237 := NB237_250.out;have hnb238 := NB250_241.out;have hnc238 := NB241_250.out;have hnb239 := NB250_245.out;have hnc239 := NB245_250.out;have hnb240 := NB250_278.out;have hnc240 := NB278_250.out
                                    have hcz241_0 : wc.cell? ⟨gb250, 0, none⟩ = some (.slice Ao65 t266.length co65) := (blk_cell BK250.out 0).trans rfl
                                    have hfz241_0 := blk_frozen BK250.out 0
                                    go_wp2_with (first | ((with_reducible refine gate_callee (f := 30) rfl ?_); refine goesL_ (some 113) rfl rfl Try.func30 (by kernel_rfl) rfl #[.agg #[.slice Ao65 t266.length co65], .int .i64 1] rfl q9_5 ?_; (with_reducible refine (laws_heldRough.calls kj172 _ _ t266 1 t280 _ ?side1 ?side2 A224.out).mono ?_); (case side1 => exact q9_24); (case side2 => exact (XS_reads HO_251000.out).2.1); rintro e w242 ⟨rfl, hb⟩; refine ⟨_, rfl, ?_⟩; have n0_ := z9k (XS_below q9_11 hb); have n1_ := z9k (XS_below q9_12 hb); have n2_ := z9k (XS_below q9_13 hb); have n3_ := z9k (XS_below q9_14 hb); have n4_ := z9k (XS_below q9_106 hb); have n5_ := z9k (blk_below (g := gb223) (o := .cells #[.slice A0_0 l0_0.length c0_0] 44 (0, 0)) q9_1 hb); have n6_ := z9k (blk_below (g := gb224) (o := .cells #[.slice A1_0 l1_0.length c1_0] 44 (0, 0)) q9_2 hb); have n7_ := z9k (blk_below (g := gb237) (o := .cells #[.slice Ao41 t233.length co41] 25 (0, 0)) q9_4 hb); have n8_ := z9k (blk_below (g := gb241) (o := .cells #[.slice Ao47 t261.length co47] 25 (0, 0)) q9_6 hb); have n9_ := z9k (blk_below (g := gb245) (o := .cells #[.slice Ao56 t263.length co56] 25 (0, 0)) q9_7 hb); have n10_ := z9k (blk_below (g := gb250) (o := .cells #[.slice Ao65 t266.length co65] 25 (0, 0)) q9_8 hb); have n11_ := z9k (blk_below (g := gb278) (o := .cells #[.slice Ao191 t274.length co191] 25 (0, 0)) q9_21 hb); have n12_ := z9k (below_step q9_3 hb); clear HO_238000; clear HO_242000; clear HO_246000; clear HO_251000; clear HO_279000; clear BK223; clear BK224; clear BK237; clear BK241; clear BK245; clear BK250; clear BK278; clear HB; have HO_238000 := n0_; have HO_242000 := n1_; have HO_246000 := n2_; have HO_251000 := n3_; have HO_279000 := n4_; have BK223 := n5_; have BK224 := n6_; have BK237 := n7_; have BK241 := n8_; have BK245 := n9_; have BK250 := n10_; have BK278 := n11_; have HB := n12_; clear n0_ n1_ n2_ n3_ n4_ n5_ n6_ n7_ n8_ n9_ n10_ n11_ n12_; (try clear hb); (try clear hb2); (try clear hk); (try clear hi)))
                                    go_ret
                                    exact ⟨q9_30, q9_3⟩
                                  · rw [if_neg c234] at H
                                    have c234b0 : (t280 == t265) = false := beq_eq_false_iff_ne.mpr c234
                                    have c234b1 : (t280 != t265) = true := bne_iff_ne.mpr c234
                                    obtain rfl := Option.some.inj H
                                    have hnb243 := NB250_223.out;have hnc243 := NB223_250.out;have hnb244 := NB250_224.out;have hnc244 := NB224_250.out;have hnb245 := NB250_237.out;have hnc245 := NB237_250.out;have hnb246 := NB250_241.out;have hnc246 := NB241_250.out;have hnb247 := NB250_245.out;have hnc247 := NB245_250.out;have hnb248 := NB250_278.out;have hnc248 := NB278_250.out
                                    have hcz249_0 : wc.cell? ⟨gb250, 0, none⟩ = some (.slice Ao65 t266.length co65) := (blk_cell BK250.out 0).trans rfl
                                    have hfz249_0 := blk_frozen BK250.out 0
                                    go_wp2_with (first | ((with_reducible refine gate_callee (f := 30) rfl ?_); refine goesL_ (some 113) rfl rfl Try.func30 (by kernel_rfl) rfl #[.agg #[.slice Ao65 t266.length co65], .int .i64 1] rfl q9_5 ?_; (with_reducible refine (laws_heldRough.calls kj172 _ _ t266 1 t280 _ ?side1 ?side2 A224.out).mono ?_); (case side1 => exact q9_24); (case side2 => exact (XS_reads HO_251000.out).2.1); rintro e w250 ⟨rfl, hb⟩; refine ⟨_, rfl, ?_⟩; have n0_ := z9k (XS_below q9_11 hb); have n1_ := z9k (XS_below q9_12 hb); have n2_ := z9k (XS_below q9_13 hb); have n3_ := z9k (XS_below q9_14 hb); have n4_ := z9k (XS_below q9_106 hb); have n5_ := z9k (blk_below (g := gb223) (o := .cells #[.slice A0_0 l0_0.length c0_0] 44 (0, 0)) q9_1 hb); have n6_ := z9k (blk_below (g := gb224) (o := .cells #[.slice A1_0 l1_0.length c1_0] 44 (0, 0)) q9_2 hb); have n7_ := z9k (blk_below (g := gb237) (o := .cells #[.slice Ao41 t233.length co41] 25 (0, 0)) q9_4 hb); have n8_ := z9k (blk_below (g := gb241) (o := .cells #[.slice Ao47 t261.length co47] 25 (0, 0)) q9_6 hb); have n9_ := z9k (blk_below (g := gb245) (o := .cells #[.slice Ao56 t263.length co56] 25 (0, 0)) q9_7 hb); have n10_ := z9k (blk_below (g := gb250) (o := .cells #[.slice Ao65 t266.length co65] 25 (0, 0)) q9_8 hb); have n11_ := z9k (blk_below (g := gb278) (o := .cells #[.slice Ao191 t274.length co191] 25 (0, 0)) q9_21 hb); have n12_ := z9k (below_step q9_3 hb); clear HO_238000; clear HO_242000; clear HO_246000; clear HO_251000; clear HO_279000; clear BK223; clear BK224; clear BK237; clear BK241; clear BK245; clear BK250; clear BK278; clear HB; have HO_238000 := n0_; have HO_242000 := n1_; have HO_246000 := n2_; have HO_251000 := n3_; have HO_279000 := n4_; have BK223 := n5_; have BK224 := n6_; have BK237 := n7_; have BK241 := n8_; have BK245 := n9_; have BK250 := n10_; have BK278 := n11_; have HB := n12_; clear n0_ n1_ n2_ n3_ n4_ n5_ n6_ n7_ n8_ n9_ n10_ n11_ n12_; (try clear hb); (try clear hb2); (try clear hk); (try clear hi)))
                                    go_ret
                                    exact ⟨q9_30, q9_3⟩
                        · rw [if_neg c169] at H
                          have c169b0 : (t267 == t265) = false := beq_eq_false_iff_ne.mpr c169
                          have c169b1 : (t267 != t265) = true := bne_iff_ne.mpr c169
                          obtain rfl := Option.some.inj H
                          have hnb251 := NB250_223.out;have hnc251 := NB223_250.out;have hnb252 := NB250_224.out;have hnc252 := NB224_250.out;have hnb253 := NB250_237.out;have hnc253 := NB237_250.out;have hnb254 := NB250_241.out;have hnc254 := NB241_250.out;have hnb255 := NB250_245.out;have hnc255 := NB245_250.out
                          have hcz256_0 : wc.cell? ⟨gb250, 0, none⟩ = some (.slice Ao65 t246.length co65) := (blk_cell BK250.out 0).trans rfl
                          have hfz256_0 := blk_frozen BK250.out 0
                          go_wp2_with (first | ((with_reducible refine gate_callee (f := 29) rfl ?_); refine goesL_ (some 85) rfl rfl Try.func29 (by kernel_rfl) rfl #[.agg #[.slice Ao65 t246.length co65], .int .i64 1] rfl q9_5 ?_; (with_reducible refine (laws_markRough.calls kj106 ?p5_ (.slice Ao65 t246.length co65) t246 1 t265 t266 w _ ?side1 ?side2 A157.out).mono ?_); (case side1 => exact q9_0); (case side2 => exact XS_own HO_251000.out); rintro e w257 ⟨rfl, hy0, hb, hkp⟩; refine ⟨_, rfl, ?_⟩; have n0_ := z9k (XS_mono (ok' := fun k_ => ¬ F239 k_ ∧ ¬ F243 k_ ∧ ¬ F247 k_) (XS_keptB (HO_238000.out) hkp (fun k_ hk_ hs_ => (hk_.2.2) hs_.1.1)) (fun k_ hk_ => ⟨hk_.1.1, hk_.1.2.1, hk_.1.2.2⟩)); have n1_ := z9k (XS_mono (ok' := fun k_ => ¬ F234 k_ ∧ ¬ F243 k_ ∧ ¬ F247 k_) (XS_keptB (HO_242000.out) hkp (fun k_ hk_ hs_ => (hk_.2.2) hs_.1.1)) (fun k_ hk_ => ⟨hk_.1.1, hk_.1.2.1, hk_.1.2.2⟩)); have n2_ := z9k (XS_mono (ok' := fun k_ => ¬ F234 k_ ∧ ¬ F239 k_ ∧ ¬ F247 k_) (XS_keptB (HO_246000.out) hkp (fun k_ hk_ hs_ => (hk_.2.2) hs_.1.1)) (fun k_ hk_ => ⟨hk_.1.1, hk_.1.2.1, hk_.1.2.2⟩)); have n3_ := z9k (XS_reok HO_251000.out hy0 hkp); have n4_ := z9k (XS_blk_kept q9_1 hkp (by decide)); have n5_ := z9k (XS_blk_kept q9_2 hkp (by decide)); have n6_ := z9k (XS_blk_kept q9_4 hkp (by decide)); have n7_ := z9k (XS_blk_kept q9_6 hkp (by decide)); have n8_ := z9k (XS_blk_kept q9_7 hkp (by decide)); have n9_ := z9k (XS_blk_kept q9_8 hkp (by decide)); have n10_ := z9k (hb); clear HO_238000; clear HO_242000; clear HO_246000; clear HO_251000; clear BK223; clear BK224; clear BK237; clear BK241; clear BK245; clear BK250; clear HB; have HO_238000 := n0_; have HO_242000 := n1_; have HO_246000 := n2_; have HO_251000 := n3_; have BK223 := n4_; have BK224 := n5_; have BK237 := n6_; have BK241 := n7_; have BK245 := n8_; have BK250 := n9_; have HB := n10_; clear n0_ n1_ n2_ n3_ n4_ n5_ n6_ n7_ n8_ n9_ n10_; (try clear hb); (try clear hkp); (try clear hy0); have hcz258_0 : w257.cell? ⟨gb250, 0, none⟩ = some (.slice Ao65 t246.length co65) := (blk_cell BK250.out 0).trans rfl; have hfz258_0 := blk_frozen BK250.out 0) | ((with_reducible refine gate_callee (f := 30) rfl ?_); refine goesL_ (some 88) rfl rfl Try.func30 (by kernel_rfl) rfl #[.agg #[.slice Ao65 t266.length co65], .int .i64 1] rfl q9_54 ?_; (with_reducible refine (laws_heldRough.calls kj106 _ _ t266 1 t267 _ ?side1 ?side2 A158.out).mono ?_); (case side1 => exact q9_24); (case side2 => exact q9_104); rintro e w259 ⟨rfl, hb⟩; refine ⟨_, rfl, ?_⟩; have n0_ := z9k (XS_below q9_11 hb); have n1_ := z9k (XS_below q9_12 hb); have n2_ := z9k (XS_below q9_13 hb); have n3_ := z9k (XS_below q9_14 hb); have n4_ := z9k (blk_below (g := gb223) (o := .cells #[.slice A0_0 l0_0.length c0_0] 44 (0, 0)) q9_1 hb); have n5_ := z9k (blk_below (g := gb224) (o := .cells #[.slice A1_0 l1_0.length c1_0] 44 (0, 0)) q9_2 hb); have n6_ := z9k (blk_below (g := gb237) (o := .cells #[.slice Ao41 t233.length co41] 25 (0, 0)) q9_4 hb); have n7_ := z9k (blk_below (g := gb241) (o := .cells #[.slice Ao47 t261.length co47] 25 (0, 0)) q9_6 hb); have n8_ := z9k (blk_below (g := gb245) (o := .cells #[.slice Ao56 t263.length co56] 25 (0, 0)) q9_7 hb); have n9_ := z9k (blk_below (g := gb250) (o := .cells #[.slice Ao65 t246.length co65] 25 (0, 0)) q9_8 hb); have n10_ := z9k (below_step q9_0 hb); clear HO_238000; clear HO_242000; clear HO_246000; clear HO_251000; clear BK223; clear BK224; clear BK237; clear BK241; clear BK245; clear BK250; clear HB; have HO_238000 := n0_; have HO_242000 := n1_; have HO_246000 := n2_; have HO_251000 := n3_; have BK223 := n4_; have BK224 := n5_; have BK237 := n6_; have BK241 := n7_; have BK245 := n8_; have BK250 := n9_; have HB := n10_; clear n0_ n1_ n2_ n3_ n4_ n5_ n6_ n7_ n8_ n9_ n10_; (try clear hb); (try clear hb2); (try clear hk); (try clear hi)))
                          go_ret
                          exact ⟨q9_30, q9_0⟩
              · replace c104 := Bool.eq_false_iff.mpr c104
                subst c104
                have H1 : (some false) = some r := by rw [if_neg (show ¬ (false = true) by decide)] at H; exact H
                clear H;have H := H1;clear H1
                obtain rfl := Option.some.inj H
                try go_wp2
                have n0_ := z9k (XS_drew HO_238000.out);have n1_ := z9k (XS_drew HO_242000.out);have n2_ := z9k (XS_drew HO_246000.out);have n3_ := z9k (XS_drew HO_251000.out);have n4_ := z9k (blk_drew BK223.out);have n5_ := z9k (blk_drew BK224.out);have n6_ := z9k (blk_drew BK237.out);have n7_ := z9k (blk_drew BK241.out);have n8_ := z9k (blk_drew BK245.out);have n9_ := z9k (blk_drew BK250.out);have n10_ := z9k (below_drew1 HB.out);clear HO_238000 HO_242000 HO_246000 HO_251000 BK223 BK224 BK237 BK241 BK245 BK250 HB;have HO_238000 := n0_;have HO_242000 := n1_;have HO_246000 := n2_;have HO_251000 := n3_;have BK223 := n4_;have BK224 := n5_;have BK237 := n6_;have BK241 := n7_;have BK245 := n8_;have BK250 := n9_;have HB := n10_;clear n0_ n1_ n2_ n3_ n4_ n5_ n6_ n7_ n8_ n9_ n10_;refine start_ (n := 5) (S := fun w' => w'.cell? ⟨gb241, 0, none⟩ = some (.slice Ao47 t238.length co47) ∧ w'.cell? ⟨gb223, 0, none⟩ = some (.slice A0_0 l0_0.length c0_0)) (ds := []) #[false, false, false, false, false] (by kernel_rfl) rfl rfl ⟨(blk_cell BK241.out 0).trans rfl, (blk_cell BK223.out 0).trans rfl⟩ (fun hHeld => ?_)
                generalize wc.drew = w260 at HO_238000 HO_242000 HO_246000 HO_251000 BK223 BK224 BK237 BK241 BK245 BK250 HB hHeld ⊢
                refine take_ (i := 0) (N := some 54) (v := ?_) (a' := ?_) #[true, false, false, false, false] rfl rfl (by kernel_rfl) (fun _ _ _ h => h) (Or.inl ⟨by rfl, ?_⟩) hHeld ?_ ?_;rotate_left
                · rintro w' ⟨s0, s1⟩
                  go_simp
                  with_reducible rfl
                rotate_left
                · simp only [Act.put, z9a, z9b, z9c, i64_w, i32_w]
                  rfl
                refine take_ (i := 1) (N := some 55) (v := ?_) (a' := ?_) #[true, true, false, false, false] rfl rfl (by kernel_rfl) (fun _ _ _ h => h) (Or.inl ⟨by rfl, ?_⟩) hHeld ?_ ?_;rotate_left
                · rintro w' ⟨s0, s1⟩
                  go_simp
                  with_reducible rfl
                rotate_left
                · simp only [Act.put, z9a, z9b, z9c, i64_w, i32_w]
                  rfl
                refine one_ (i := 2) (N := some 56) #[true, true, true, false, false] rfl rfl (by kernel_rfl) (by decide) (fun K hK => ?_);refine goes_ Try.func27 (by kernel_rfl) rfl #[.agg #[.slice A0_0 l0_0.length c0_0]] (by rfl) rfl rfl q9_5 ?_
                with_reducible refine (laws_toRough.calls kj24 _ _ l0_0 t252 _ ?side1 ?side2 A99.out).mono ?_
                (case side1 => exact q9_16);(case side2 => exact HC0_0.out);rintro e w261 ⟨v253, rfl, ho0, hb⟩; obtain ⟨F253, hF0, ho0⟩ := XS_intro ho0;refine ⟨_, rfl, ?_⟩;have n0_ := z9k (XS_elder q9_11 hF0 hb);have n1_ := z9k (XS_elder q9_12 hF0 hb);have n2_ := z9k (XS_elder q9_13 hF0 hb);have n3_ := z9k (XS_elder q9_14 hF0 hb);have n4_ := z9k (XS_lower (XS_new (XS_new (XS_new (XS_new ho0 (XS_lt q9_11)) (XS_lt q9_12)) (XS_lt q9_13)) (XS_lt q9_14)) (below_size q9_0));have n5_ := z9k (blk_below (g := gb223) (o := .cells #[.slice A0_0 l0_0.length c0_0] 44 (0, 0)) q9_1 hb);have n6_ := z9k (blk_below (g := gb224) (o := .cells #[.slice A1_0 l1_0.length c1_0] 44 (0, 0)) q9_2 hb);have n7_ := z9k (blk_below (g := gb237) (o := .cells #[.slice Ao41 t233.length co41] 25 (0, 0)) q9_4 hb);have n8_ := z9k (blk_below (g := gb241) (o := .cells #[.slice Ao47 t238.length co47] 25 (0, 0)) q9_6 hb);have n9_ := z9k (blk_below (g := gb245) (o := .cells #[.slice Ao56 t242.length co56] 25 (0, 0)) q9_7 hb);have n10_ := z9k (blk_below (g := gb250) (o := .cells #[.slice Ao65 t246.length co65] 25 (0, 0)) q9_8 hb);have n11_ := z9k (below_step q9_0 hb);clear HO_238000 HO_242000 HO_246000 HO_251000 BK223 BK224 BK237 BK241 BK245 BK250 HB;have HO_238000 := n0_;have HO_242000 := n1_;have HO_246000 := n2_;have HO_251000 := n3_;have HO254 := n4_;have BK223 := n5_;have BK224 := n6_;have BK237 := n7_;have BK241 := n8_;have BK245 := n9_;have BK250 := n10_;have HB := n11_;clear n0_ n1_ n2_ n3_ n4_ n5_ n6_ n7_ n8_ n9_ n10_ n11_;(try clear hb);(try clear hb2);(try clear hk);(try clear hi);(try clear ho0); (try clear hF0);obtain ⟨Ao262, co262, eo262⟩ := XS_slice HO254.out;(first | subst eo262 | (injection eo262 with f1_ f2_ f3_; have f4_ := f1_.symm; have f5_ := f3_.symm; clear f1_ f2_ f3_; subst f4_; subst f5_));refine hK.out _ _ ⟨(blk_cell BK241.out 0).trans rfl, (blk_cell BK223.out 0).trans rfl⟩ (fun hHeld => ?_);clear hK K;refine norm_ (a' := ?_) ?_ ?_;rotate_left
                · show Act.put _ (some 56) _ = _
                  simp only [Act.put, z9a, z9b, z9c, i64_w, i32_w]
                  rfl
                refine one_ (i := 3) (N := some 57) #[true, true, true, true, false] rfl rfl (by kernel_rfl) (by decide) (fun K hK => ?_);refine goes_ Try.func28 (by kernel_rfl) rfl #[.agg #[.slice Ao47 t238.length co47], .agg #[.slice Ao262 t252.length co262]] (by rfl) rfl rfl q9_5 ?_
                with_reducible refine (laws_eqRough.calls kj24 _ _ t238 _ _ t252 true _ ?side1 ?side2 ?side3 ?side4 A100.out).mono ?_
                (case side1 => exact q9_58);(case side2 => exact (XS_reads HO_242000.out).2.1);(case side3 => exact q9_59);(case side4 => exact (XS_reads HO254.out).2.1);rintro e w263 ⟨rfl, hb⟩;refine ⟨_, rfl, ?_⟩;have n0_ := z9k (XS_below q9_11 hb);have n1_ := z9k (XS_below q9_12 hb);have n2_ := z9k (XS_below q9_13 hb);have n3_ := z9k (XS_below q9_14 hb);have n4_ := z9k (XS_below q9_31 hb);have n5_ := z9k (blk_below (g := gb223) (o := .cells #[.slice A0_0 l0_0.length c0_0] 44 (0, 0)) q9_1 hb);have n6_ := z9k (blk_below (g := gb224) (o := .cells #[.slice A1_0 l1_0.length c1_0] 44 (0, 0)) q9_2 hb);have n7_ := z9k (blk_below (g := gb237) (o := .cells #[.slice Ao41 t233.length co41] 25 (0, 0)) q9_4 hb);have n8_ := z9k (blk_below (g := gb241) (o := .cells #[.slice Ao47 t238.length co47] 25 (0, 0)) q9_6 hb);have n9_ := z9k (blk_below (g := gb245) (o := .cells #[.slice Ao56 t242.length co56] 25 (0, 0)) q9_7 hb);have n10_ := z9k (blk_below (g := gb250) (o := .cells #[.slice Ao65 t246.length co65] 25 (0, 0)) q9_8 hb);have n11_ := z9k (below_step q9_0 hb);clear HO_238000 HO_242000 HO_246000 HO_251000 HO254 BK223 BK224 BK237 BK241 BK245 BK250 HB;have HO_238000 := n0_;have HO_242000 := n1_;have HO_246000 := n2_;have HO_251000 := n3_;have HO254 := n4_;have BK223 := n5_;have BK224 := n6_;have BK237 := n7_;have BK241 := n8_;have BK245 := n9_;have BK250 := n10_;have HB := n11_;clear n0_ n1_ n2_ n3_ n4_ n5_ n6_ n7_ n8_ n9_ n10_ n11_;(try clear hb);(try clear hb2);(try clear hk);(try clear hi);refine hK.out _ _ ⟨(blk_cell BK241.out 0).trans rfl, (blk_cell BK223.out 0).trans rfl⟩ (fun hHeld => ?_);clear hK K;refine norm_ (a' := ?_) ?_ ?_;rotate_left
                · show Act.put _ (some 57) _ = _
                  simp only [Act.put, z9a, z9b, z9c, i64_w, i32_w]
                  rfl
                refine pure_ (i := 4) (N := some 58) (v := ?_) (a' := ?_) #[true, true, true, true, true] rfl rfl (by kernel_rfl) (fun _ _ _ h => h) (Or.inl ⟨by rfl, ?_⟩) ?_ ?_;rotate_left
                · intro w'
                  go_simp
                  with_reducible rfl
                rotate_left
                · simp only [Act.put, z9a, z9b, z9c, i64_w, i32_w]
                  rfl
                refine done_ (by kernel_rfl) ?_
                try go_wp2
                have n0_ := z9k (XS_drew HO_238000.out);have n1_ := z9k (XS_drew HO_242000.out);have n2_ := z9k (XS_drew HO_246000.out);have n3_ := z9k (XS_drew HO_251000.out);have n4_ := z9k (XS_drew HO254.out);have n5_ := z9k (blk_drew BK223.out);have n6_ := z9k (blk_drew BK224.out);have n7_ := z9k (blk_drew BK237.out);have n8_ := z9k (blk_drew BK241.out);have n9_ := z9k (blk_drew BK245.out);have n10_ := z9k (blk_drew BK250.out);have n11_ := z9k (below_drew1 HB.out);clear HO_238000 HO_242000 HO_246000 HO_251000 HO254 BK223 BK224 BK237 BK241 BK245 BK250 HB;have HO_238000 := n0_;have HO_242000 := n1_;have HO_246000 := n2_;have HO_251000 := n3_;have HO254 := n4_;have BK223 := n5_;have BK224 := n6_;have BK237 := n7_;have BK241 := n8_;have BK245 := n9_;have BK250 := n10_;have HB := n11_;clear n0_ n1_ n2_ n3_ n4_ n5_ n6_ n7_ n8_ n9_ n10_ n11_;refine start_ (n := 5) (S := fun w' => w'.cell? ⟨gb245, 0, none⟩ = some (.slice Ao56 t242.length co56) ∧ w'.cell? ⟨gb224, 0, none⟩ = some (.slice A1_0 l1_0.length c1_0)) (ds := []) #[false, false, false, false, false] (by kernel_rfl) rfl rfl ⟨(blk_cell BK245.out 0).trans rfl, (blk_cell BK224.out 0).trans rfl⟩ (fun hHeld => ?_)
                generalize w263.drew = w264 at HO_238000 HO_242000 HO_246000 HO_251000 HO254 BK223 BK224 BK237 BK241 BK245 BK250 HB hHeld ⊢
                refine take_ (i := 0) (N := some 59) (v := ?_) (a' := ?_) #[true, false, false, false, false] rfl rfl (by kernel_rfl) (fun _ _ _ h => h) (Or.inl ⟨by rfl, ?_⟩) hHeld ?_ ?_;rotate_left
                · rintro w' ⟨s0, s1⟩
                  go_simp
                  with_reducible rfl
                rotate_left
                · simp only [Act.put, z9a, z9b, z9c, i64_w, i32_w]
                  rfl
                refine take_ (i := 1) (N := some 60) (v := ?_) (a' := ?_) #[true, true, false, false, false] rfl rfl (by kernel_rfl) (fun _ _ _ h => h) (Or.inl ⟨by rfl, ?_⟩) hHeld ?_ ?_;rotate_left
                · rintro w' ⟨s0, s1⟩
                  go_simp
                  with_reducible rfl
                rotate_left
                · simp only [Act.put, z9a, z9b, z9c, i64_w, i32_w]
                  rfl
                refine one_ (i := 2) (N := some 61) #[true, true, true, false, false] rfl rfl (by kernel_rfl) (by decide) (fun K hK => ?_);refine goes_ Try.func27 (by kernel_rfl) rfl #[.agg #[.slice A1_0 l1_0.length c1_0]] (by rfl) rfl rfl q9_5 ?_
                with_reducible refine (laws_toRough.calls kj24 _ _ l1_0 t256 _ ?side1 ?side2 A102.out).mono ?_
                (case side1 => exact q9_17);(case side2 => exact HC1_0.out);rintro e w265 ⟨v257, rfl, ho0, hb⟩; obtain ⟨F257, hF0, ho0⟩ := XS_intro ho0;refine ⟨_, rfl, ?_⟩;have n0_ := z9k (XS_elder q9_11 hF0 hb);have n1_ := z9k (XS_elder q9_12 hF0 hb);have n2_ := z9k (XS_elder q9_13 hF0 hb);have n3_ := z9k (XS_elder q9_14 hF0 hb);have n4_ := z9k (XS_elder q9_31 hF0 hb);have n5_ := z9k (XS_lower (XS_new (XS_new (XS_new (XS_new (XS_new ho0 (XS_lt q9_11)) (XS_lt q9_12)) (XS_lt q9_13)) (XS_lt q9_14)) (XS_lt q9_31)) (below_size q9_0));have n6_ := z9k (blk_below (g := gb223) (o := .cells #[.slice A0_0 l0_0.length c0_0] 44 (0, 0)) q9_1 hb);have n7_ := z9k (blk_below (g := gb224) (o := .cells #[.slice A1_0 l1_0.length c1_0] 44 (0, 0)) q9_2 hb);have n8_ := z9k (blk_below (g := gb237) (o := .cells #[.slice Ao41 t233.length co41] 25 (0, 0)) q9_4 hb);have n9_ := z9k (blk_below (g := gb241) (o := .cells #[.slice Ao47 t238.length co47] 25 (0, 0)) q9_6 hb);have n10_ := z9k (blk_below (g := gb245) (o := .cells #[.slice Ao56 t242.length co56] 25 (0, 0)) q9_7 hb);have n11_ := z9k (blk_below (g := gb250) (o := .cells #[.slice Ao65 t246.length co65] 25 (0, 0)) q9_8 hb);have n12_ := z9k (below_step q9_0 hb);clear HO_238000 HO_242000 HO_246000 HO_251000 HO254 BK223 BK224 BK237 BK241 BK245 BK250 HB;have HO_238000 := n0_;have HO_242000 := n1_;have HO_246000 := n2_;have HO_251000 := n3_;have HO254 := n4_;have HO258 := n5_;have BK223 := n6_;have BK224 := n7_;have BK237 := n8_;have BK241 := n9_;have BK245 := n10_;have BK250 := n11_;have HB := n12_;clear n0_ n1_ n2_ n3_ n4_ n5_ n6_ n7_ n8_ n9_ n10_ n11_ n12_;(try clear hb);(try clear hb2);(try clear hk);(try clear hi);(try clear ho0); (try clear hF0);obtain ⟨Ao266, co266, eo266⟩ := XS_slice HO258.out;(first | subst eo266 | (injection eo266 with f1_ f2_ f3_; have f4_ := f1_.symm; have f5_ := f3_.symm; clear f1_ f2_ f3_; subst f4_; subst f5_));refine hK.out _ _ ⟨(blk_cell BK245.out 0).trans rfl, (blk_cell BK224.out 0).trans rfl⟩ (fun hHeld => ?_);clear hK K;refine norm_ (a' := ?_) ?_ ?_;rotate_left
                · show Act.put _ (some 61) _ = _
                  simp only [Act.put, z9a, z9b, z9c, i64_w, i32_w]
                  rfl
                refine one_ (i := 3) (N := some 62) #[true, true, true, true, false] rfl rfl (by kernel_rfl) (by decide) (fun K hK => ?_);refine goes_ Try.func28 (by kernel_rfl) rfl #[.agg #[.slice Ao56 t242.length co56], .agg #[.slice Ao266 t256.length co266]] (by rfl) rfl rfl q9_5 ?_
                with_reducible refine (laws_eqRough.calls kj24 _ _ t242 _ _ t256 false _ ?side1 ?side2 ?side3 ?side4 A103.out).mono ?_
                (case side1 => exact q9_110);(case side2 => exact (XS_reads HO_246000.out).2.1);(case side3 => exact q9_112);(case side4 => exact (XS_reads HO258.out).2.1);rintro e w267 ⟨rfl, hb⟩;refine ⟨_, rfl, ?_⟩;have n0_ := z9k (XS_below q9_11 hb);have n1_ := z9k (XS_below q9_12 hb);have n2_ := z9k (XS_below q9_13 hb);have n3_ := z9k (XS_below q9_14 hb);have n4_ := z9k (XS_below q9_31 hb);have n5_ := z9k (XS_below q9_67 hb);have n6_ := z9k (blk_below (g := gb223) (o := .cells #[.slice A0_0 l0_0.length c0_0] 44 (0, 0)) q9_1 hb);have n7_ := z9k (blk_below (g := gb224) (o := .cells #[.slice A1_0 l1_0.length c1_0] 44 (0, 0)) q9_2 hb);have n8_ := z9k (blk_below (g := gb237) (o := .cells #[.slice Ao41 t233.length co41] 25 (0, 0)) q9_4 hb);have n9_ := z9k (blk_below (g := gb241) (o := .cells #[.slice Ao47 t238.length co47] 25 (0, 0)) q9_6 hb);have n10_ := z9k (blk_below (g := gb245) (o := .cells #[.slice Ao56 t242.length co56] 25 (0, 0)) q9_7 hb);have n11_ := z9k (blk_below (g := gb250) (o := .cells #[.slice Ao65 t246.length co65] 25 (0, 0)) q9_8 hb);have n12_ := z9k (below_step q9_0 hb);clear HO_238000 HO_242000 HO_246000 HO_251000 HO254 HO258 BK223 BK224 BK237 BK241 BK245 BK250 HB;have HO_238000 := n0_;have HO_242000 := n1_;have HO_246000 := n2_;have HO_251000 := n3_;have HO254 := n4_;have HO258 := n5_;have BK223 := n6_;have BK224 := n7_;have BK237 := n8_;have BK241 := n9_;have BK245 := n10_;have BK250 := n11_;have HB := n12_;clear n0_ n1_ n2_ n3_ n4_ n5_ n6_ n7_ n8_ n9_ n10_ n11_ n12_;(try clear hb);(try clear hb2);(try clear hk);(try clear hi);refine hK.out _ _ ⟨(blk_cell BK245.out 0).trans rfl, (blk_cell BK224.out 0).trans rfl⟩ (fun hHeld => ?_);clear hK K;refine norm_ (a' := ?_) ?_ ?_;rotate_left
                · show Act.put _ (some 62) _ = _
                  simp only [Act.put, z9a, z9b, z9c, i64_w, i32_w]
                  rfl
                refine pure_ (i := 4) (N := some 63) (v := ?_) (a' := ?_) #[true, true, true, true, true] rfl rfl (by kernel_rfl) (fun _ _ _ h => h) (Or.inl ⟨by rfl, ?_⟩) ?_ ?_;rotate_left
                · intro w'
                  go_simp
                  with_reducible rfl
                rotate_left
                · simp only [Act.put, z9a, z9b, z9c, i64_w, i32_w]
                  rfl
                refine done_ (by kernel_rfl) ?_
                try go_wp2
                go_ret
                exact ⟨q9_30, q9_0⟩
            · replace c101 := Bool.eq_false_iff.mpr c101
              subst c101
              have H1 : (some false) = some r := by rw [if_neg (show ¬ (false = true) by decide)] at H; exact H
              clear H;have H := H1;clear H1
              obtain rfl := Option.some.inj H
              try go_wp2
              have n0_ := z9k (XS_drew HO_238000.out);have n1_ := z9k (XS_drew HO_242000.out);have n2_ := z9k (XS_drew HO_246000.out);have n3_ := z9k (XS_drew HO_251000.out);have n4_ := z9k (blk_drew BK223.out);have n5_ := z9k (blk_drew BK224.out);have n6_ := z9k (blk_drew BK237.out);have n7_ := z9k (blk_drew BK241.out);have n8_ := z9k (blk_drew BK245.out);have n9_ := z9k (blk_drew BK250.out);have n10_ := z9k (below_drew1 HB.out);clear HO_238000 HO_242000 HO_246000 HO_251000 BK223 BK224 BK237 BK241 BK245 BK250 HB;have HO_238000 := n0_;have HO_242000 := n1_;have HO_246000 := n2_;have HO_251000 := n3_;have BK223 := n4_;have BK224 := n5_;have BK237 := n6_;have BK241 := n7_;have BK245 := n8_;have BK250 := n9_;have HB := n10_;clear n0_ n1_ n2_ n3_ n4_ n5_ n6_ n7_ n8_ n9_ n10_;refine start_ (n := 5) (S := fun w' => w'.cell? ⟨gb241, 0, none⟩ = some (.slice Ao47 t238.length co47) ∧ w'.cell? ⟨gb223, 0, none⟩ = some (.slice A0_0 l0_0.length c0_0)) (ds := []) #[false, false, false, false, false] (by kernel_rfl) rfl rfl ⟨(blk_cell BK241.out 0).trans rfl, (blk_cell BK223.out 0).trans rfl⟩ (fun hHeld => ?_)
              generalize wc.drew = w268 at HO_238000 HO_242000 HO_246000 HO_251000 BK223 BK224 BK237 BK241 BK245 BK250 HB hHeld ⊢
              refine take_ (i := 0) (N := some 54) (v := ?_) (a' := ?_) #[true, false, false, false, false] rfl rfl (by kernel_rfl) (fun _ _ _ h => h) (Or.inl ⟨by rfl, ?_⟩) hHeld ?_ ?_;rotate_left
              · rintro w' ⟨s0, s1⟩
                go_simp
                with_reducible rfl
              rotate_left
              · simp only [Act.put, z9a, z9b, z9c, i64_w, i32_w]
                rfl
              refine take_ (i := 1) (N := some 55) (v := ?_) (a' := ?_) #[true, true, false, false, false] rfl rfl (by kernel_rfl) (fun _ _ _ h => h) (Or.inl ⟨by rfl, ?_⟩) hHeld ?_ ?_;rotate_left
              · rintro w' ⟨s0, s1⟩
                go_simp
                with_reducible rfl
              rotate_left
              · simp only [Act.put, z9a, z9b, z9c, i64_w, i32_w]
                rfl
              refine one_ (i := 2) (N := some 56) #[true, true, true, false, false] rfl rfl (by kernel_rfl) (by decide) (fun K hK => ?_);refine goes_ Try.func27 (by kernel_rfl) rfl #[.agg #[.slice A0_0 l0_0.length c0_0]] (by rfl) rfl rfl q9_5 ?_
              with_reducible refine (laws_toRough.calls kj24 _ _ l0_0 t252 _ ?side1 ?side2 A99.out).mono ?_
              (case side1 => exact q9_16);(case side2 => exact HC0_0.out);rintro e w269 ⟨v253, rfl, ho0, hb⟩; obtain ⟨F253, hF0, ho0⟩ := XS_intro ho0;refine ⟨_, rfl, ?_⟩;have n0_ := z9k (XS_elder q9_11 hF0 hb);have n1_ := z9k (XS_elder q9_12 hF0 hb);have n2_ := z9k (XS_elder q9_13 hF0 hb);have n3_ := z9k (XS_elder q9_14 hF0 hb);have n4_ := z9k (XS_lower (XS_new (XS_new (XS_new (XS_new ho0 (XS_lt q9_11)) (XS_lt q9_12)) (XS_lt q9_13)) (XS_lt q9_14)) (below_size q9_0));have n5_ := z9k (blk_below (g := gb223) (o := .cells #[.slice A0_0 l0_0.length c0_0] 44 (0, 0)) q9_1 hb);have n6_ := z9k (blk_below (g := gb224) (o := .cells #[.slice A1_0 l1_0.length c1_0] 44 (0, 0)) q9_2 hb);have n7_ := z9k (blk_below (g := gb237) (o := .cells #[.slice Ao41 t233.length co41] 25 (0, 0)) q9_4 hb);have n8_ := z9k (blk_below (g := gb241) (o := .cells #[.slice Ao47 t238.length co47] 25 (0, 0)) q9_6 hb);have n9_ := z9k (blk_below (g := gb245) (o := .cells #[.slice Ao56 t242.length co56] 25 (0, 0)) q9_7 hb);have n10_ := z9k (blk_below (g := gb250) (o := .cells #[.slice Ao65 t246.length co65] 25 (0, 0)) q9_8 hb);have n11_ := z9k (below_step q9_0 hb);clear HO_238000 HO_242000 HO_246000 HO_251000 BK223 BK224 BK237 BK241 BK245 BK250 HB;have HO_238000 := n0_;have HO_242000 := n1_;have HO_246000 := n2_;have HO_251000 := n3_;have HO254 := n4_;have BK223 := n5_;have BK224 := n6_;have BK237 := n7_;have BK241 := n8_;have BK245 := n9_;have BK250 := n10_;have HB := n11_;clear n0_ n1_ n2_ n3_ n4_ n5_ n6_ n7_ n8_ n9_ n10_ n11_;(try clear hb);(try clear hb2);(try clear hk);(try clear hi);(try clear ho0); (try clear hF0);obtain ⟨Ao270, co270, eo270⟩ := XS_slice HO254.out;(first | subst eo270 | (injection eo270 with f1_ f2_ f3_; have f4_ := f1_.symm; have f5_ := f3_.symm; clear f1_ f2_ f3_; subst f4_; subst f5_));refine hK.out _ _ ⟨(blk_cell BK241.out 0).trans rfl, (blk_cell BK223.out 0).trans rfl⟩ (fun hHeld => ?_);clear hK K;refine norm_ (a' := ?_) ?_ ?_;rotate_left
              · show Act.put _ (some 56) _ = _
                simp only [Act.put, z9a, z9b, z9c, i64_w, i32_w]
                rfl
              refine one_ (i := 3) (N := some 57) #[true, true, true, true, false] rfl rfl (by kernel_rfl) (by decide) (fun K hK => ?_);refine goes_ Try.func28 (by kernel_rfl) rfl #[.agg #[.slice Ao47 t238.length co47], .agg #[.slice Ao270 t252.length co270]] (by rfl) rfl rfl q9_5 ?_
              with_reducible refine (laws_eqRough.calls kj24 _ _ t238 _ _ t252 false _ ?side1 ?side2 ?side3 ?side4 A100.out).mono ?_
              (case side1 => exact q9_58);(case side2 => exact (XS_reads HO_242000.out).2.1);(case side3 => exact q9_59);(case side4 => exact (XS_reads HO254.out).2.1);rintro e w271 ⟨rfl, hb⟩;refine ⟨_, rfl, ?_⟩;have n0_ := z9k (XS_below q9_11 hb);have n1_ := z9k (XS_below q9_12 hb);have n2_ := z9k (XS_below q9_13 hb);have n3_ := z9k (XS_below q9_14 hb);have n4_ := z9k (XS_below q9_31 hb);have n5_ := z9k (blk_below (g := gb223) (o := .cells #[.slice A0_0 l0_0.length c0_0] 44 (0, 0)) q9_1 hb);have n6_ := z9k (blk_below (g := gb224) (o := .cells #[.slice A1_0 l1_0.length c1_0] 44 (0, 0)) q9_2 hb);have n7_ := z9k (blk_below (g := gb237) (o := .cells #[.slice Ao41 t233.length co41] 25 (0, 0)) q9_4 hb);have n8_ := z9k (blk_below (g := gb241) (o := .cells #[.slice Ao47 t238.length co47] 25 (0, 0)) q9_6 hb);have n9_ := z9k (blk_below (g := gb245) (o := .cells #[.slice Ao56 t242.length co56] 25 (0, 0)) q9_7 hb);have n10_ := z9k (blk_below (g := gb250) (o := .cells #[.slice Ao65 t246.length co65] 25 (0, 0)) q9_8 hb);have n11_ := z9k (below_step q9_0 hb);clear HO_238000 HO_242000 HO_246000 HO_251000 HO254 BK223 BK224 BK237 BK241 BK245 BK250 HB;have HO_238000 := n0_;have HO_242000 := n1_;have HO_246000 := n2_;have HO_251000 := n3_;have HO254 := n4_;have BK223 := n5_;have BK224 := n6_;have BK237 := n7_;have BK241 := n8_;have BK245 := n9_;have BK250 := n10_;have HB := n11_;clear n0_ n1_ n2_ n3_ n4_ n5_ n6_ n7_ n8_ n9_ n10_ n11_;(try clear hb);(try clear hb2);(try clear hk);(try clear hi);refine hK.out _ _ ⟨(blk_cell BK241.out 0).trans rfl, (blk_cell BK223.out 0).trans rfl⟩ (fun hHeld => ?_);clear hK K;refine norm_ (a' := ?_) ?_ ?_;rotate_left
              · show Act.put _ (some 57) _ = _
                simp only [Act.put, z9a, z9b, z9c, i64_w, i32_w]
                rfl
              refine pure_ (i := 4) (N := some 58) (v := ?_) (a' := ?_) #[true, true, true, true, true] rfl rfl (by kernel_rfl) (fun _ _ _ h => h) (Or.inl ⟨by rfl, ?_⟩) ?_ ?_;rotate_left
              · intro w'
                go_simp
                with_reducible rfl
              rotate_left
              · simp only [Act.put, z9a, z9b, z9c, i64_w, i32_w]
                rfl
              refine done_ (by kernel_rfl) ?_
              try go_wp2
              go_ret
              exact ⟨q9_30, q9_0⟩

end Go.Proofs.Ytojhkhpgahhacaa.PA
