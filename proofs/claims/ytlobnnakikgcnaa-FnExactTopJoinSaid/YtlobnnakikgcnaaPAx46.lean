-- Made by a program of this session (wip/tools/pr2.sh) out of the translation, by way of the printer: shared by the seat's laws.
import Derived.Test.YtlobnnakikgcnaaPAx0
import Derived.Test.YtlobnnakikgcnaaPAx16
import Derived.Test.YtlobnnakikgcnaaPAx17
namespace Go.Proofs.Ytlobnnakikgcnaa.PA
open Go.RowKit Go.Proofs.YtlobnnakikgcnaaW.PrintWords Go.Proofs.YtlobnnakikgcnaaW.PrintLast Go.Proofs.YtlobnnakikgcnaaW.PrintMore
attribute [local go_sem] max2_int min2_int max_two min_two max_three min_three max_four min_four   -- for this text's walks alone
set_option linter.unusedVariables false
set_option linter.unusedSimpArgs false

/-! ### impl_TopGet: function 11 -/
mutual
def impl_TopGet.j0 : Nat → Int → Bool → List (S54) → Int → Int → Option (Int × Int)
  | 0, _, _, _, _, _ => none
  | k + 1, x1, x15, x303000, x303001, x303002 => if x15 = true then (some ((-1), (-1))) else (impl_TopGet.l0 k x1 x303000 (x303000.length : Int) 0 x303000 x303001 x303002)
def impl_TopGet.l0 : Nat → Int → List (S54) → Int → Int → List (S54) → Int → Int → Option (Int × Int)
  | 0, _, _, _, _, _, _, _ => none
  | k + 1, x1, x17, x18, x19, x303000, x303001, x303002 => if x19 < x18 then (if 0 ≤ x19 then (if x19 < (x17.length : Int) then (if ((rd_T54 x17 x19).f0) = x1 then (some ((rd_T54 x17 x19).f1, wrap64 (((rd_T54 x17 x19).f1) + x303001))) else (impl_TopGet.l0 k x1 x17 x18 (wrap64 (x19 + 1)) x303000 x303001 x303002)) else (none)) else (none)) else (some (0, x303001))
end
def impl_TopGet.f (k : Nat) (l0_0 : List (S54)) (a0_1 : Int) (a0_2 : Int) (a1 : Int) : Option (Int × Int) := (impl_TopOk.f k l0_0 a0_1 a0_2).bind fun t303 => (if t303 = true then ((impl_isThing.f a1).bind fun t304 => (impl_TopGet.j0 k a1 (!t304) l0_0 a0_1 a0_2)) else (impl_TopGet.j0 k a1 true l0_0 a0_1 a0_2))
theorem impl_TopGet.mono_l : ∀ k, (∀ y0 y1 y2 y3 y4, LeO (impl_TopGet.j0 k y0 y1 y2 y3 y4) (impl_TopGet.j0 (k + 1) y0 y1 y2 y3 y4)) ∧ (∀ y0 y1 y2 y3 y4 y5 y6, LeO (impl_TopGet.l0 k y0 y1 y2 y3 y4 y5 y6) (impl_TopGet.l0 (k + 1) y0 y1 y2 y3 y4 y5 y6))
  | 0 => ⟨fun _ _ _ _ _ r h => by simp [impl_TopGet.j0] at h, fun _ _ _ _ _ _ _ r h => by simp [impl_TopGet.l0] at h⟩
  | k + 1 => by
    obtain ⟨ih0, ih1⟩ := impl_TopGet.mono_l k
    refine ⟨?_, ?_⟩
    · intro y0 y1 y2 y3 y4
      unfold impl_TopGet.j0
      repeat' first
      | (with_reducible exact ih0 _ _ _ _ _)
      | (with_reducible exact ih1 _ _ _ _ _ _ _)
      | (with_reducible exact impl_TopOk.mono _ _ _ _)
      | (with_reducible exact LeO.refl _)
      | (with_reducible exact LeO.none _)
      | (with_reducible refine LeO.ite ?_ ?_)
      | (with_reducible refine LeO.bind ?_ (fun _ => ?_))
      | exact ih0 _ _ _ _ _
      | exact ih1 _ _ _ _ _ _ _
      | exact impl_TopOk.mono _ _ _ _
      | exact LeO.none _
      | refine LeO.ite ?_ ?_
      | refine LeO.bind ?_ (fun _ => ?_)
    · intro y0 y1 y2 y3 y4 y5 y6
      unfold impl_TopGet.l0
      repeat' first
      | (with_reducible exact ih0 _ _ _ _ _)
      | (with_reducible exact ih1 _ _ _ _ _ _ _)
      | (with_reducible exact impl_TopOk.mono _ _ _ _)
      | (with_reducible exact LeO.refl _)
      | (with_reducible exact LeO.none _)
      | (with_reducible refine LeO.ite ?_ ?_)
      | (with_reducible refine LeO.bind ?_ (fun _ => ?_))
      | exact ih0 _ _ _ _ _
      | exact ih1 _ _ _ _ _ _ _
      | exact impl_TopOk.mono _ _ _ _
      | exact LeO.none _
      | refine LeO.ite ?_ ?_
      | refine LeO.bind ?_ (fun _ => ?_)
theorem impl_TopGet.mono : ∀ a0 a1 a2 a3 k, LeO (impl_TopGet.f k a0 a1 a2 a3) (impl_TopGet.f (k + 1) a0 a1 a2 a3) := by
  intro a0 a1 a2 a3 k
  obtain ⟨ih0, ih1⟩ := impl_TopGet.mono_l k
  unfold impl_TopGet.f
  repeat' first
      | (with_reducible exact ih0 _ _ _ _ _)
      | (with_reducible exact ih1 _ _ _ _ _ _ _)
      | (with_reducible exact impl_TopOk.mono _ _ _ _)
      | (with_reducible exact LeO.refl _)
      | (with_reducible exact LeO.none _)
      | (with_reducible refine LeO.ite ?_ ?_)
      | (with_reducible refine LeO.bind ?_ (fun _ => ?_))
      | exact ih0 _ _ _ _ _
      | exact ih1 _ _ _ _ _ _ _
      | exact impl_TopOk.mono _ _ _ _
      | exact LeO.none _
      | refine LeO.ite ?_ ?_
      | refine LeO.bind ?_ (fun _ => ?_)
variable {p : Prop}
theorem q11_0 (h : p := by repeat (first | (with_reducible first | exact HB.out | apply below_alloc | apply pw_below_drewN | apply below_drew1 | refine below_set ?_ GE302.out) | exact HB.out)) : p := h
theorem q11_1 (h : p := by (with_reducible repeat (first | refine blk_drewN ?_ _ | refine blk_drew ?_ | refine blk_alloc ?_ _)); exact BK302.out) : p := h
theorem q11_2 (h : p := by repeat (first | (with_reducible first | exact HB.out | apply below_alloc | apply pw_below_drewN | apply below_drew1) | exact HB.out)) : p := h
theorem q11_3 (h : p := by repeat (first | exact (Kd.C_below HR0_0.out HB.out) | (with_reducible refine Kd.C_alloc ?_ _) | (with_reducible refine Kd.C_drewN ?_ _) | (with_reducible refine Kd.C_drew ?_))) : p := h
theorem q11_4 (h : p := by rw [hg]; exact Nat.ne_of_lt (blk_lt (g := gb302) (o := .cells #[.slice (some ad305) l0_0.length c0_0, .int .i64 a0_1, .int .i64 a0_2] 25 (0, 0)) q11_1)) : p := h
theorem q11_5 (h : p := by rw [hg]; exact Nat.ne_of_gt (blk_lt (g := gb302) (o := .cells #[.slice (some ad305) l0_0.length c0_0, .int .i64 a0_1, .int .i64 a0_2] 25 (0, 0)) q11_1)) : p := h
theorem q11_6 (h : p := by rw [hg]; exact (below_size q11_0)) : p := h
theorem q11_7 (h : p := by first | (go_simp; done) | (go_simp; rfl)) : p := h
theorem q11_8 (h : p := by repeat (first | (with_reducible first | exact HB.out | apply below_alloc | apply pw_below_drewN | apply below_drew1 | refine below_set ?_ GE302.out | refine below_set ?_ GE306.out) | exact HB.out)) : p := h
theorem q11_9 (h : p := by first | rfl | (simp [errW_none, errW_some] <;> rfl) | (simp [*, errW_none, errW_some] <;> rfl)) : p := h
theorem q11_10 (h : p := by rw [hg]; exact (below_size q11_2)) : p := h
theorem q11_11 (h : p := by first | (with_reducible assumption) | assumption) : p := h
theorem q11_12 (h : p := by first | rfl | (simp; done) | (simp [*]; done)) : p := h
set_option maxHeartbeats 8000000 in
set_option maxRecDepth 100000 in
theorem impl_TopGet.calls (k : Nat) (A0_0 : Option Addr) (c0_0 : Nat) (l0_0 : List (S54)) (a0_1 : Int) (a0_2 : Int) (a1 : Int) (r1 : Int) (r2 : Int) (w : World) (hr0_0 : Kd.C k54 w A0_0 l0_0.length l0_0) (hc0_0 : l0_0.length ≤ c0_0) (h : impl_TopGet.f k l0_0 a0_1 a0_2 a1 = some (r1, r2)) :
    Calls Try.prog 11 #[.agg #[.slice A0_0 l0_0.length c0_0, .int .i64 a0_1, .int .i64 a0_2], .int .i64 a1] w fun e w' => e = .returned (.tuple #[.int .i64 r1, .int .i64 r2]) ∧ Below w.heap.size w w' := by
 have hu25 := Try.underlying25;have hu54 := Try.underlying54;have HR0_0 := Aside0.mk hr0_0;have HC0_0 := Aside0.mk hc0_0;clear hr0_0 hc0_0;have HB := Aside0.mk (Below.refl w.heap.size w)
 have H : ((impl_TopOk.f k l0_0 a0_1 a0_2).bind fun t303 => (if t303 = true then ((impl_isThing.f a1).bind fun t304 => (impl_TopGet.j0 k a1 (!t304) l0_0 a0_1 a0_2)) else (impl_TopGet.j0 k a1 true l0_0 a0_1 a0_2))) = some (r1, r2) := h
 clear h;have HC3 := Aside0.mk H;clear H
 go_enter Try.func11, Try.ntmps11
 go_upto_region 1 with (first | ((with_reducible refine gate_dst (N := 2) rfl ?_); refine box_event ?hg (N := 2) ?hd (cs := #[.slice A0_0 l0_0.length c0_0, .int .i64 a0_1, .int .i64 a0_2]) (t := 25) ?hr ?_; (case hd => rfl); (case hg => rfl); (case hr => exact q11_7); intro gb302 hg w4 hbox hb; have n0_ := Aside0.mk (below_step q11_2 hb); have n1_ := Aside0.mk (hbox); have n2_ := Aside0.mk ((q11_10 : w.heap.size ≤ gb302)); have n3_ := Aside0.mk ((q11_10 : w.heap.size ≤ gb302)); clear HB; have HB := n0_; have BK302 := n1_; have GW302 := n2_; have GE302 := n3_; clear n0_ n1_ n2_ n3_; clear hb hbox hg))
 repeat (go_quiet (first | ((with_reducible refine gate_dst (N := 2) rfl ?_); refine box_event ?hg (N := 2) ?hd (cs := #[.slice A0_0 l0_0.length c0_0, .int .i64 a0_1, .int .i64 a0_2]) (t := 25) ?hr ?_; (case hd => rfl); (case hg => rfl); (case hr => exact q11_7); intro gb302 hg w4 hbox hb; have n0_ := Aside0.mk (below_step q11_2 hb); have n1_ := Aside0.mk (hbox); have n2_ := Aside0.mk ((q11_10 : w.heap.size ≤ gb302)); have n3_ := Aside0.mk ((q11_10 : w.heap.size ≤ gb302)); clear HB; have HB := n0_; have BK302 := n1_; have GW302 := n2_; have GE302 := n3_; clear n0_ n1_ n2_ n3_; clear hb hbox hg)); go_upto_region 1 with (first | ((with_reducible refine gate_dst (N := 2) rfl ?_); refine box_event ?hg (N := 2) ?hd (cs := #[.slice A0_0 l0_0.length c0_0, .int .i64 a0_1, .int .i64 a0_2]) (t := 25) ?hr ?_; (case hd => rfl); (case hg => rfl); (case hr => exact q11_7); intro gb302 hg w4 hbox hb; have n0_ := Aside0.mk (below_step q11_2 hb); have n1_ := Aside0.mk (hbox); have n2_ := Aside0.mk ((q11_10 : w.heap.size ≤ gb302)); have n3_ := Aside0.mk ((q11_10 : w.heap.size ≤ gb302)); clear HB; have HB := n0_; have BK302 := n1_; have GW302 := n2_; have GE302 := n3_; clear n0_ n1_ n2_ n3_; clear hb hbox hg)))
 (try simp only [Act.put, List.setIfInBounds_toArray, List.set_cons_zero, List.set_cons_succ])
 go_cut [15] (fun v15 wc => ∃ (kq : Nat) (x15_2 : Bool), v15 = .bool x15_2 ∧ Aside0 (impl_TopGet.j0 kq a1 x15_2 l0_0 a0_1 a0_2 = some (r1, r2)) ∧ Aside0 (kq ≤ k) ∧ Aside0 (wc.heap[gb302]? = some (.cells #[(.slice A0_0 l0_0.length c0_0), .int .i64 a0_1, .int .i64 a0_2] 25 (0, 0))) ∧ Aside0 (Below w.heap.size w wc))
 case first =>
  have H := HC3.out;clear HC3
  replace H := Option.bind_eq_some_iff.mp H
  obtain ⟨t303, A50, H⟩ := H
  replace H : (if t303 = true then ((impl_isThing.f a1).bind fun t304 => (impl_TopGet.j0 k a1 (!t304) l0_0 a0_1 a0_2)) else (impl_TopGet.j0 k a1 true l0_0 a0_1 a0_2)) = some (r1, r2) := H
  have A5 := Aside0.mk A50;clear A50
  by_cases c6 : t303 = true
  ·
   subst c6
   have H1 : ((impl_isThing.f a1).bind fun t304 => (impl_TopGet.j0 k a1 (!t304) l0_0 a0_1 a0_2)) = some (r1, r2) := by rw [if_pos rfl] at H; exact H
   clear H;have H := H1;clear H1
   replace H := Option.bind_eq_some_iff.mp H
   obtain ⟨t304, A70, H⟩ := H
   replace H : (impl_TopGet.j0 k a1 (!t304) l0_0 a0_1 a0_2) = some (r1, r2) := H
   have A7 := Aside0.mk A70;clear A70
   have H' := Aside0.mk H
   clear H
   have hcz8_0 : w4.cell? ⟨gb302, 0, none⟩ = some (.slice A0_0 l0_0.length c0_0) := (blk_cell BK302.out 0).trans rfl
   have hcz8_1 : w4.cell? ⟨gb302, 1, none⟩ = some (.int .i64 a0_1) := (blk_cell BK302.out 1).trans rfl
   have hcz8_2 : w4.cell? ⟨gb302, 2, none⟩ = some (.int .i64 a0_2) := (blk_cell BK302.out 2).trans rfl
   have hfz8_0 := blk_frozen BK302.out 0;have hfz8_1 := blk_frozen BK302.out 1;have hfz8_2 := blk_frozen BK302.out 2
   go_wp2_with (first | (go_at_call 12; (with_reducible refine (impl_TopOk.calls k _ _ l0_0 a0_1 a0_2 true _ ?side1 ?side2 A5.out).mono ?_); (case side1 => exact q11_3); (case side2 => exact HC0_0.out); rintro e w9 ⟨rfl, hb⟩; have n0_ := Aside0.mk (blk_below (g := gb302) (o := .cells #[.slice A0_0 l0_0.length c0_0, .int .i64 a0_1, .int .i64 a0_2] 25 (0, 0)) q11_1 hb); have n1_ := Aside0.mk (below_step q11_0 hb); clear BK302; clear HB; have BK302 := n0_; have HB := n1_; clear n0_ n1_; (try clear hb); (try clear hb2); (try clear hk); (try clear hi)) | (go_at_call 28; (with_reducible refine (impl_isThing.calls a1 t304 _ A7.out).mono ?_); rintro e w' ⟨rfl, ⟨nd, rfl⟩⟩; (try first | exact ⟨rfl, _, World.drewN_drewN _ _ _⟩ | exact ⟨rfl, _, Eq.trans (World.drewN_drewN _ _ _) (congrArg (World.drewN _) (Nat.add_assoc _ _ _))⟩)))
   repeat (go_quiet (first | (go_at_call 12; (with_reducible refine (impl_TopOk.calls k _ _ l0_0 a0_1 a0_2 true _ ?side1 ?side2 A5.out).mono ?_); (case side1 => exact q11_3); (case side2 => exact HC0_0.out); rintro e w9 ⟨rfl, hb⟩; have n0_ := Aside0.mk (blk_below (g := gb302) (o := .cells #[.slice A0_0 l0_0.length c0_0, .int .i64 a0_1, .int .i64 a0_2] 25 (0, 0)) q11_1 hb); have n1_ := Aside0.mk (below_step q11_0 hb); clear BK302; clear HB; have BK302 := n0_; have HB := n1_; clear n0_ n1_; (try clear hb); (try clear hb2); (try clear hk); (try clear hi)) | (go_at_call 28; (with_reducible refine (impl_isThing.calls a1 t304 _ A7.out).mono ?_); rintro e w' ⟨rfl, ⟨nd, rfl⟩⟩; (try first | exact ⟨rfl, _, World.drewN_drewN _ _ _⟩ | exact ⟨rfl, _, Eq.trans (World.drewN_drewN _ _ _) (congrArg (World.drewN _) (Nat.add_assoc _ _ _))⟩))); try go_wp2_with (first | (go_at_call 12; (with_reducible refine (impl_TopOk.calls k _ _ l0_0 a0_1 a0_2 true _ ?side1 ?side2 A5.out).mono ?_); (case side1 => exact q11_3); (case side2 => exact HC0_0.out); rintro e w9 ⟨rfl, hb⟩; have n0_ := Aside0.mk (blk_below (g := gb302) (o := .cells #[.slice A0_0 l0_0.length c0_0, .int .i64 a0_1, .int .i64 a0_2] 25 (0, 0)) q11_1 hb); have n1_ := Aside0.mk (below_step q11_0 hb); clear BK302; clear HB; have BK302 := n0_; have HB := n1_; clear n0_ n1_; (try clear hb); (try clear hb2); (try clear hk); (try clear hi)) | (go_at_call 28; (with_reducible refine (impl_isThing.calls a1 t304 _ A7.out).mono ?_); rintro e w' ⟨rfl, ⟨nd, rfl⟩⟩; (try first | exact ⟨rfl, _, World.drewN_drewN _ _ _⟩ | exact ⟨rfl, _, Eq.trans (World.drewN_drewN _ _ _) (congrArg (World.drewN _) (Nat.add_assoc _ _ _))⟩))))
   go_meet
   case rel => exact ⟨_, (!t304), q11_12, H', ⟨by first | omega | exact Nat.le_refl _⟩, ⟨by (with_reducible repeat (first | refine blk_drewN ?_ _ | refine blk_drew ?_ | refine blk_alloc ?_ _)); exact BK302.out⟩, ⟨q11_0⟩⟩
  ·
   replace c6 := Bool.eq_false_iff.mpr c6
   subst c6
   have H1 : (impl_TopGet.j0 k a1 true l0_0 a0_1 a0_2) = some (r1, r2) := by rw [if_neg (show ¬ (false = true) by decide)] at H; exact H
   clear H;have H := H1;clear H1
   have H' := Aside0.mk H
   clear H
   have hcz10_0 : w4.cell? ⟨gb302, 0, none⟩ = some (.slice A0_0 l0_0.length c0_0) := (blk_cell BK302.out 0).trans rfl
   have hcz10_1 : w4.cell? ⟨gb302, 1, none⟩ = some (.int .i64 a0_1) := (blk_cell BK302.out 1).trans rfl
   have hcz10_2 : w4.cell? ⟨gb302, 2, none⟩ = some (.int .i64 a0_2) := (blk_cell BK302.out 2).trans rfl
   have hfz10_0 := blk_frozen BK302.out 0;have hfz10_1 := blk_frozen BK302.out 1;have hfz10_2 := blk_frozen BK302.out 2
   go_wp2_with (first | (go_at_call 12; (with_reducible refine (impl_TopOk.calls k _ _ l0_0 a0_1 a0_2 false _ ?side1 ?side2 A5.out).mono ?_); (case side1 => exact q11_3); (case side2 => exact HC0_0.out); rintro e w11 ⟨rfl, hb⟩; have n0_ := Aside0.mk (blk_below (g := gb302) (o := .cells #[.slice A0_0 l0_0.length c0_0, .int .i64 a0_1, .int .i64 a0_2] 25 (0, 0)) q11_1 hb); have n1_ := Aside0.mk (below_step q11_0 hb); clear BK302; clear HB; have BK302 := n0_; have HB := n1_; clear n0_ n1_; (try clear hb); (try clear hb2); (try clear hk); (try clear hi)))
   repeat (go_quiet (first | (go_at_call 12; (with_reducible refine (impl_TopOk.calls k _ _ l0_0 a0_1 a0_2 false _ ?side1 ?side2 A5.out).mono ?_); (case side1 => exact q11_3); (case side2 => exact HC0_0.out); rintro e w11 ⟨rfl, hb⟩; have n0_ := Aside0.mk (blk_below (g := gb302) (o := .cells #[.slice A0_0 l0_0.length c0_0, .int .i64 a0_1, .int .i64 a0_2] 25 (0, 0)) q11_1 hb); have n1_ := Aside0.mk (below_step q11_0 hb); clear BK302; clear HB; have BK302 := n0_; have HB := n1_; clear n0_ n1_; (try clear hb); (try clear hb2); (try clear hk); (try clear hi))); try go_wp2_with (first | (go_at_call 12; (with_reducible refine (impl_TopOk.calls k _ _ l0_0 a0_1 a0_2 false _ ?side1 ?side2 A5.out).mono ?_); (case side1 => exact q11_3); (case side2 => exact HC0_0.out); rintro e w11 ⟨rfl, hb⟩; have n0_ := Aside0.mk (blk_below (g := gb302) (o := .cells #[.slice A0_0 l0_0.length c0_0, .int .i64 a0_1, .int .i64 a0_2] 25 (0, 0)) q11_1 hb); have n1_ := Aside0.mk (below_step q11_0 hb); clear BK302; clear HB; have BK302 := n0_; have HB := n1_; clear n0_ n1_; (try clear hb); (try clear hb2); (try clear hk); (try clear hi))))
   go_meet
   case rel => exact ⟨_, (true), q11_12, H', ⟨by first | omega | exact Nat.le_refl _⟩, ⟨by (with_reducible repeat (first | refine blk_drewN ?_ _ | refine blk_drew ?_ | refine blk_alloc ?_ _)); exact BK302.out⟩, ⟨q11_0⟩⟩
 case rest =>
  clear HC3
  try clear c1
  try clear p2
  try clear c6
  try clear c11
  try clear hcz10_0
  try clear hcz10_1
  try clear hcz10_2
  try clear hcz8_0
  try clear hcz8_1
  try clear hcz8_2
  try clear hfz10_0
  try clear hfz10_1
  try clear hfz10_2
  try clear hfz8_0
  try clear hfz8_1
  try clear hfz8_2
  obtain ⟨kq, x15_2, rfl, HA, HJ2, BK302, HB⟩ := hcut
  cases kq with
  | zero => exact absurd HA.out (by simp [impl_TopGet.j0])
  | succ kj2 =>
   have H := HA.out;clear HA
   simp only [impl_TopGet.j0] at H
   by_cases c12 : x15_2 = true
   ·
    subst c12
    have H1 : (some ((-1), (-1))) = some (r1, r2) := by rw [if_pos rfl] at H; exact H
    clear H;have H := H1;clear H1
    simp only [Option.some.injEq, Prod.mk.injEq] at H
    obtain ⟨rfl, rfl⟩ := H
    go_wp2
    repeat (go_quiet (fail); try go_wp2)
    go_ret2
    exact ⟨q11_9, q11_0⟩
   ·
    replace c12 := Bool.eq_false_iff.mpr c12
    subst c12
    have H1 : (impl_TopGet.l0 kj2 a1 l0_0 (l0_0.length : Int) 0 l0_0 a0_1 a0_2) = some (r1, r2) := by rw [if_neg (show ¬ (false = true) by decide)] at H; exact H
    clear H;have H := H1;clear H1
    have H' := Aside0.mk H
    clear H
    have hcz13_0 : wc.cell? ⟨gb302, 0, none⟩ = some (.slice A0_0 l0_0.length c0_0) := (blk_cell BK302.out 0).trans rfl
    have hcz13_1 : wc.cell? ⟨gb302, 1, none⟩ = some (.int .i64 a0_1) := (blk_cell BK302.out 1).trans rfl
    have hcz13_2 : wc.cell? ⟨gb302, 2, none⟩ = some (.int .i64 a0_2) := (blk_cell BK302.out 2).trans rfl
    have hfz13_0 := blk_frozen BK302.out 0;have hfz13_1 := blk_frozen BK302.out 1;have hfz13_2 := blk_frozen BK302.out 2
    go_wp2
    repeat (go_quiet (fail); try go_wp2)
    go_loopg [19] kj2 (fun kq v19 w' => ∃ (x19_2 : Int), v19 = .int .i64 x19_2 ∧ Aside0 (impl_TopGet.l0 kq a1 l0_0 (l0_0.length : Int) x19_2 l0_0 a0_1 a0_2 = some (r1, r2)) ∧ Aside0 (kq ≤ kj2) ∧ Aside0 (w'.heap[gb302]? = some (.cells #[(.slice A0_0 l0_0.length c0_0), .int .i64 a0_1, .int .i64 a0_2] 25 (0, 0))) ∧ Aside0 (Below w.heap.size w w'))
    case atStart => exact ⟨(0), q11_12, H', ⟨Nat.le_refl _⟩, ⟨by (with_reducible repeat (first | refine blk_drewN ?_ _ | refine blk_drew ?_ | refine blk_alloc ?_ _)); exact BK302.out⟩, ⟨q11_0⟩⟩
    case round =>
     clear H'
     try clear c1
     try clear p2
     try clear c6
     try clear c11
     try clear c12
     try clear hcz10_0
     try clear hcz10_1
     try clear hcz10_2
     try clear hcz13_0
     try clear hcz13_1
     try clear hcz13_2
     try clear hcz8_0
     try clear hcz8_1
     try clear hcz8_2
     try clear hfz10_0
     try clear hfz10_1
     try clear hfz10_2
     try clear hfz13_0
     try clear hfz13_1
     try clear hfz13_2
     try clear hfz8_0
     try clear hfz8_1
     try clear hfz8_2
     try clear p2
     obtain ⟨x19_2, rfl, HA, HK2, BK302, HB⟩ := hrel
     cases gk with
     | zero => exact absurd HA.out (by simp [impl_TopGet.l0])
     | succ k2 =>
      have H := HA.out;clear HA
      simp only [impl_TopGet.l0] at H
      by_cases c14 : x19_2 < (l0_0.length : Int)
      ·
       rw [if_pos c14] at H
       have c14b0 : decide (x19_2 < (l0_0.length : Int)) = true := decide_eq_true c14
       clear c14
       by_cases c15 : 0 ≤ x19_2
       ·
        rw [if_pos c15] at H
        have c15b0 : decide (0 ≤ x19_2) = true := decide_eq_true c15
        clear c15
        by_cases c16 : x19_2 < (l0_0.length : Int)
        ·
         rw [if_pos c16] at H
         have c16b0 : decide (x19_2 < (l0_0.length : Int)) = true := decide_eq_true c16
         clear c16
         by_cases c17 : ((rd_T54 l0_0 x19_2).f0) = a1
         ·
          rw [if_pos c17] at H
          have c17b0 : (((rd_T54 l0_0 x19_2).f0) == a1) = true := beq_iff_eq.mpr c17
          have c17b1 : (((rd_T54 l0_0 x19_2).f0) != a1) = false := bne_eq_false_iff_eq.mpr c17
          clear c17
          simp only [Option.some.injEq, Prod.mk.injEq] at H
          obtain ⟨rfl, rfl⟩ := H
          have p305 : 0 ≤ (x19_2 : Int) := of_decide_eq_true q11_11
          have q305 : x19_2 < (l0_0.length : Int) := of_decide_eq_true q11_11
          obtain ⟨ad305, e305, hx305_0, hx305_1⟩ := at_T54 HR0_0.out x19_2 p305 q305
          cases e305
          replace hx305_0 := (HB.out.cell (World.block_lt_of_cell? w _ hx305_0)).trans hx305_0
          replace hx305_1 := (HB.out.cell (World.block_lt_of_cell? w _ hx305_1)).trans hx305_1
          replace p305 := eq_true p305
          replace q305 := eq_true q305
          go_wp2_with (first | ((with_reducible refine gate_dst (N := 7) rfl ?_); refine box_event ?hg (N := 7) ?hd (cs := #[.int .i64 0, .int .i64 0]) (t := 54) ?hr ?_; (case hd => rfl); (case hg => rfl); (case hr => exact q11_7); intro gb306 hg w18 hbox hb; have n0_ := Aside0.mk (blk_below (g := gb302) (o := .cells #[.slice (some ad305) l0_0.length c0_0, .int .i64 a0_1, .int .i64 a0_2] 25 (0, 0)) q11_1 hb); have n1_ := Aside0.mk (below_step q11_0 hb); have n2_ := Aside0.mk (hbox); have n3_ := Aside0.mk ((q11_6 : w.heap.size ≤ gb306)); have n4_ := Aside0.mk ((q11_6 : w.heap.size ≤ gb306)); have n5_ := Aside0.mk ((q11_4 : gb302 ≠ gb306)); have n6_ := Aside0.mk ((q11_5 : gb306 ≠ gb302)); clear BK302; clear HB; have BK302 := n0_; have HB := n1_; have BK306 := n2_; have GW306 := n3_; have GE306 := n4_; have NB302_306 := n5_; have NB306_302 := n6_; clear n0_ n1_ n2_ n3_ n4_ n5_ n6_; clear hb hbox hg; have hnb19 := NB306_302.out; have hnc19 := NB302_306.out; have hcz20_0 : w18.cell? ⟨gb306, 0, none⟩ = some (.int .i64 0) := (blk_cell BK306.out 0).trans rfl; have hcz20_1 : w18.cell? ⟨gb306, 1, none⟩ = some (.int .i64 0) := (blk_cell BK306.out 1).trans rfl; have hfz20_0 := blk_frozen BK306.out 0; have hfz20_1 := blk_frozen BK306.out 1; have hcz21_0 : w18.cell? ⟨gb302, 0, none⟩ = some (.slice (some ad305) l0_0.length c0_0) := (blk_cell BK302.out 0).trans rfl; have hcz21_1 : w18.cell? ⟨gb302, 1, none⟩ = some (.int .i64 a0_1) := (blk_cell BK302.out 1).trans rfl; have hcz21_2 : w18.cell? ⟨gb302, 2, none⟩ = some (.int .i64 a0_2) := (blk_cell BK302.out 2).trans rfl; have hfz21_0 := blk_frozen BK302.out 0; have hfz21_1 := blk_frozen BK302.out 1; have hfz21_2 := blk_frozen BK302.out 2))
          repeat (go_quiet (first | ((with_reducible refine gate_dst (N := 7) rfl ?_); refine box_event ?hg (N := 7) ?hd (cs := #[.int .i64 0, .int .i64 0]) (t := 54) ?hr ?_; (case hd => rfl); (case hg => rfl); (case hr => exact q11_7); intro gb306 hg w18 hbox hb; have n0_ := Aside0.mk (blk_below (g := gb302) (o := .cells #[.slice (some ad305) l0_0.length c0_0, .int .i64 a0_1, .int .i64 a0_2] 25 (0, 0)) q11_1 hb); have n1_ := Aside0.mk (below_step q11_0 hb); have n2_ := Aside0.mk (hbox); have n3_ := Aside0.mk ((q11_6 : w.heap.size ≤ gb306)); have n4_ := Aside0.mk ((q11_6 : w.heap.size ≤ gb306)); have n5_ := Aside0.mk ((q11_4 : gb302 ≠ gb306)); have n6_ := Aside0.mk ((q11_5 : gb306 ≠ gb302)); clear BK302; clear HB; have BK302 := n0_; have HB := n1_; have BK306 := n2_; have GW306 := n3_; have GE306 := n4_; have NB302_306 := n5_; have NB306_302 := n6_; clear n0_ n1_ n2_ n3_ n4_ n5_ n6_; clear hb hbox hg; have hnb19 := NB306_302.out; have hnc19 := NB302_306.out; have hcz20_0 : w18.cell? ⟨gb306, 0, none⟩ = some (.int .i64 0) := (blk_cell BK306.out 0).trans rfl; have hcz20_1 : w18.cell? ⟨gb306, 1, none⟩ = some (.int .i64 0) := (blk_cell BK306.out 1).trans rfl; have hfz20_0 := blk_frozen BK306.out 0; have hfz20_1 := blk_frozen BK306.out 1; have hcz21_0 : w18.cell? ⟨gb302, 0, none⟩ = some (.slice (some ad305) l0_0.length c0_0) := (blk_cell BK302.out 0).trans rfl; have hcz21_1 : w18.cell? ⟨gb302, 1, none⟩ = some (.int .i64 a0_1) := (blk_cell BK302.out 1).trans rfl; have hcz21_2 : w18.cell? ⟨gb302, 2, none⟩ = some (.int .i64 a0_2) := (blk_cell BK302.out 2).trans rfl; have hfz21_0 := blk_frozen BK302.out 0; have hfz21_1 := blk_frozen BK302.out 1; have hfz21_2 := blk_frozen BK302.out 2)); try go_wp2_with (first | ((with_reducible refine gate_dst (N := 7) rfl ?_); refine box_event ?hg (N := 7) ?hd (cs := #[.int .i64 0, .int .i64 0]) (t := 54) ?hr ?_; (case hd => rfl); (case hg => rfl); (case hr => exact q11_7); intro gb306 hg w18 hbox hb; have n0_ := Aside0.mk (blk_below (g := gb302) (o := .cells #[.slice (some ad305) l0_0.length c0_0, .int .i64 a0_1, .int .i64 a0_2] 25 (0, 0)) q11_1 hb); have n1_ := Aside0.mk (below_step q11_0 hb); have n2_ := Aside0.mk (hbox); have n3_ := Aside0.mk ((q11_6 : w.heap.size ≤ gb306)); have n4_ := Aside0.mk ((q11_6 : w.heap.size ≤ gb306)); have n5_ := Aside0.mk ((q11_4 : gb302 ≠ gb306)); have n6_ := Aside0.mk ((q11_5 : gb306 ≠ gb302)); clear BK302; clear HB; have BK302 := n0_; have HB := n1_; have BK306 := n2_; have GW306 := n3_; have GE306 := n4_; have NB302_306 := n5_; have NB306_302 := n6_; clear n0_ n1_ n2_ n3_ n4_ n5_ n6_; clear hb hbox hg; have hnb19 := NB306_302.out; have hnc19 := NB302_306.out; have hcz20_0 : w18.cell? ⟨gb306, 0, none⟩ = some (.int .i64 0) := (blk_cell BK306.out 0).trans rfl; have hcz20_1 : w18.cell? ⟨gb306, 1, none⟩ = some (.int .i64 0) := (blk_cell BK306.out 1).trans rfl; have hfz20_0 := blk_frozen BK306.out 0; have hfz20_1 := blk_frozen BK306.out 1; have hcz21_0 : w18.cell? ⟨gb302, 0, none⟩ = some (.slice (some ad305) l0_0.length c0_0) := (blk_cell BK302.out 0).trans rfl; have hcz21_1 : w18.cell? ⟨gb302, 1, none⟩ = some (.int .i64 a0_1) := (blk_cell BK302.out 1).trans rfl; have hcz21_2 : w18.cell? ⟨gb302, 2, none⟩ = some (.int .i64 a0_2) := (blk_cell BK302.out 2).trans rfl; have hfz21_0 := blk_frozen BK302.out 0; have hfz21_1 := blk_frozen BK302.out 1; have hfz21_2 := blk_frozen BK302.out 2)))
          go_ret2
          exact ⟨q11_9, q11_8⟩
         ·
          rw [if_neg c17] at H
          have c17b0 : (((rd_T54 l0_0 x19_2).f0) == a1) = false := beq_eq_false_iff_ne.mpr c17
          have c17b1 : (((rd_T54 l0_0 x19_2).f0) != a1) = true := bne_iff_ne.mpr c17
          have H' := Aside0.mk H
          clear H
          have p305 : 0 ≤ (x19_2 : Int) := of_decide_eq_true q11_11
          have q305 : x19_2 < (l0_0.length : Int) := of_decide_eq_true q11_11
          obtain ⟨ad305, e305, hx305_0, hx305_1⟩ := at_T54 HR0_0.out x19_2 p305 q305
          cases e305
          replace hx305_0 := (HB.out.cell (World.block_lt_of_cell? w _ hx305_0)).trans hx305_0
          replace hx305_1 := (HB.out.cell (World.block_lt_of_cell? w _ hx305_1)).trans hx305_1
          replace p305 := eq_true p305
          replace q305 := eq_true q305
          go_wp2_with (first | ((with_reducible refine gate_dst (N := 7) rfl ?_); refine box_event ?hg (N := 7) ?hd (cs := #[.int .i64 0, .int .i64 0]) (t := 54) ?hr ?_; (case hd => rfl); (case hg => rfl); (case hr => exact q11_7); intro gb306 hg w22 hbox hb; have n0_ := Aside0.mk (blk_below (g := gb302) (o := .cells #[.slice (some ad305) l0_0.length c0_0, .int .i64 a0_1, .int .i64 a0_2] 25 (0, 0)) q11_1 hb); have n1_ := Aside0.mk (below_step q11_0 hb); have n2_ := Aside0.mk (hbox); have n3_ := Aside0.mk ((q11_6 : w.heap.size ≤ gb306)); have n4_ := Aside0.mk ((q11_6 : w.heap.size ≤ gb306)); have n5_ := Aside0.mk ((q11_4 : gb302 ≠ gb306)); have n6_ := Aside0.mk ((q11_5 : gb306 ≠ gb302)); clear BK302; clear HB; have BK302 := n0_; have HB := n1_; have BK306 := n2_; have GW306 := n3_; have GE306 := n4_; have NB302_306 := n5_; have NB306_302 := n6_; clear n0_ n1_ n2_ n3_ n4_ n5_ n6_; clear hb hbox hg; have hnb23 := NB306_302.out; have hnc23 := NB302_306.out; have hcz24_0 : w22.cell? ⟨gb306, 0, none⟩ = some (.int .i64 0) := (blk_cell BK306.out 0).trans rfl; have hcz24_1 : w22.cell? ⟨gb306, 1, none⟩ = some (.int .i64 0) := (blk_cell BK306.out 1).trans rfl; have hfz24_0 := blk_frozen BK306.out 0; have hfz24_1 := blk_frozen BK306.out 1))
          repeat (go_quiet (first | ((with_reducible refine gate_dst (N := 7) rfl ?_); refine box_event ?hg (N := 7) ?hd (cs := #[.int .i64 0, .int .i64 0]) (t := 54) ?hr ?_; (case hd => rfl); (case hg => rfl); (case hr => exact q11_7); intro gb306 hg w22 hbox hb; have n0_ := Aside0.mk (blk_below (g := gb302) (o := .cells #[.slice (some ad305) l0_0.length c0_0, .int .i64 a0_1, .int .i64 a0_2] 25 (0, 0)) q11_1 hb); have n1_ := Aside0.mk (below_step q11_0 hb); have n2_ := Aside0.mk (hbox); have n3_ := Aside0.mk ((q11_6 : w.heap.size ≤ gb306)); have n4_ := Aside0.mk ((q11_6 : w.heap.size ≤ gb306)); have n5_ := Aside0.mk ((q11_4 : gb302 ≠ gb306)); have n6_ := Aside0.mk ((q11_5 : gb306 ≠ gb302)); clear BK302; clear HB; have BK302 := n0_; have HB := n1_; have BK306 := n2_; have GW306 := n3_; have GE306 := n4_; have NB302_306 := n5_; have NB306_302 := n6_; clear n0_ n1_ n2_ n3_ n4_ n5_ n6_; clear hb hbox hg; have hnb23 := NB306_302.out; have hnc23 := NB302_306.out; have hcz24_0 : w22.cell? ⟨gb306, 0, none⟩ = some (.int .i64 0) := (blk_cell BK306.out 0).trans rfl; have hcz24_1 : w22.cell? ⟨gb306, 1, none⟩ = some (.int .i64 0) := (blk_cell BK306.out 1).trans rfl; have hfz24_0 := blk_frozen BK306.out 0; have hfz24_1 := blk_frozen BK306.out 1)); try go_wp2_with (first | ((with_reducible refine gate_dst (N := 7) rfl ?_); refine box_event ?hg (N := 7) ?hd (cs := #[.int .i64 0, .int .i64 0]) (t := 54) ?hr ?_; (case hd => rfl); (case hg => rfl); (case hr => exact q11_7); intro gb306 hg w22 hbox hb; have n0_ := Aside0.mk (blk_below (g := gb302) (o := .cells #[.slice (some ad305) l0_0.length c0_0, .int .i64 a0_1, .int .i64 a0_2] 25 (0, 0)) q11_1 hb); have n1_ := Aside0.mk (below_step q11_0 hb); have n2_ := Aside0.mk (hbox); have n3_ := Aside0.mk ((q11_6 : w.heap.size ≤ gb306)); have n4_ := Aside0.mk ((q11_6 : w.heap.size ≤ gb306)); have n5_ := Aside0.mk ((q11_4 : gb302 ≠ gb306)); have n6_ := Aside0.mk ((q11_5 : gb306 ≠ gb302)); clear BK302; clear HB; have BK302 := n0_; have HB := n1_; have BK306 := n2_; have GW306 := n3_; have GE306 := n4_; have NB302_306 := n5_; have NB306_302 := n6_; clear n0_ n1_ n2_ n3_ n4_ n5_ n6_; clear hb hbox hg; have hnb23 := NB306_302.out; have hnc23 := NB302_306.out; have hcz24_0 : w22.cell? ⟨gb306, 0, none⟩ = some (.int .i64 0) := (blk_cell BK306.out 0).trans rfl; have hcz24_1 : w22.cell? ⟨gb306, 1, none⟩ = some (.int .i64 0) := (blk_cell BK306.out 1).trans rfl; have hfz24_0 := blk_frozen BK306.out 0; have hfz24_1 := blk_frozen BK306.out 1)))
          go_roundg k2
          case measure => have := HJ2.out; have := HK2.out; omega
          case rel => exact ⟨(wrap64 (x19_2 + 1)), q11_12, H', ⟨by have := HJ2.out; have := HK2.out; omega⟩, ⟨by (with_reducible repeat (first | refine blk_drewN ?_ _ | refine blk_drew ?_ | refine blk_alloc ?_ _)); refine blk_far ?_ NB302_306.out _; (with_reducible repeat (first | refine blk_drewN ?_ _ | refine blk_drew ?_ | refine blk_alloc ?_ _)); refine blk_far ?_ NB302_306.out _; (with_reducible repeat (first | refine blk_drewN ?_ _ | refine blk_drew ?_ | refine blk_alloc ?_ _)); exact BK302.out⟩, ⟨q11_8⟩⟩
        ·
         rw [if_neg c16] at H
         exact absurd H (by simp)
       ·
        rw [if_neg c15] at H
        exact absurd H (by simp)
      ·
       rw [if_neg c14] at H
       have c14b0 : decide (x19_2 < (l0_0.length : Int)) = false := decide_eq_false c14
       clear c14
       simp only [Option.some.injEq, Prod.mk.injEq] at H
       obtain ⟨rfl, rfl⟩ := H
       have hcz25_0 : wr.cell? ⟨gb302, 0, none⟩ = some (.slice A0_0 l0_0.length c0_0) := (blk_cell BK302.out 0).trans rfl
       have hcz25_1 : wr.cell? ⟨gb302, 1, none⟩ = some (.int .i64 a0_1) := (blk_cell BK302.out 1).trans rfl
       have hcz25_2 : wr.cell? ⟨gb302, 2, none⟩ = some (.int .i64 a0_2) := (blk_cell BK302.out 2).trans rfl
       have hfz25_0 := blk_frozen BK302.out 0;have hfz25_1 := blk_frozen BK302.out 1;have hfz25_2 := blk_frozen BK302.out 2
       go_wp2
       repeat (go_quiet (fail); try go_wp2)
       go_ret2
       exact ⟨q11_9, q11_0⟩

end Go.Proofs.Ytlobnnakikgcnaa.PA
