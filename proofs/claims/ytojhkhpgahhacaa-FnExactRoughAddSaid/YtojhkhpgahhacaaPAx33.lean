-- Made by a program of this session (wip/tools/pr2.sh) out of the translation, by way of the printer: shared by the seat's laws.
import Derived.Test.YtojhkhpgahhacaaPAx0
import Derived.Test.YtojhkhpgahhacaaPAx14
import Derived.Test.YtojhkhpgahhacaaPAx15
import Derived.Test.YtojhkhpgahhacaaPAx20
import Derived.Test.YtojhkhpgahhacaaPAx25
import Derived.Test.YtojhkhpgahhacaaPAx29
import Derived.Test.YtojhkhpgahhacaaPAx30
namespace Go.Proofs.Ytojhkhpgahhacaa.PA
open Go.RowKit Go.Proofs.YtojhkhpgahhacaaW.PrintWords Go.Proofs.YtojhkhpgahhacaaW.PrintLast Go.Proofs.YtojhkhpgahhacaaW.PrintMore
attribute [local go_sem] max2_int min2_int max_two min_two max_three min_three max_four min_four   -- for this text's walks alone
set_option linter.unusedVariables false
set_option linter.unusedSimpArgs false

/-! ### impl_RoughAdd: function 22 -/
mutual
def impl_RoughAdd.j0 : Nat → Int → Int → Bool → List (List Int) → Option ((List (List Int)) × Bool)
  | 0, _, _, _, _ => none
  | k + 1, x1, x2, x28, x421000 => if x28 = true then (some (([] : List (List Int)), false)) else ((impl_RoughNew.f k).bind fun t425 => ((impl_roughSum.f k x421000 t425).bind fun t428 => (impl_RoughAdd.l0 k x1 x2 (t428.length : Int) 0 t428)))
def impl_RoughAdd.l0 : Nat → Int → Int → Int → Int → List (List Int) → Option ((List (List Int)) × Bool)
  | 0, _, _, _, _, _ => none
  | k + 1, x1, x2, x35, x36, x432000 => if x36 < x35 then (if 0 ≤ x36 then (if x36 < (x432000.length : Int) then ((impl_RoughPlace.f x36 x1).bind fun t433 => (if 0 ≤ t433 then (if t433 < ((rd_L2 x432000 x36).length : Int) then (impl_RoughAdd.l0 k x1 x2 x35 (wrap64 (x36 + 1)) (x432000.set (x36 : Int).toNat ((rd_L2 x432000 x36).set (t433 : Int).toNat (wrap64 ((rd (rd_L2 x432000 x36) t433) + x2))))) else (none)) else (none))) else (none)) else (none)) else (some (x432000, true))
end
def impl_RoughAdd.f (k : Nat) (l0_0 : List (List Int)) (a1 : Int) (a2 : Int) : Option ((List (List Int)) × Bool) := (impl_RoughOk.f k l0_0).bind fun t422 => (if t422 = true then ((impl_isThing.f a1).bind fun t423 => (if t423 = true then (if a2 < 0 then (impl_RoughAdd.j0 k a1 a2 true l0_0) else ((impl_RoughAll.f k l0_0).bind fun t424 => (impl_RoughAdd.j0 k a1 a2 (decide (a2 > (wrap64 (2000 - t424)))) l0_0))) else (impl_RoughAdd.j0 k a1 a2 true l0_0))) else (impl_RoughAdd.j0 k a1 a2 true l0_0))
theorem impl_RoughAdd.mono_l : ∀ k, (∀ y0 y1 y2 y3, LeO (impl_RoughAdd.j0 k y0 y1 y2 y3) (impl_RoughAdd.j0 (k + 1) y0 y1 y2 y3)) ∧ (∀ y0 y1 y2 y3 y4, LeO (impl_RoughAdd.l0 k y0 y1 y2 y3 y4) (impl_RoughAdd.l0 (k + 1) y0 y1 y2 y3 y4))
  | 0 => ⟨fun _ _ _ _ r h => by simp [impl_RoughAdd.j0] at h, fun _ _ _ _ _ r h => by simp [impl_RoughAdd.l0] at h⟩
  | k + 1 => by
    obtain ⟨ih0, ih1⟩ := impl_RoughAdd.mono_l k
    refine ⟨?_, ?_⟩
    · intro y0 y1 y2 y3
      unfold impl_RoughAdd.j0
      repeat' first
      | (with_reducible exact ih0 _ _ _ _)
      | (with_reducible exact ih1 _ _ _ _ _)
      | (with_reducible exact impl_RoughAll.mono _ _)
      | (with_reducible exact impl_RoughNew.mono _)
      | (with_reducible exact impl_RoughOk.mono _ _)
      | (with_reducible exact impl_roughSum.mono _ _ _)
      | (with_reducible exact LeO.refl _)
      | (with_reducible exact LeO.none _)
      | (with_reducible refine LeO.ite ?_ ?_)
      | (with_reducible refine LeO.bind ?_ (fun _ => ?_))
      | exact ih0 _ _ _ _
      | exact ih1 _ _ _ _ _
      | exact impl_RoughAll.mono _ _
      | exact impl_RoughNew.mono _
      | exact impl_RoughOk.mono _ _
      | exact impl_roughSum.mono _ _ _
      | exact LeO.none _
      | refine LeO.ite ?_ ?_
      | refine LeO.bind ?_ (fun _ => ?_)
    · intro y0 y1 y2 y3 y4
      unfold impl_RoughAdd.l0
      repeat' first
      | (with_reducible exact ih0 _ _ _ _)
      | (with_reducible exact ih1 _ _ _ _ _)
      | (with_reducible exact impl_RoughAll.mono _ _)
      | (with_reducible exact impl_RoughNew.mono _)
      | (with_reducible exact impl_RoughOk.mono _ _)
      | (with_reducible exact impl_roughSum.mono _ _ _)
      | (with_reducible exact LeO.refl _)
      | (with_reducible exact LeO.none _)
      | (with_reducible refine LeO.ite ?_ ?_)
      | (with_reducible refine LeO.bind ?_ (fun _ => ?_))
      | exact ih0 _ _ _ _
      | exact ih1 _ _ _ _ _
      | exact impl_RoughAll.mono _ _
      | exact impl_RoughNew.mono _
      | exact impl_RoughOk.mono _ _
      | exact impl_roughSum.mono _ _ _
      | exact LeO.none _
      | refine LeO.ite ?_ ?_
      | refine LeO.bind ?_ (fun _ => ?_)
theorem impl_RoughAdd.mono : ∀ a0 a1 a2 k, LeO (impl_RoughAdd.f k a0 a1 a2) (impl_RoughAdd.f (k + 1) a0 a1 a2) := by
  intro a0 a1 a2 k
  obtain ⟨ih0, ih1⟩ := impl_RoughAdd.mono_l k
  unfold impl_RoughAdd.f
  repeat' first
      | (with_reducible exact ih0 _ _ _ _)
      | (with_reducible exact ih1 _ _ _ _ _)
      | (with_reducible exact impl_RoughAll.mono _ _)
      | (with_reducible exact impl_RoughNew.mono _)
      | (with_reducible exact impl_RoughOk.mono _ _)
      | (with_reducible exact impl_roughSum.mono _ _ _)
      | (with_reducible exact LeO.refl _)
      | (with_reducible exact LeO.none _)
      | (with_reducible refine LeO.ite ?_ ?_)
      | (with_reducible refine LeO.bind ?_ (fun _ => ?_))
      | exact ih0 _ _ _ _
      | exact ih1 _ _ _ _ _
      | exact impl_RoughAll.mono _ _
      | exact impl_RoughNew.mono _
      | exact impl_RoughOk.mono _ _
      | exact impl_roughSum.mono _ _ _
      | exact LeO.none _
      | refine LeO.ite ?_ ?_
      | refine LeO.bind ?_ (fun _ => ?_)
def impl_RoughAdd.T7 : Bool × List (List Nat × List Nat) := (true, [([], []), ([0], [0]), ([], []), ([1, 2], [1, 2]), ([3], [3]), ([], []), ([], []), ([5, 6], [5, 6]), ([4, 7], [4, 7]), ([8], [8]), ([], []), ([9, 10], [9, 10]), ([4, 7, 0, 1, 2, 3, 4, 5, 6, 7, 8, 9, 10, 11], [4, 7]), ([12, 11, 7, 0, 1, 2, 3, 4, 5, 6, 7, 8, 9, 10, 11], [11, 12])])
def impl_RoughAdd.B7 : List Nat := [0, 1, 0, 7, 15, 0, 0, 96, 255, 511, 0, 2047, 4095, 8191]
theorem impl_RoughAdd.tab7 : rtab .any (opsOf Try.f22 7) = impl_RoughAdd.T7 := by kernel_rfl
theorem impl_RoughAdd.bits7 : waitsOk impl_RoughAdd.T7.2 impl_RoughAdd.B7 = true := by kernel_rfl
theorem q22_0 {p : Prop} (h : p := by repeat (first | (with_reducible first | exact HB.out | apply below_alloc | apply pw_below_drewN | apply below_drew1 | refine below_set ?_ GE420.out | refine below_set ?_ GE421.out) | exact HB.out)) : p := h
theorem q22_1 {p : Prop} (h : p := by (with_reducible repeat (first | refine blk_drewN ?_ _ | refine blk_drew ?_ | refine blk_alloc ?_ _)); exact BK420.out) : p := h
theorem q22_2 {p : Prop} (h : p := by (with_reducible repeat (first | refine blk_drewN ?_ _ | refine blk_drew ?_ | refine blk_alloc ?_ _)); exact BK421.out) : p := h
theorem q22_3 {p : Prop} (h : p := by repeat (first | (with_reducible first | exact HB.out | apply below_alloc | apply pw_below_drewN | apply below_drew1 | refine below_set ?_ GE420.out | refine below_set ?_ GE421.out | refine below_set ?_ GE431.out) | exact HB.out)) : p := h
theorem q22_4 {p : Prop} (h : p := by (try simp only [List.map_toArray, List.map_cons, List.map_nil]); first | done | rfl | (simp only [List.length_drop, List.length_take]; rfl)) : p := h
theorem q22_5 {p : Prop} (h : p := by repeat (first | exact (Kd.C_below HR0_0.out HB.out) | (with_reducible refine Kd.C_alloc ?_ _) | (with_reducible refine Kd.C_drewN ?_ _) | (with_reducible refine Kd.C_drew ?_))) : p := h
theorem q22_6 {p : Prop} (h : p := by (with_reducible repeat (first | apply Kd.S_alloc | apply Kd.S_drewN | apply Kd.S_drew)); exact HO427.out) : p := h
theorem q22_7 {p : Prop} (h : p := by (with_reducible repeat (first | refine blk_drewN ?_ _ | refine blk_drew ?_ | refine blk_alloc ?_ _)); exact BK431.out) : p := h
theorem q22_8 {p : Prop} (h : p := by first | (with_reducible assumption) | assumption) : p := h
theorem q22_9 {p : Prop} (h : p := by repeat (first | exact (Kd.S_reads' HO427.out).2.2 | (with_reducible refine Kd.C_alloc ?_ _) | (with_reducible refine Kd.C_drewN ?_ _) | (with_reducible refine Kd.C_drew ?_))) : p := h
theorem q22_10 {p : Prop} (h : p := by repeat (first | (with_reducible first | exact HB.out | apply below_alloc | apply pw_below_drewN | apply below_drew1 | refine below_set ?_ GE420.out) | exact HB.out)) : p := h
theorem q22_11 {p : Prop} (h : p := by rw [hg]; exact Nat.ne_of_lt (blk_lt (g := gb420) (o := .cells #[.slice A0_0 l0_0.length c0_0] 25 (0, 0)) q22_1)) : p := h
theorem q22_12 {p : Prop} (h : p := by rw [hg]; exact Nat.ne_of_gt (blk_lt (g := gb420) (o := .cells #[.slice A0_0 l0_0.length c0_0] 25 (0, 0)) q22_1)) : p := h
theorem q22_13 {p : Prop} (h : p := by (with_reducible repeat (first | refine blk_drewN ?_ _ | refine blk_drew ?_ | refine blk_alloc ?_ _)); refine blk_put (cs := #[.slice none 0 0]) ?_ 0 _ rfl; (with_reducible repeat (first | refine blk_drewN ?_ _ | refine blk_drew ?_ | refine blk_alloc ?_ _)); exact BK421.out) : p := h
theorem q22_14 {p : Prop} (h : p := by (with_reducible repeat (first | apply Kd.S_alloc | apply Kd.S_drewN | apply Kd.S_drew)); exact Kd.S_mono HO427.out (fun _ hk => hk.2)) : p := h
theorem q22_15 {p : Prop} (h : p := by (with_reducible repeat (first | apply Kd.S_alloc | apply Kd.S_drewN | apply Kd.S_drew)); exact Kd.S_mono HO430.out (fun _ hk => hk.2)) : p := h
theorem q22_16 {p : Prop} (h : p := by repeat (first | (with_reducible first | exact HB.out | apply below_alloc | apply pw_below_drewN | apply below_drew1) | exact HB.out)) : p := h
theorem q22_17 {p : Prop} (h : p := by first | rfl | (simp; done) | (simp [*]; done)) : p := h
theorem q22_18 {p : Prop} (h : p := by rw [hg]; exact Nat.ne_of_lt (blk_lt (g := gb421) (o := .cells #[.slice none 0 0] 25 (0, 0)) q22_2)) : p := h
theorem q22_19 {p : Prop} (h : p := by rw [hg]; exact Nat.ne_of_gt (blk_lt (g := gb421) (o := .cells #[.slice none 0 0] 25 (0, 0)) q22_2)) : p := h
theorem q22_20 {p : Prop} (h : p := by simp only [putAll, Act.put, List.setIfInBounds_toArray, List.set_cons_zero, List.set_cons_succ]) : p := h
theorem q22_21 {p : Prop} (h : p := by first | (go_simp; done) | (go_simp; rfl)) : p := h
theorem q22_22 {p : Prop} (h : p := by rw [hg]; exact (below_size q22_0)) : p := h
set_option maxHeartbeats 8000000 in
set_option maxRecDepth 100000 in
theorem impl_RoughAdd.calls (k : Nat) (A0_0 : Option Addr) (c0_0 : Nat) (l0_0 : List (List Int)) (a1 : Int) (a2 : Int) (r1 : List (List Int)) (r2 : Bool) (w : World) (hr0_0 : Kd.C (Kd.slice 3 (Kd.int .i64)) w A0_0 l0_0.length l0_0) (hc0_0 : l0_0.length ≤ c0_0) (h : impl_RoughAdd.f k l0_0 a1 a2 = some (r1, r2)) :
    Calls Try.prog 22 #[.agg #[.slice A0_0 l0_0.length c0_0], .int .i64 a1, .int .i64 a2] w fun e w' => ∃ v0_ : Value, e = .returned (.tuple #[.agg #[v0_], .bool r2]) ∧ Kd.S (Kd.slice 3 (Kd.int .i64)) 43 w' w.heap.size (fun _ => True) v0_ r1 ∧ Below w.heap.size w w' := by
  have hu25 := Try.underlying25
  have HR0_0 := Aside0.mk hr0_0
  have HC0_0 := Aside0.mk hc0_0
  clear hr0_0 hc0_0
  have HB := Aside0.mk (Below.refl w.heap.size w)
  have H : ((impl_RoughOk.f k l0_0).bind fun t422 => (if t422 = true then ((impl_isThing.f a1).bind fun t423 => (if t423 = true then (if a2 < 0 then (impl_RoughAdd.j0 k a1 a2 true l0_0) else ((impl_RoughAll.f k l0_0).bind fun t424 => (impl_RoughAdd.j0 k a1 a2 (decide (a2 > (wrap64 (2000 - t424)))) l0_0))) else (impl_RoughAdd.j0 k a1 a2 true l0_0))) else (impl_RoughAdd.j0 k a1 a2 true l0_0))) = some (r1, r2) := h
  clear h
  have HC4 := Aside0.mk H
  clear H
  go_enter Try.func22, Try.ntmps22
  go_upto_region 1 with (first | ((with_reducible refine gate_dst (N := 3) rfl ?_); refine box_event ?hg (N := 3) ?hd (cs := #[.slice A0_0 l0_0.length c0_0]) (t := 25) ?hr ?_; (case hd => rfl); (case hg => rfl); (case hr => exact q22_21); intro gb420 hg w5 hbox hb; have n0_ := Aside0.mk (below_step q22_16 hb); have n1_ := Aside0.mk (hbox); have n2_ := Aside0.mk ((by rw [hg]; exact (below_size q22_16) : w.heap.size ≤ gb420)); have n3_ := Aside0.mk ((by rw [hg]; exact (below_size q22_16) : w.heap.size ≤ gb420)); clear HB; have HB := n0_; have BK420 := n1_; have GW420 := n2_; have GE420 := n3_; clear n0_ n1_ n2_ n3_; clear hb hbox hg) | ((with_reducible refine gate_dst (N := 6) rfl ?_); refine box_event ?hg (N := 6) ?hd (cs := #[.slice none 0 0]) (t := 25) ?hr ?_; (case hd => rfl); (case hg => rfl); (case hr => exact q22_21); intro gb421 hg w6 hbox hb; have n0_ := Aside0.mk (blk_below (g := gb420) (o := .cells #[.slice A0_0 l0_0.length c0_0] 25 (0, 0)) q22_1 hb); have n1_ := Aside0.mk (below_step q22_10 hb); have n2_ := Aside0.mk (hbox); have n3_ := Aside0.mk ((by rw [hg]; exact (below_size q22_10) : w.heap.size ≤ gb421)); have n4_ := Aside0.mk ((by rw [hg]; exact (below_size q22_10) : w.heap.size ≤ gb421)); have n5_ := Aside0.mk ((q22_11 : gb420 ≠ gb421)); have n6_ := Aside0.mk ((q22_12 : gb421 ≠ gb420)); clear BK420; clear HB; have BK420 := n0_; have HB := n1_; have BK421 := n2_; have GW421 := n3_; have GE421 := n4_; have NB420_421 := n5_; have NB421_420 := n6_; clear n0_ n1_ n2_ n3_ n4_ n5_ n6_; clear hb hbox hg))
  (try simp only [Act.put, List.setIfInBounds_toArray, List.set_cons_zero, List.set_cons_succ])
  go_cut [28] (fun v28 wc => ∃ (kq : Nat) (x28_3 : Bool), v28 = .bool x28_3 ∧ Aside0 (impl_RoughAdd.j0 kq a1 a2 x28_3 l0_0 = some (r1, r2)) ∧ Aside0 (kq ≤ k) ∧ Aside0 (wc.heap[gb420]? = some (.cells #[(.slice A0_0 l0_0.length c0_0)] 25 (0, 0))) ∧ Aside0 (wc.heap[gb421]? = some (.cells #[(.slice none 0 0)] 25 (0, 0))) ∧ Aside0 (Below w.heap.size w wc))
  case first =>
    have H := HC4.out
    clear HC4
    replace H := Option.bind_eq_some_iff.mp H
    obtain ⟨t422, A70, H⟩ := H
    replace H : (if t422 = true then ((impl_isThing.f a1).bind fun t423 => (if t423 = true then (if a2 < 0 then (impl_RoughAdd.j0 k a1 a2 true l0_0) else ((impl_RoughAll.f k l0_0).bind fun t424 => (impl_RoughAdd.j0 k a1 a2 (decide (a2 > (wrap64 (2000 - t424)))) l0_0))) else (impl_RoughAdd.j0 k a1 a2 true l0_0))) else (impl_RoughAdd.j0 k a1 a2 true l0_0)) = some (r1, r2) := H
    have A7 := Aside0.mk A70
    clear A70
    by_cases c8 : t422 = true
    · subst c8
      have H1 : ((impl_isThing.f a1).bind fun t423 => (if t423 = true then (if a2 < 0 then (impl_RoughAdd.j0 k a1 a2 true l0_0) else ((impl_RoughAll.f k l0_0).bind fun t424 => (impl_RoughAdd.j0 k a1 a2 (decide (a2 > (wrap64 (2000 - t424)))) l0_0))) else (impl_RoughAdd.j0 k a1 a2 true l0_0))) = some (r1, r2) := by rw [if_pos rfl] at H; exact H
      clear H
      have H := H1
      clear H1
      replace H := Option.bind_eq_some_iff.mp H
      obtain ⟨t423, A90, H⟩ := H
      replace H : (if t423 = true then (if a2 < 0 then (impl_RoughAdd.j0 k a1 a2 true l0_0) else ((impl_RoughAll.f k l0_0).bind fun t424 => (impl_RoughAdd.j0 k a1 a2 (decide (a2 > (wrap64 (2000 - t424)))) l0_0))) else (impl_RoughAdd.j0 k a1 a2 true l0_0)) = some (r1, r2) := H
      have A9 := Aside0.mk A90
      clear A90
      by_cases c10 : t423 = true
      · subst c10
        have H1 : (if a2 < 0 then (impl_RoughAdd.j0 k a1 a2 true l0_0) else ((impl_RoughAll.f k l0_0).bind fun t424 => (impl_RoughAdd.j0 k a1 a2 (decide (a2 > (wrap64 (2000 - t424)))) l0_0))) = some (r1, r2) := by rw [if_pos rfl] at H; exact H
        clear H
        have H := H1
        clear H1
        by_cases c11 : a2 < 0
        · rw [if_pos c11] at H
          have c11b0 : decide (a2 < 0) = true := decide_eq_true c11
          clear c11
          (first | rw [c11b0] | (simp only [i64_w, i32_w]; rw [c11b0]) | skip)
          have H' := Aside0.mk H
          clear H
          have hnb12 := NB420_421.out
          have hnc12 := NB421_420.out
          have hcz13_0 : w6.cell? ⟨gb420, 0, none⟩ = some (.slice A0_0 l0_0.length c0_0) := (blk_cell BK420.out 0).trans rfl
          have hfz13_0 := blk_frozen BK420.out 0
          go_wp2_with (first | ((with_reducible refine gate_callee (f := 17) rfl ?_); refine goesL_ (some 11) rfl rfl Try.func17 (by kernel_rfl) rfl #[.agg #[.slice A0_0 l0_0.length c0_0]] rfl q22_4 ?_; (with_reducible refine (impl_RoughOk.calls k _ _ l0_0 true _ ?side1 ?side2 A7.out).mono ?_); (case side1 => exact q22_5); (case side2 => exact HC0_0.out); rintro e w14 ⟨rfl, hb⟩; refine ⟨_, rfl, ?_⟩; have n0_ := Aside0.mk (blk_below (g := gb420) (o := .cells #[.slice A0_0 l0_0.length c0_0] 25 (0, 0)) q22_1 hb); have n1_ := Aside0.mk (blk_below (g := gb421) (o := .cells #[.slice none 0 0] 25 (0, 0)) q22_2 hb); have n2_ := Aside0.mk (below_step q22_0 hb); clear BK420; clear BK421; clear HB; have BK420 := n0_; have BK421 := n1_; have HB := n2_; clear n0_ n1_ n2_; (try clear hb); (try clear hb2); (try clear hk); (try clear hi)) | (go_at_call 40; (with_reducible refine (impl_isThing.calls a1 true _ A9.out).mono ?_); rintro e w' ⟨rfl, ⟨nd, rfl⟩⟩))
          go_meet
          case rel => exact ⟨_, (true), q22_17, H', ⟨by first | omega | exact Nat.le_refl _⟩, ⟨by (with_reducible repeat (first | refine blk_drewN ?_ _ | refine blk_drew ?_ | refine blk_alloc ?_ _)); exact BK420.out⟩, ⟨by (with_reducible repeat (first | refine blk_drewN ?_ _ | refine blk_drew ?_ | refine blk_alloc ?_ _)); exact BK421.out⟩, ⟨q22_0⟩⟩
        · rw [if_neg c11] at H
          have c11b0 : decide (a2 < 0) = false := decide_eq_false c11
          clear c11
          (first | rw [c11b0] | (simp only [i64_w, i32_w]; rw [c11b0]) | skip)
          replace H := Option.bind_eq_some_iff.mp H
          obtain ⟨t424, A150, H⟩ := H
          replace H : (impl_RoughAdd.j0 k a1 a2 (decide (a2 > (wrap64 (2000 - t424)))) l0_0) = some (r1, r2) := H
          have A15 := Aside0.mk A150
          clear A150
          have H' := Aside0.mk H
          clear H
          have hnb16 := NB420_421.out
          have hnc16 := NB421_420.out
          have hcz17_0 : w6.cell? ⟨gb420, 0, none⟩ = some (.slice A0_0 l0_0.length c0_0) := (blk_cell BK420.out 0).trans rfl
          have hfz17_0 := blk_frozen BK420.out 0
          go_wp2_with (first | ((with_reducible refine gate_callee (f := 17) rfl ?_); refine goesL_ (some 11) rfl rfl Try.func17 (by kernel_rfl) rfl #[.agg #[.slice A0_0 l0_0.length c0_0]] rfl q22_4 ?_; (with_reducible refine (impl_RoughOk.calls k _ _ l0_0 true _ ?side1 ?side2 A7.out).mono ?_); (case side1 => exact q22_5); (case side2 => exact HC0_0.out); rintro e w18 ⟨rfl, hb⟩; refine ⟨_, rfl, ?_⟩; have n0_ := Aside0.mk (blk_below (g := gb420) (o := .cells #[.slice A0_0 l0_0.length c0_0] 25 (0, 0)) q22_1 hb); have n1_ := Aside0.mk (blk_below (g := gb421) (o := .cells #[.slice none 0 0] 25 (0, 0)) q22_2 hb); have n2_ := Aside0.mk (below_step q22_0 hb); clear BK420; clear BK421; clear HB; have BK420 := n0_; have BK421 := n1_; have HB := n2_; clear n0_ n1_ n2_; (try clear hb); (try clear hb2); (try clear hk); (try clear hi)) | (go_at_call 40; (with_reducible refine (impl_isThing.calls a1 true _ A9.out).mono ?_); rintro e w' ⟨rfl, ⟨nd, rfl⟩⟩; have hcz19_0 : w18.cell? ⟨gb420, 0, none⟩ = some (.slice A0_0 l0_0.length c0_0) := (blk_cell BK420.out 0).trans rfl; have hfz19_0 := blk_frozen BK420.out 0) | (go_at_call 18; (with_reducible refine (impl_RoughAll.calls k _ _ l0_0 t424 _ ?side1 ?side2 A15.out).mono ?_); (case side1 => repeat (first | exact (Kd.C_below HR0_0.out q22_0) | (with_reducible refine Kd.C_alloc ?_ _) | (with_reducible refine Kd.C_drewN ?_ _) | (with_reducible refine Kd.C_drew ?_))); (case side2 => exact HC0_0.out); rintro e w20 ⟨rfl, hb⟩; have n0_ := Aside0.mk (blk_below (g := gb420) (o := .cells #[.slice A0_0 l0_0.length c0_0] 25 (0, 0)) q22_1 hb); have n1_ := Aside0.mk (blk_below (g := gb421) (o := .cells #[.slice none 0 0] 25 (0, 0)) q22_2 hb); have n2_ := Aside0.mk (below_step q22_0 hb); clear BK420; clear BK421; clear HB; have BK420 := n0_; have BK421 := n1_; have HB := n2_; clear n0_ n1_ n2_; (try clear hb); (try clear hb2); (try clear hk); (try clear hi)))
          go_meet
          case rel => exact ⟨_, (decide (a2 > (wrap64 (2000 - t424)))), q22_17, H', ⟨by first | omega | exact Nat.le_refl _⟩, ⟨by (with_reducible repeat (first | refine blk_drewN ?_ _ | refine blk_drew ?_ | refine blk_alloc ?_ _)); exact BK420.out⟩, ⟨by (with_reducible repeat (first | refine blk_drewN ?_ _ | refine blk_drew ?_ | refine blk_alloc ?_ _)); exact BK421.out⟩, ⟨q22_0⟩⟩
      · replace c10 := Bool.eq_false_iff.mpr c10
        subst c10
        have H1 : (impl_RoughAdd.j0 k a1 a2 true l0_0) = some (r1, r2) := by rw [if_neg (show ¬ (false = true) by decide)] at H; exact H
        clear H
        have H := H1
        clear H1
        have H' := Aside0.mk H
        clear H
        have hnb21 := NB420_421.out
        have hnc21 := NB421_420.out
        have hcz22_0 : w6.cell? ⟨gb420, 0, none⟩ = some (.slice A0_0 l0_0.length c0_0) := (blk_cell BK420.out 0).trans rfl
        have hfz22_0 := blk_frozen BK420.out 0
        go_wp2_with (first | ((with_reducible refine gate_callee (f := 17) rfl ?_); refine goesL_ (some 11) rfl rfl Try.func17 (by kernel_rfl) rfl #[.agg #[.slice A0_0 l0_0.length c0_0]] rfl q22_4 ?_; (with_reducible refine (impl_RoughOk.calls k _ _ l0_0 true _ ?side1 ?side2 A7.out).mono ?_); (case side1 => exact q22_5); (case side2 => exact HC0_0.out); rintro e w23 ⟨rfl, hb⟩; refine ⟨_, rfl, ?_⟩; have n0_ := Aside0.mk (blk_below (g := gb420) (o := .cells #[.slice A0_0 l0_0.length c0_0] 25 (0, 0)) q22_1 hb); have n1_ := Aside0.mk (blk_below (g := gb421) (o := .cells #[.slice none 0 0] 25 (0, 0)) q22_2 hb); have n2_ := Aside0.mk (below_step q22_0 hb); clear BK420; clear BK421; clear HB; have BK420 := n0_; have BK421 := n1_; have HB := n2_; clear n0_ n1_ n2_; (try clear hb); (try clear hb2); (try clear hk); (try clear hi)) | (go_at_call 40; (with_reducible refine (impl_isThing.calls a1 false _ A9.out).mono ?_); rintro e w' ⟨rfl, ⟨nd, rfl⟩⟩))
        go_meet
        case rel => exact ⟨_, (true), q22_17, H', ⟨by first | omega | exact Nat.le_refl _⟩, ⟨by (with_reducible repeat (first | refine blk_drewN ?_ _ | refine blk_drew ?_ | refine blk_alloc ?_ _)); exact BK420.out⟩, ⟨by (with_reducible repeat (first | refine blk_drewN ?_ _ | refine blk_drew ?_ | refine blk_alloc ?_ _)); exact BK421.out⟩, ⟨q22_0⟩⟩
    · replace c8 := Bool.eq_false_iff.mpr c8
      subst c8
      have H1 : (impl_RoughAdd.j0 k a1 a2 true l0_0) = some (r1, r2) := by rw [if_neg (show ¬ (false = true) by decide)] at H; exact H
      clear H
      have H := H1
      clear H1
      have H' := Aside0.mk H
      clear H
      have hnb24 := NB420_421.out
      have hnc24 := NB421_420.out
      have hcz25_0 : w6.cell? ⟨gb420, 0, none⟩ = some (.slice A0_0 l0_0.length c0_0) := (blk_cell BK420.out 0).trans rfl
      have hfz25_0 := blk_frozen BK420.out 0
      go_wp2_with (first | ((with_reducible refine gate_callee (f := 17) rfl ?_); refine goesL_ (some 11) rfl rfl Try.func17 (by kernel_rfl) rfl #[.agg #[.slice A0_0 l0_0.length c0_0]] rfl q22_4 ?_; (with_reducible refine (impl_RoughOk.calls k _ _ l0_0 false _ ?side1 ?side2 A7.out).mono ?_); (case side1 => exact q22_5); (case side2 => exact HC0_0.out); rintro e w26 ⟨rfl, hb⟩; refine ⟨_, rfl, ?_⟩; have n0_ := Aside0.mk (blk_below (g := gb420) (o := .cells #[.slice A0_0 l0_0.length c0_0] 25 (0, 0)) q22_1 hb); have n1_ := Aside0.mk (blk_below (g := gb421) (o := .cells #[.slice none 0 0] 25 (0, 0)) q22_2 hb); have n2_ := Aside0.mk (below_step q22_0 hb); clear BK420; clear BK421; clear HB; have BK420 := n0_; have BK421 := n1_; have HB := n2_; clear n0_ n1_ n2_; (try clear hb); (try clear hb2); (try clear hk); (try clear hi)))
      go_meet
      case rel => exact ⟨_, (true), q22_17, H', ⟨by first | omega | exact Nat.le_refl _⟩, ⟨by (with_reducible repeat (first | refine blk_drewN ?_ _ | refine blk_drew ?_ | refine blk_alloc ?_ _)); exact BK420.out⟩, ⟨by (with_reducible repeat (first | refine blk_drewN ?_ _ | refine blk_drew ?_ | refine blk_alloc ?_ _)); exact BK421.out⟩, ⟨q22_0⟩⟩
  case rest =>
    clear HC4
    try clear c1
    try clear c2
    try clear p2
    try clear p6
    try clear c8
    try clear c10
    try clear c11
    try clear c11b0
    try clear c12
    try clear c16
    try clear c17
    try clear c21
    try clear c22
    try clear c24
    try clear hcz13_0
    try clear hcz17_0
    try clear hcz19_0
    try clear hcz22_0
    try clear hcz25_0
    try clear hfz13_0
    try clear hfz17_0
    try clear hfz19_0
    try clear hfz22_0
    try clear hfz25_0
    obtain ⟨kq, x28_3, rfl, HA, HJ3, BK420, BK421, HB⟩ := hcut
    cases kq with
    | zero => exact absurd HA.out (by simp [impl_RoughAdd.j0])
    | succ kj3 =>
      have H := HA.out
      clear HA
      simp only [impl_RoughAdd.j0] at H
      by_cases c27 : x28_3 = true
      · subst c27
        have H1 : (some (([] : List (List Int)), false)) = some (r1, r2) := by rw [if_pos rfl] at H; exact H
        clear H
        have H := H1
        clear H1
        simp only [Option.some.injEq, Prod.mk.injEq] at H
        obtain ⟨rfl, rfl⟩ := H
        have hnb28 := NB421_420.out
        have hnc28 := NB420_421.out
        have hcz29_0 : wc.cell? ⟨gb421, 0, none⟩ = some (.slice none 0 0) := (blk_cell BK421.out 0).trans rfl
        have hfz29_0 := blk_frozen BK421.out 0
        go_wp2
        refine bodyPost_ret (results_ct rfl _ _ gb421 25 #[.slice none 0 0] (0, 0) _ rfl q22_13 Try.underlying25 rfl (by kernel_rfl)) rfl ?_
        exact ⟨_, by first | rfl | (simp [errW_none, errW_some] <;> rfl) | (simp [*, errW_none, errW_some] <;> rfl), by first | exact Kd.S_nil _ _ _ _ _ | exact Kd.N_nil _ _ _ _ _ | exact Kd.V_nil _ _ _ _ _ | exact Kd.Q_nil _ _ _ _ _ | exact Kd.R_nil _ _ _ _ _, q22_0⟩
      · replace c27 := Bool.eq_false_iff.mpr c27
        subst c27
        have H1 : ((impl_RoughNew.f kj3).bind fun t425 => ((impl_roughSum.f kj3 l0_0 t425).bind fun t428 => (impl_RoughAdd.l0 kj3 a1 a2 (t428.length : Int) 0 t428))) = some (r1, r2) := by rw [if_neg (show ¬ (false = true) by decide)] at H; exact H
        clear H
        have H := H1
        clear H1
        replace H := Option.bind_eq_some_iff.mp H
        obtain ⟨t425, A300, H⟩ := H
        replace H : ((impl_roughSum.f kj3 l0_0 t425).bind fun t428 => (impl_RoughAdd.l0 kj3 a1 a2 (t428.length : Int) 0 t428)) = some (r1, r2) := H
        have A30 := Aside0.mk A300
        clear A300
        replace H := Option.bind_eq_some_iff.mp H
        obtain ⟨t428, A310, H⟩ := H
        replace H : (impl_RoughAdd.l0 kj3 a1 a2 (t428.length : Int) 0 t428) = some (r1, r2) := H
        have A31 := Aside0.mk A310
        clear A310
        have H' := Aside0.mk H
        clear H
        try go_wp2
        have n0_ := Aside0.mk (blk_drew BK420.out)
        have n1_ := Aside0.mk (blk_drew BK421.out)
        have n2_ := Aside0.mk (below_drew1 HB.out)
        clear BK420
        clear BK421
        clear HB
        have BK420 := n0_
        have BK421 := n1_
        have HB := n2_
        clear n0_ n1_ n2_
        refine start_ (n := 5) (S := fun w' => w'.cell? ⟨gb420, 0, none⟩ = some (.slice A0_0 l0_0.length c0_0)) (ds := []) #[false, false, false, false, false] (by kernel_rfl) rfl rfl ((blk_cell BK420.out 0).trans rfl) (fun hHeld => ?_)
        generalize wc.drew = w32 at BK420 BK421 HB hHeld ⊢
        refine take_ (i := 0) (N := some 30) (v := ?_) (a' := ?_) #[true, false, false, false, false] rfl rfl (by kernel_rfl) (fun _ _ _ h => h) (Or.inl ⟨by rfl, ?_⟩) hHeld ?_ ?_
        rotate_left
        · intro w' s0
          go_simp
          with_reducible rfl
        rotate_left
        · simp only [Act.put, List.setIfInBounds_toArray, List.set_cons_zero, List.set_cons_succ, i64_w, i32_w]
          rfl
        refine join_ (σ := Value × Value × Nat) 1 #[true, true, true, true, false] (fun s_ => [(31, .agg #[s_.1]), (32, .agg #[s_.2.1]), (8, .pointer (some ⟨s_.2.2, 0, none⟩))]) (fun s_ w' => (w'.cell? ⟨gb420, 0, none⟩ = some (.slice A0_0 l0_0.length c0_0)) ∧ (Kd.S (Kd.slice 3 (Kd.int .i64)) 43 w' w.heap.size (fun k_ => some k_ ≠ (s_.2.1 : Value).ownBlock) s_.1 t425) ∧ (Kd.S (Kd.slice 3 (Kd.int .i64)) 43 w' w.heap.size (fun k_ => some k_ ≠ (s_.1 : Value).ownBlock) s_.2.1 t428) ∧ (w'.heap[gb420]? = some (.cells #[.slice A0_0 l0_0.length c0_0] 25 (0, 0))) ∧ (w'.heap[gb421]? = some (.cells #[.slice none 0 0] 25 (0, 0))) ∧ (w'.heap[s_.2.2]? = some (.cells #[.slice none 0 0] 25 (0, 0))) ∧ (w.heap.size ≤ s_.2.2) ∧ (w.heap.size ≤ s_.2.2) ∧ (gb420 ≠ s_.2.2) ∧ (s_.2.2 ≠ gb420) ∧ (gb421 ≠ s_.2.2) ∧ (s_.2.2 ≠ gb421) ∧ (Below w.heap.size w w')) ?_ ?_
        rotate_left
        · intro hCont
          refine two_ (i := 1) (j := 3) (Ni := some 31) (Nj := some 8) #[true, true, false, false, false] #[true, false, false, true, false] rfl rfl rfl rfl (by kernel_rfl) (by decide) (by decide) (fun K hK => ?_) (fun K hK => ?_)
          · skip
            refine goes_ Try.func16 (by kernel_rfl) rfl #[] (by rfl) rfl rfl q22_4 ?_
            with_reducible refine (impl_RoughNew.calls kj3  t425 _ A30.out).mono ?_
            rintro e w33 ⟨v426, rfl, ho0, hb⟩
            refine ⟨_, rfl, ?_⟩
            have n0_ := Aside0.mk (Kd.S_lower ho0 (below_size q22_0))
            have n1_ := Aside0.mk (blk_below (g := gb420) (o := .cells #[.slice A0_0 l0_0.length c0_0] 25 (0, 0)) q22_1 hb)
            have n2_ := Aside0.mk (blk_below (g := gb421) (o := .cells #[.slice none 0 0] 25 (0, 0)) q22_2 hb)
            have n3_ := Aside0.mk (below_step q22_0 hb)
            clear BK420
            clear BK421
            clear HB
            have HO427 := n0_
            have BK420 := n1_
            have BK421 := n2_
            have HB := n3_
            clear n0_ n1_ n2_ n3_
            (try clear hb)
            (try clear hb2)
            (try clear hk)
            (try clear hi)
            (try clear ho0)
            obtain ⟨Ao34, co34, eo34⟩ := Kd.S_slice HO427.out
            (first | subst eo34 | (injection eo34 with f1_ f2_ f3_; have f4_ := f1_.symm; have f5_ := f3_.symm; clear f1_ f2_ f3_; subst f4_; subst f5_))
            refine hK.out _ _ ((blk_cell BK420.out 0).trans rfl) (fun hHeld => ?_)
            clear hK K
            refine norm_ (a' := ?_) ?_ ?_
            rotate_left
            · show Act.put _ (some 31) _ = _
              simp only [Act.put, List.setIfInBounds_toArray, List.set_cons_zero, List.set_cons_succ, i64_w, i32_w]
              rfl
            refine two_ (i := 2) (j := 3) (Ni := some 32) (Nj := some 8) #[true, true, true, false, false] #[true, true, false, true, false] rfl rfl rfl rfl (by kernel_rfl) (by decide) (by decide) (fun K hK => ?_) (fun K hK => ?_)
            · skip
              refine goes_ Try.func36 (by kernel_rfl) rfl #[.agg #[.slice A0_0 l0_0.length c0_0], .agg #[.slice Ao34 t425.length co34]] (by rfl) rfl rfl q22_4 ?_
              with_reducible refine (impl_roughSum.calls kj3 _ _ l0_0 _ _ t425 t428 _ ?side1 ?side2 ?side3 ?side4 A31.out).mono ?_
              (case side1 => exact q22_5)
              (case side2 => exact HC0_0.out)
              (case side3 => exact q22_9)
              (case side4 => exact (Kd.S_reads' HO427.out).2.1)
              rintro e w35 ⟨v429, rfl, ho0, hb⟩
              refine ⟨_, rfl, ?_⟩
              have n0_ := Aside0.mk (Kd.S_elder' q22_6 (Kd.S_base ho0) hb)
              have n1_ := Aside0.mk (Kd.S_lower (Kd.S_new' ho0 (Kd.S_lt q22_6)) (below_size q22_0))
              have n2_ := Aside0.mk (blk_below (g := gb420) (o := .cells #[.slice A0_0 l0_0.length c0_0] 25 (0, 0)) q22_1 hb)
              have n3_ := Aside0.mk (blk_below (g := gb421) (o := .cells #[.slice none 0 0] 25 (0, 0)) q22_2 hb)
              have n4_ := Aside0.mk (below_step q22_0 hb)
              clear HO427
              clear BK420
              clear BK421
              clear HB
              have HO427 := n0_
              have HO430 := n1_
              have BK420 := n2_
              have BK421 := n3_
              have HB := n4_
              clear n0_ n1_ n2_ n3_ n4_
              (try clear hb)
              (try clear hb2)
              (try clear hk)
              (try clear hi)
              (try clear ho0)
              refine hK.out _ _ ((blk_cell BK420.out 0).trans rfl) (fun hHeld => ?_)
              clear hK K
              refine norm_ (a' := ?_) ?_ ?_
              rotate_left
              · show Act.put _ (some 32) _ = _
                simp only [Act.put, List.setIfInBounds_toArray, List.set_cons_zero, List.set_cons_succ, i64_w, i32_w]
                rfl
              refine one_ (i := 3) (N := some 8) #[true, true, true, true, false] rfl rfl (by kernel_rfl) (by decide) (fun K hK => ?_)
              refine box_step ?hg (N := 8) ?hd (cs := #[.slice none 0 0]) (t := 25) ?hr ?_; (case hd => rfl); (case hg => rfl); (case hr => exact q22_21)
              intro gb431 hg w36 hbox hb
              have n0_ := Aside0.mk (Kd.S_below q22_6 hb)
              have n1_ := Aside0.mk (Kd.S_below (by (with_reducible repeat (first | apply Kd.S_alloc | apply Kd.S_drewN | apply Kd.S_drew)); exact HO430.out) hb)
              have n2_ := Aside0.mk (blk_below (g := gb420) (o := .cells #[.slice A0_0 l0_0.length c0_0] 25 (0, 0)) q22_1 hb)
              have n3_ := Aside0.mk (blk_below (g := gb421) (o := .cells #[.slice none 0 0] 25 (0, 0)) q22_2 hb)
              have n4_ := Aside0.mk (below_step q22_0 hb)
              have n5_ := Aside0.mk (hbox)
              have n6_ := Aside0.mk ((q22_22 : w.heap.size ≤ gb431))
              have n7_ := Aside0.mk ((q22_22 : w.heap.size ≤ gb431))
              have n8_ := Aside0.mk ((q22_11 : gb420 ≠ gb431))
              have n9_ := Aside0.mk ((q22_12 : gb431 ≠ gb420))
              have n10_ := Aside0.mk ((q22_18 : gb421 ≠ gb431))
              have n11_ := Aside0.mk ((q22_19 : gb431 ≠ gb421))
              clear HO427
              clear HO430
              clear BK420
              clear BK421
              clear HB
              have HO427 := n0_
              have HO430 := n1_
              have BK420 := n2_
              have BK421 := n3_
              have HB := n4_
              have BK431 := n5_
              have GW431 := n6_
              have GE431 := n7_
              have NB420_431 := n8_
              have NB431_420 := n9_
              have NB421_431 := n10_
              have NB431_421 := n11_
              clear n0_ n1_ n2_ n3_ n4_ n5_ n6_ n7_ n8_ n9_ n10_ n11_
              clear hb hbox hg
              refine hK.out _ _ ((blk_cell BK420.out 0).trans rfl) (fun hHeld => ?_)
              clear hK K
              refine norm_ (a' := ?_) ?_ ?_
              rotate_left
              · show Act.put _ (some 8) _ = _
                simp only [Act.put, List.setIfInBounds_toArray, List.set_cons_zero, List.set_cons_succ, i64_w, i32_w]
                rfl
              exact norm_ q22_20 (hCont (.slice Ao34 t425.length co34, v429, gb431) _ ⟨hHeld, q22_14, q22_15, q22_1, q22_2, q22_7, GW431.out, GE431.out, NB420_431.out, NB431_420.out, NB421_431.out, NB431_421.out, q22_3⟩)
            · skip
              refine box_step ?hg (N := 8) ?hd (cs := #[.slice none 0 0]) (t := 25) ?hr ?_; (case hd => rfl); (case hg => rfl); (case hr => exact q22_21)
              intro gb431 hg w34 hbox hb
              have n0_ := Aside0.mk (Kd.S_below q22_6 hb)
              have n1_ := Aside0.mk (blk_below (g := gb420) (o := .cells #[.slice A0_0 l0_0.length c0_0] 25 (0, 0)) q22_1 hb)
              have n2_ := Aside0.mk (blk_below (g := gb421) (o := .cells #[.slice none 0 0] 25 (0, 0)) q22_2 hb)
              have n3_ := Aside0.mk (below_step q22_0 hb)
              have n4_ := Aside0.mk (hbox)
              have n5_ := Aside0.mk ((q22_22 : w.heap.size ≤ gb431))
              have n6_ := Aside0.mk ((q22_22 : w.heap.size ≤ gb431))
              have n7_ := Aside0.mk ((q22_11 : gb420 ≠ gb431))
              have n8_ := Aside0.mk ((q22_12 : gb431 ≠ gb420))
              have n9_ := Aside0.mk ((q22_18 : gb421 ≠ gb431))
              have n10_ := Aside0.mk ((q22_19 : gb431 ≠ gb421))
              clear HO427
              clear BK420
              clear BK421
              clear HB
              have HO427 := n0_
              have BK420 := n1_
              have BK421 := n2_
              have HB := n3_
              have BK431 := n4_
              have GW431 := n5_
              have GE431 := n6_
              have NB420_431 := n7_
              have NB431_420 := n8_
              have NB421_431 := n9_
              have NB431_421 := n10_
              clear n0_ n1_ n2_ n3_ n4_ n5_ n6_ n7_ n8_ n9_ n10_
              clear hb hbox hg
              obtain ⟨Ao35, co35, eo35⟩ := Kd.S_slice HO427.out
              (first | subst eo35 | (injection eo35 with f1_ f2_ f3_; have f4_ := f1_.symm; have f5_ := f3_.symm; clear f1_ f2_ f3_; subst f4_; subst f5_))
              refine hK.out _ _ ((blk_cell BK420.out 0).trans rfl) (fun hHeld => ?_)
              clear hK K
              refine norm_ (a' := ?_) ?_ ?_
              rotate_left
              · show Act.put _ (some 8) _ = _
                simp only [Act.put, List.setIfInBounds_toArray, List.set_cons_zero, List.set_cons_succ, i64_w, i32_w]
                rfl
              refine one_ (i := 2) (N := some 32) #[true, true, true, true, false] rfl rfl (by kernel_rfl) (by decide) (fun K hK => ?_)
              refine goes_ Try.func36 (by kernel_rfl) rfl #[.agg #[.slice A0_0 l0_0.length c0_0], .agg #[.slice Ao35 t425.length co35]] (by rfl) rfl rfl q22_4 ?_
              with_reducible refine (impl_roughSum.calls kj3 _ _ l0_0 _ _ t425 t428 _ ?side1 ?side2 ?side3 ?side4 A31.out).mono ?_
              (case side1 => exact q22_5)
              (case side2 => exact HC0_0.out)
              (case side3 => exact q22_9)
              (case side4 => exact (Kd.S_reads' HO427.out).2.1)
              rintro e w36 ⟨v429, rfl, ho0, hb⟩
              refine ⟨_, rfl, ?_⟩
              have n0_ := Aside0.mk (Kd.S_elder' q22_6 (Kd.S_base ho0) hb)
              have n1_ := Aside0.mk (Kd.S_lower (Kd.S_new' ho0 (Kd.S_lt q22_6)) (below_size q22_3))
              have n2_ := Aside0.mk (blk_below (g := gb420) (o := .cells #[.slice A0_0 l0_0.length c0_0] 25 (0, 0)) q22_1 hb)
              have n3_ := Aside0.mk (blk_below (g := gb421) (o := .cells #[.slice none 0 0] 25 (0, 0)) q22_2 hb)
              have n4_ := Aside0.mk (blk_below (g := gb431) (o := .cells #[.slice none 0 0] 25 (0, 0)) q22_7 hb)
              have n5_ := Aside0.mk (below_step q22_3 hb)
              clear HO427
              clear BK420
              clear BK421
              clear BK431
              clear HB
              have HO427 := n0_
              have HO430 := n1_
              have BK420 := n2_
              have BK421 := n3_
              have BK431 := n4_
              have HB := n5_
              clear n0_ n1_ n2_ n3_ n4_ n5_
              (try clear hb)
              (try clear hb2)
              (try clear hk)
              (try clear hi)
              (try clear ho0)
              refine hK.out _ _ ((blk_cell BK420.out 0).trans rfl) (fun hHeld => ?_)
              clear hK K
              refine norm_ (a' := ?_) ?_ ?_
              rotate_left
              · show Act.put _ (some 32) _ = _
                simp only [Act.put, List.setIfInBounds_toArray, List.set_cons_zero, List.set_cons_succ, i64_w, i32_w]
                rfl
              exact norm_ q22_20 (hCont (.slice Ao35 t425.length co35, v429, gb431) _ ⟨hHeld, q22_14, q22_15, q22_1, q22_2, q22_7, GW431.out, GE431.out, NB420_431.out, NB431_420.out, NB421_431.out, NB431_421.out, q22_3⟩)
          · skip
            refine box_step ?hg (N := 8) ?hd (cs := #[.slice none 0 0]) (t := 25) ?hr ?_; (case hd => rfl); (case hg => rfl); (case hr => exact q22_21)
            intro gb431 hg w33 hbox hb
            have n0_ := Aside0.mk (blk_below (g := gb420) (o := .cells #[.slice A0_0 l0_0.length c0_0] 25 (0, 0)) q22_1 hb)
            have n1_ := Aside0.mk (blk_below (g := gb421) (o := .cells #[.slice none 0 0] 25 (0, 0)) q22_2 hb)
            have n2_ := Aside0.mk (below_step q22_0 hb)
            have n3_ := Aside0.mk (hbox)
            have n4_ := Aside0.mk ((q22_22 : w.heap.size ≤ gb431))
            have n5_ := Aside0.mk ((q22_22 : w.heap.size ≤ gb431))
            have n6_ := Aside0.mk ((q22_11 : gb420 ≠ gb431))
            have n7_ := Aside0.mk ((q22_12 : gb431 ≠ gb420))
            have n8_ := Aside0.mk ((q22_18 : gb421 ≠ gb431))
            have n9_ := Aside0.mk ((q22_19 : gb431 ≠ gb421))
            clear BK420
            clear BK421
            clear HB
            have BK420 := n0_
            have BK421 := n1_
            have HB := n2_
            have BK431 := n3_
            have GW431 := n4_
            have GE431 := n5_
            have NB420_431 := n6_
            have NB431_420 := n7_
            have NB421_431 := n8_
            have NB431_421 := n9_
            clear n0_ n1_ n2_ n3_ n4_ n5_ n6_ n7_ n8_ n9_
            clear hb hbox hg
            refine hK.out _ _ ((blk_cell BK420.out 0).trans rfl) (fun hHeld => ?_)
            clear hK K
            refine norm_ (a' := ?_) ?_ ?_
            rotate_left
            · show Act.put _ (some 8) _ = _
              simp only [Act.put, List.setIfInBounds_toArray, List.set_cons_zero, List.set_cons_succ, i64_w, i32_w]
              rfl
            refine one_ (i := 1) (N := some 31) #[true, true, false, true, false] rfl rfl (by kernel_rfl) (by decide) (fun K hK => ?_)
            refine goes_ Try.func16 (by kernel_rfl) rfl #[] (by rfl) rfl rfl q22_4 ?_
            with_reducible refine (impl_RoughNew.calls kj3  t425 _ A30.out).mono ?_
            rintro e w34 ⟨v426, rfl, ho0, hb⟩
            refine ⟨_, rfl, ?_⟩
            have n0_ := Aside0.mk (Kd.S_lower ho0 (below_size q22_3))
            have n1_ := Aside0.mk (blk_below (g := gb420) (o := .cells #[.slice A0_0 l0_0.length c0_0] 25 (0, 0)) q22_1 hb)
            have n2_ := Aside0.mk (blk_below (g := gb421) (o := .cells #[.slice none 0 0] 25 (0, 0)) q22_2 hb)
            have n3_ := Aside0.mk (blk_below (g := gb431) (o := .cells #[.slice none 0 0] 25 (0, 0)) q22_7 hb)
            have n4_ := Aside0.mk (below_step q22_3 hb)
            clear BK420
            clear BK421
            clear BK431
            clear HB
            have HO427 := n0_
            have BK420 := n1_
            have BK421 := n2_
            have BK431 := n3_
            have HB := n4_
            clear n0_ n1_ n2_ n3_ n4_
            (try clear hb)
            (try clear hb2)
            (try clear hk)
            (try clear hi)
            (try clear ho0)
            obtain ⟨Ao35, co35, eo35⟩ := Kd.S_slice HO427.out
            (first | subst eo35 | (injection eo35 with f1_ f2_ f3_; have f4_ := f1_.symm; have f5_ := f3_.symm; clear f1_ f2_ f3_; subst f4_; subst f5_))
            refine hK.out _ _ ((blk_cell BK420.out 0).trans rfl) (fun hHeld => ?_)
            clear hK K
            refine norm_ (a' := ?_) ?_ ?_
            rotate_left
            · show Act.put _ (some 31) _ = _
              simp only [Act.put, List.setIfInBounds_toArray, List.set_cons_zero, List.set_cons_succ, i64_w, i32_w]
              rfl
            refine one_ (i := 2) (N := some 32) #[true, true, true, true, false] rfl rfl (by kernel_rfl) (by decide) (fun K hK => ?_)
            refine goes_ Try.func36 (by kernel_rfl) rfl #[.agg #[.slice A0_0 l0_0.length c0_0], .agg #[.slice Ao35 t425.length co35]] (by rfl) rfl rfl q22_4 ?_
            with_reducible refine (impl_roughSum.calls kj3 _ _ l0_0 _ _ t425 t428 _ ?side1 ?side2 ?side3 ?side4 A31.out).mono ?_
            (case side1 => exact q22_5)
            (case side2 => exact HC0_0.out)
            (case side3 => exact q22_9)
            (case side4 => exact (Kd.S_reads' HO427.out).2.1)
            rintro e w36 ⟨v429, rfl, ho0, hb⟩
            refine ⟨_, rfl, ?_⟩
            have n0_ := Aside0.mk (Kd.S_elder' q22_6 (Kd.S_base ho0) hb)
            have n1_ := Aside0.mk (Kd.S_lower (Kd.S_new' ho0 (Kd.S_lt q22_6)) (below_size q22_3))
            have n2_ := Aside0.mk (blk_below (g := gb420) (o := .cells #[.slice A0_0 l0_0.length c0_0] 25 (0, 0)) q22_1 hb)
            have n3_ := Aside0.mk (blk_below (g := gb421) (o := .cells #[.slice none 0 0] 25 (0, 0)) q22_2 hb)
            have n4_ := Aside0.mk (blk_below (g := gb431) (o := .cells #[.slice none 0 0] 25 (0, 0)) q22_7 hb)
            have n5_ := Aside0.mk (below_step q22_3 hb)
            clear HO427
            clear BK420
            clear BK421
            clear BK431
            clear HB
            have HO427 := n0_
            have HO430 := n1_
            have BK420 := n2_
            have BK421 := n3_
            have BK431 := n4_
            have HB := n5_
            clear n0_ n1_ n2_ n3_ n4_ n5_
            (try clear hb)
            (try clear hb2)
            (try clear hk)
            (try clear hi)
            (try clear ho0)
            refine hK.out _ _ ((blk_cell BK420.out 0).trans rfl) (fun hHeld => ?_)
            clear hK K
            refine norm_ (a' := ?_) ?_ ?_
            rotate_left
            · show Act.put _ (some 32) _ = _
              simp only [Act.put, List.setIfInBounds_toArray, List.set_cons_zero, List.set_cons_succ, i64_w, i32_w]
              rfl
            exact norm_ q22_20 (hCont (.slice Ao35 t425.length co35, v429, gb431) _ ⟨hHeld, q22_14, q22_15, q22_1, q22_2, q22_7, GW431.out, GE431.out, NB420_431.out, NB431_420.out, NB421_431.out, NB431_421.out, q22_3⟩)
        rintro ⟨v426, v429, gb431⟩ w37 ⟨hS_, h0_, h1_, h2_, h3_, h4_, h5_, h6_, h7_, h8_, h9_, h10_, h11_⟩
        have n0_ : Aside0 (Kd.S (Kd.slice 3 (Kd.int .i64)) 43 w37 w.heap.size (fun k_ => some k_ ≠ (v429 : Value).ownBlock) v426 t425) := ⟨h0_⟩
        have n1_ : Aside0 (Kd.S (Kd.slice 3 (Kd.int .i64)) 43 w37 w.heap.size (fun k_ => some k_ ≠ (v426 : Value).ownBlock) v429 t428) := ⟨h1_⟩
        have n2_ : Aside0 (w37.heap[gb420]? = some (.cells #[.slice A0_0 l0_0.length c0_0] 25 (0, 0))) := ⟨h2_⟩
        have n3_ : Aside0 (w37.heap[gb421]? = some (.cells #[.slice none 0 0] 25 (0, 0))) := ⟨h3_⟩
        have n4_ : Aside0 (w37.heap[gb431]? = some (.cells #[.slice none 0 0] 25 (0, 0))) := ⟨h4_⟩
        have n5_ : Aside0 (w.heap.size ≤ gb431) := ⟨h5_⟩
        have n6_ : Aside0 (w.heap.size ≤ gb431) := ⟨h6_⟩
        have n7_ : Aside0 (gb420 ≠ gb431) := ⟨h7_⟩
        have n8_ : Aside0 (gb431 ≠ gb420) := ⟨h8_⟩
        have n9_ : Aside0 (gb421 ≠ gb431) := ⟨h9_⟩
        have n10_ : Aside0 (gb431 ≠ gb421) := ⟨h10_⟩
        have n11_ : Aside0 (Below w.heap.size w w37) := ⟨h11_⟩
        clear BK420
        clear BK421
        clear HB
        clear h0_ h1_ h2_ h3_ h4_ h5_ h6_ h7_ h8_ h9_ h10_ h11_
        have HO427 := n0_
        have HO430 := n1_
        have BK420 := n2_
        have BK421 := n3_
        have BK431 := n4_
        have GW431 := n5_
        have GE431 := n6_
        have NB420_431 := n7_
        have NB431_420 := n8_
        have NB421_431 := n9_
        have NB431_421 := n10_
        have HB := n11_
        clear n0_ n1_ n2_ n3_ n4_ n5_ n6_ n7_ n8_ n9_ n10_ n11_
        have hHeld : w37.cell? ⟨gb420, 0, none⟩ = some (.slice A0_0 l0_0.length c0_0) := hS_
        obtain ⟨Ao38, co38, eo38⟩ := Kd.S_slice HO430.out
        (first | subst eo38 | (injection eo38 with f1_ f2_ f3_; have f4_ := f1_.symm; have f5_ := f3_.symm; clear f1_ f2_ f3_; subst f4_; subst f5_))
        refine norm_ (a' := ?_) ?_ ?_
        rotate_left
        · simp only [putAll, Act.put, List.setIfInBounds_toArray, List.set_cons_zero, List.set_cons_succ]
          rfl
        refine one_ (i := 4) (N := none) #[true, true, true, true, true] rfl rfl (by kernel_rfl) (by decide) (fun K hK => ?_)
        have hs39 : w37.cell? ⟨gb431, 0, none⟩ = some (.slice none 0 0) := (blk_cell BK431.out 0).trans rfl
        have hfs39 := blk_frozen BK431.out 0
        have hns39_0 := NB420_431.out
        have hns39_1 := NB421_431.out
        have hms39_0 := NB431_420.out
        have hms39_1 := NB431_421.out
        refine skip_ (w1 := ?_) (by rfl) rfl ?_ ?_
        rotate_left
        · go_simp
          rfl
        refine hK.out _ _ (((cell_far (p := ⟨gb431, _, none⟩) NB420_431.out _).trans (hHeld))) (fun hHeld => ?_)
        clear hK K
        refine done_ (by kernel_rfl) ?_
        have hnb40 := NB431_420.out
        have hnc40 := NB420_431.out
        have hnb41 := NB431_421.out
        have hnc41 := NB421_431.out
        have hcz42_0 : w37.cell? ⟨gb431, 0, none⟩ = some (.slice none 0 0) := (blk_cell BK431.out 0).trans rfl
        have hfz42_0 := blk_frozen BK431.out 0
        try go_wp2
        go_loopg [36] kj3 (fun kq v36 w' => ∃ (x36_2 : Int) (x432000_2 : List (List Int)) (u432000 : Value), v36 = .int .i64 x36_2 ∧ Aside0 (impl_RoughAdd.l0 kq a1 a2 (t428.length : Int) x36_2 x432000_2 = some (r1, r2)) ∧ Aside0 (kq ≤ kj3) ∧ Aside0 (Kd.S (Kd.slice 3 (Kd.int .i64)) 43 w' w.heap.size (fun _ => True) u432000 x432000_2) ∧ Aside0 (w'.heap[gb420]? = some (.cells #[(.slice A0_0 l0_0.length c0_0)] 25 (0, 0))) ∧ Aside0 (w'.heap[gb421]? = some (.cells #[(.slice none 0 0)] 25 (0, 0))) ∧ Aside0 (w'.heap[gb431]? = some (.cells #[u432000] 25 (0, 0))) ∧ Aside0 (Below w.heap.size w w'))
        case atStart => exact ⟨(0), (t428), (.slice Ao38 t428.length co38), q22_17, H', ⟨Nat.le_refl _⟩, ⟨by (with_reducible repeat (first | apply Kd.S_alloc | apply Kd.S_drewN | apply Kd.S_drew)); exact Kd.S_mono (Kd.S_far (p := ⟨gb431, 0, none⟩) (Kd.S_types HO430.out BK431.out (by decide)) (fun _ hk => hk.2) (.slice Ao38 t428.length co38)) (fun _ hk => trivial)⟩, ⟨by (with_reducible repeat (first | refine blk_drewN ?_ _ | refine blk_drew ?_ | refine blk_alloc ?_ _)); refine blk_far ?_ NB420_431.out _; (with_reducible repeat (first | refine blk_drewN ?_ _ | refine blk_drew ?_ | refine blk_alloc ?_ _)); exact BK420.out⟩, ⟨by (with_reducible repeat (first | refine blk_drewN ?_ _ | refine blk_drew ?_ | refine blk_alloc ?_ _)); refine blk_far ?_ NB421_431.out _; (with_reducible repeat (first | refine blk_drewN ?_ _ | refine blk_drew ?_ | refine blk_alloc ?_ _)); exact BK421.out⟩, ⟨by (with_reducible repeat (first | refine blk_drewN ?_ _ | refine blk_drew ?_ | refine blk_alloc ?_ _)); refine blk_put (cs := #[.slice none 0 0]) ?_ 0 _ rfl; (with_reducible repeat (first | refine blk_drewN ?_ _ | refine blk_drew ?_ | refine blk_alloc ?_ _)); exact BK431.out⟩, ⟨q22_3⟩⟩
        case round =>
          clear H'
          try clear c1
          try clear c2
          try clear p2
          try clear c3
          try clear c4
          try clear p6
          try clear c8
          try clear c10
          try clear c11
          try clear c11b0
          try clear c12
          try clear c16
          try clear c17
          try clear c21
          try clear c22
          try clear c24
          try clear c27
          try clear c28
          try clear c36
          try clear c40
          try clear c41
          try clear hcz13_0
          try clear hcz17_0
          try clear hcz19_0
          try clear hcz22_0
          try clear hcz25_0
          try clear hcz29_0
          try clear hcz42_0
          try clear hfz13_0
          try clear hfz17_0
          try clear hfz19_0
          try clear hfz22_0
          try clear hfz25_0
          try clear hfz29_0
          try clear hfz42_0
          try clear p2
          try clear p6
          obtain ⟨x36_2, x432000_2, u432000, rfl, HA, HK2, HO_432000, BK420, BK421, BK431, HB⟩ := hrel
          cases gk with
          | zero => exact absurd HA.out (by simp [impl_RoughAdd.l0])
          | succ k2 =>
            have H := HA.out
            clear HA
            simp only [impl_RoughAdd.l0] at H
            by_cases c43 : x36_2 < (t428.length : Int)
            · rw [if_pos c43] at H
              have c43b0 : decide (x36_2 < (t428.length : Int)) = true := decide_eq_true c43
              clear c43
              by_cases c44 : 0 ≤ x36_2
              · rw [if_pos c44] at H
                have c44b0 : decide (0 ≤ x36_2) = true := decide_eq_true c44
                clear c44
                by_cases c45 : x36_2 < (x432000_2.length : Int)
                · rw [if_pos c45] at H
                  have c45b0 : decide (x36_2 < (x432000_2.length : Int)) = true := decide_eq_true c45
                  clear c45
                  replace H := Option.bind_eq_some_iff.mp H
                  obtain ⟨t433, A460, H⟩ := H
                  replace H : (if 0 ≤ t433 then (if t433 < ((rd_L2 x432000_2 x36_2).length : Int) then (impl_RoughAdd.l0 k2 a1 a2 (t428.length : Int) (wrap64 (x36_2 + 1)) (x432000_2.set (x36_2 : Int).toNat ((rd_L2 x432000_2 x36_2).set (t433 : Int).toNat (wrap64 ((rd (rd_L2 x432000_2 x36_2) t433) + a2))))) else (none)) else (none)) = some (r1, r2) := H
                  have A46 := Aside0.mk A460
                  clear A460
                  by_cases c47 : 0 ≤ t433
                  · rw [if_pos c47] at H
                    have c47b0 : decide (0 ≤ t433) = true := decide_eq_true c47
                    clear c47
                    by_cases c48 : t433 < ((rd_L2 x432000_2 x36_2).length : Int)
                    · rw [if_pos c48] at H
                      have c48b0 : decide (t433 < ((rd_L2 x432000_2 x36_2).length : Int)) = true := decide_eq_true c48
                      clear c48
                      obtain ⟨y435, hy435⟩ : ∃ y_ : List Int, y_ = ((rd_L2 x432000_2 x36_2).set (t433 : Int).toNat (wrap64 ((rd (rd_L2 x432000_2 x36_2) t433) + a2))) := ⟨_, rfl⟩
                      replace H : (impl_RoughAdd.l0 k2 a1 a2 (t428.length : Int) (wrap64 (x36_2 + 1)) (x432000_2.set (x36_2 : Int).toNat y435)) = some (r1, r2) := by first | (rw [hy435]; with_reducible exact H) | (have H2_ := (Option.bind_some _ _).symm.trans H; rw [hy435]; with_reducible exact H2_) | (have H2_ := (Option.bind_some _ _).symm.trans H; with_reducible exact H2_) | with_reducible exact H | (rw [hy435]; exact H) | exact H
                      have Ny435 := Aside0.mk hy435
                      clear hy435
                      obtain ⟨y437, hy437⟩ : ∃ y_ : List (List Int), y_ = (x432000_2.set (x36_2 : Int).toNat y435) := ⟨_, rfl⟩
                      replace H : (impl_RoughAdd.l0 k2 a1 a2 (t428.length : Int) (wrap64 (x36_2 + 1)) y437) = some (r1, r2) := by first | (rw [hy437]; with_reducible exact H) | (have H2_ := (Option.bind_some _ _).symm.trans H; rw [hy437]; with_reducible exact H2_) | (have H2_ := (Option.bind_some _ _).symm.trans H; with_reducible exact H2_) | with_reducible exact H | (rw [hy437]; exact H) | exact H
                      have Ny437 := Aside0.mk hy437
                      clear hy437
                      have H' := Aside0.mk H
                      clear H
                      try go_wp2
                      have n0_ := Aside0.mk (Kd.S_drew HO_432000.out)
                      have n1_ := Aside0.mk (blk_drew BK420.out)
                      have n2_ := Aside0.mk (blk_drew BK421.out)
                      have n3_ := Aside0.mk (blk_drew BK431.out)
                      have n4_ := Aside0.mk (below_drew1 HB.out)
                      clear HO_432000
                      clear BK420
                      clear BK421
                      clear BK431
                      clear HB
                      have HO_432000 := n0_
                      have BK420 := n1_
                      have BK421 := n2_
                      have BK431 := n3_
                      have HB := n4_
                      clear n0_ n1_ n2_ n3_ n4_
                      obtain ⟨Ao51, co51, eo51⟩ := Kd.S_slice HO_432000.out
                      (first | subst eo51 | (injection eo51 with f1_ f2_ f3_; have f4_ := f1_.symm; have f5_ := f3_.symm; clear f1_ f2_ f3_; subst f4_; subst f5_))
                      have p432 : 0 ≤ (x36_2 : Int) := of_decide_eq_true q22_8
                      have q432 : x36_2 < (x432000_2.length : Int) := of_decide_eq_true q22_8
                      obtain ⟨ad432, A432_0, c432_0, e432, hx432_0, hl432_0, hi432_0⟩ := at_L2 (Kd.S_reads' HO_432000.out).2.2 x36_2 p432 q432
                      cases e432
                      obtain ⟨ce432, hce432, hMe432, hcc432⟩ := Kd.S_get HO_432000.out [] x36_2 p432 (by first | exact q432 | exact of_decide_eq_true q22_8 | (have e_ := (Kd.S_reads' HO_432000.out).1; omega))
                      obtain ⟨ve432_0, rfl, ge432_0⟩ := hMe432
                      have hv432_0 := hcc432 0 _ rfl
                      rw [Nat.add_zero, show ((Kd.slice 3 (Kd.int .i64))).sz = 1 from rfl, Nat.mul_one] at hv432_0
                      replace hv432_0 := Option.some.inj (hv432_0.symm.trans hx432_0)
                      rw [hv432_0] at ge432_0
                      have HL432_0 := Aside0.mk (show Kd.R (Kd.int .i64) 3 _ _ _ _ (rd_L2 x432000_2 x36_2) from ge432_0)
                      clear hv432_0 ge432_0
                      have HX432_0 := Aside0.mk hx432_0
                      clear hcc432 hce432
                      have HR432_0 := Aside0.mk hi432_0
                      have HC432_0 := Aside0.mk hl432_0
                      clear hi432_0 hl432_0
                      replace p432 := eq_true p432
                      replace q432 := eq_true q432
                      have p434 : 0 ≤ (t433 : Int) := of_decide_eq_true q22_8
                      have q434 : t433 < ((rd_L2 x432000_2 x36_2).length : Int) := of_decide_eq_true q22_8
                      obtain ⟨ad434, e434, hx434_0⟩ := Kd.at_int (by repeat (first | (with_reducible exact HR432_0.out) | (with_reducible refine Kd.C_alloc ?_ _) | (with_reducible refine Kd.C_drewN ?_ _) | (with_reducible refine Kd.C_drew ?_) | exact HR432_0.out)) t433 p434 q434
                      cases e434
                      replace p434 := eq_true p434
                      replace q434 := eq_true q434
                      refine start_ (n := 14) (S := fun w' => w'.cell? ⟨gb431, 0, none⟩ = some (.slice (some ad432) x432000_2.length co51) ∧ w'.cell? (ad432.add (x36_2).toNat) = some (.slice (some ad434) (rd_L2 x432000_2 x36_2).length c432_0) ∧ w'.cell? (ad434.add (t433).toNat) = some (.int .i64 (rd (rd_L2 x432000_2 x36_2) t433))) (ds := [13]) #[false, false, false, false, false, false, false, false, false, false, false, false, false, false] (by kernel_rfl) rfl rfl ⟨(blk_cell BK431.out 0).trans rfl, hx432_0, hx434_0⟩ (fun hHeld => ?_); refine with_tabW impl_RoughAdd.tab7 impl_RoughAdd.bits7 (fun HT_ HW_ => ?_)
                      generalize wr.drew = w50 at HO_432000 BK420 BK421 BK431 HB HL432_0 HR432_0 HX432_0 hx432_0 hx434_0 hHeld ⊢
                      refine pure_ (i := 0) (N := some 39) (v := ?_) (a' := ?_) #[true, false, false, false, false, false, false, false, false, false, false, false, false, false] rfl rfl (any_of HT_.out (by kernel_rfl)) (fun _ _ _ h => h) (Or.inl ⟨by rfl, ?_⟩) ?_ ?_
                      rotate_left
                      · intro w'
                        go_simp
                        with_reducible rfl
                      rotate_left
                      · simp only [Act.put, List.setIfInBounds_toArray, List.set_cons_zero, List.set_cons_succ, i64_w, i32_w]
                        rfl
                      refine pure_ (i := 2) (N := some 41) (v := ?_) (a' := ?_) #[true, false, true, false, false, false, false, false, false, false, false, false, false, false] rfl rfl (any_of HT_.out (by kernel_rfl)) (fun _ _ _ h => h) (Or.inl ⟨by rfl, ?_⟩) ?_ ?_
                      rotate_left
                      · intro w'
                        go_simp
                        with_reducible rfl
                      rotate_left
                      · simp only [Act.put, List.setIfInBounds_toArray, List.set_cons_zero, List.set_cons_succ, i64_w, i32_w]
                        rfl
                      refine pure_ (i := 5) (N := some 44) (v := ?_) (a' := ?_) #[true, false, true, false, false, true, false, false, false, false, false, false, false, false] rfl rfl (any_of HT_.out (by kernel_rfl)) (fun _ _ _ h => h) (Or.inl ⟨by rfl, ?_⟩) ?_ ?_
                      rotate_left
                      · intro w'
                        go_simp
                        with_reducible rfl
                      rotate_left
                      · simp only [Act.put, List.setIfInBounds_toArray, List.set_cons_zero, List.set_cons_succ, i64_w, i32_w]
                        rfl
                      refine pure_ (i := 6) (N := some 45) (v := ?_) (a' := ?_) #[true, false, true, false, false, true, true, false, false, false, false, false, false, false] rfl rfl (any_of HT_.out (by kernel_rfl)) (fun _ _ _ h => h) (Or.inl ⟨by rfl, ?_⟩) ?_ ?_
                      rotate_left
                      · intro w'
                        go_simp
                        with_reducible rfl
                      rotate_left
                      · simp only [Act.put, List.setIfInBounds_toArray, List.set_cons_zero, List.set_cons_succ, i64_w, i32_w]
                        rfl
                      refine pure_ (i := 10) (N := some 49) (v := ?_) (a' := ?_) #[true, false, true, false, false, true, true, false, false, false, true, false, false, false] rfl rfl (any_of HT_.out (by kernel_rfl)) (fun _ _ _ h => h) (Or.inl ⟨by rfl, ?_⟩) ?_ ?_
                      rotate_left
                      · intro w'
                        go_simp
                        with_reducible rfl
                      rotate_left
                      · simp only [Act.put, List.setIfInBounds_toArray, List.set_cons_zero, List.set_cons_succ, i64_w, i32_w]
                        rfl
                      refine take_ (i := 1) (N := some 40) (v := ?_) (a' := ?_) #[true, true, true, false, false, true, true, false, false, false, true, false, false, false] rfl rfl (take_ofW HT_.out HW_.out (by kernel_rfl)) (fun _ _ _ h => h) (Or.inl ⟨by rfl, ?_⟩) hHeld ?_ ?_
                      rotate_left
                      · rintro w' ⟨s0, s1, s2⟩
                        (try simp only [add_plain] at s2)
                        go_simp
                        with_reducible rfl
                      rotate_left
                      · simp only [Act.put, List.setIfInBounds_toArray, List.set_cons_zero, List.set_cons_succ, i64_w, i32_w]
                        rfl
                      refine pure_ (i := 3) (N := some 42) (v := ?_) (a' := ?_) #[true, true, true, true, false, true, true, false, false, false, true, false, false, false] rfl rfl (any_of HT_.out (by kernel_rfl)) (fun _ _ _ h => h) (Or.inl ⟨by rfl, ?_⟩) ?_ ?_
                      rotate_left
                      · intro w'
                        go_simp
                        with_reducible rfl
                      rotate_left
                      · simp only [Act.put, List.setIfInBounds_toArray, List.set_cons_zero, List.set_cons_succ, i64_w, i32_w]
                        rfl
                      refine take_ (i := 4) (N := some 43) (v := ?_) (a' := ?_) #[true, true, true, true, true, true, true, false, false, false, true, false, false, false] rfl rfl (take_ofW HT_.out HW_.out (by kernel_rfl)) (fun _ _ _ h => h) (Or.inl ⟨by rfl, ?_⟩) hHeld ?_ ?_
                      rotate_left
                      · rintro w' ⟨s0, s1, s2⟩
                        (try simp only [add_plain] at s2)
                        go_simp
                        with_reducible rfl
                      rotate_left
                      · simp only [Act.put, List.setIfInBounds_toArray, List.set_cons_zero, List.set_cons_succ, i64_w, i32_w]
                        rfl
                      refine one_ (i := 7) (N := some 46) #[true, true, true, true, true, true, true, true, false, false, true, false, false, false] rfl rfl (one_of HT_.out (by kernel_rfl)) (by decide) (fun K hK => ?_)
                      refine goes_ Try.func25 (by kernel_rfl) rfl #[.int .i64 x36_2, .int .i64 a1] (by rfl) rfl rfl q22_4 ?_
                      with_reducible refine (impl_RoughPlace.calls x36_2 a1 t433 _ A46.out).mono ?_
                      rintro e w' ⟨rfl, ⟨nd, rfl⟩⟩
                      refine ⟨_, rfl, ?_⟩
                      have p49 : 0 ≤ (t433 : Int) := of_decide_eq_true q22_8
                      have q49 : (t433 : Int) < (((rd_L2 x432000_2 x36_2).length : Int) : Int) := of_decide_eq_true q22_8
                      obtain ⟨go49, co49, eo49, gb49, gl49, cl49, HG49⟩ := Kd.R_form HL432_0.out (by omega)
                      (first | cases eo49 | (injection eo49 with ea_ en_ ec_; (first | subst ea_ | (injection ea_ with ea_; subst ea_)); subst ec_; clear en_))
                      have GB49 := Aside0.mk gb49
                      have GG49 := Aside0.mk HG49
                      clear gb49 gl49 HG49
                      (first | simp only [add_plain] at hx434_0 | skip)
                      obtain ⟨hx49_0, hf49_0⟩ := Kd.R_celln 0 HL432_0.out (t433 : Int) p49 q49
                      replace p49 := eq_true p49
                      replace q49 := eq_true q49
                      have hq52 : (x36_2 : Int) < (x432000_2.length : Int) := (by have h_ : (x36_2 : Int) < ((x432000_2.length : Int) : Int) := of_decide_eq_true q22_8; first | exact h_ | (have e_ := (Kd.S_reads' HO_432000.out).1; omega) | simpa only [List.length_set, List.length_set] using h_)
                      obtain ⟨oki52, ce52, hcl52, hM52, hcc52, hok52, hbk52⟩ := Kd.S_borrow HO_432000.out [] (x36_2 : Int) (of_decide_eq_true q22_8) hq52
                      obtain ⟨ve52_0, rfl, ge52_0⟩ := hM52
                      have hv52 := hcc52 0 _ rfl
                      rw [Nat.add_zero, show ((Kd.slice 3 (Kd.int .i64))).sz = 1 from rfl, Nat.mul_one] at hv52
                      replace hv52 := Option.some.inj (hv52.symm.trans HX432_0.out)
                      subst hv52
                      clear hcc52 hcl52
                      replace ge52_0 := (show Kd.R (Kd.int .i64) 3 _ _ _ _ (rd_L2 x432000_2 x36_2) from ge52_0)
                      have HP52 := Kd.R_putg ge52_0 (t433 : Int) (wrap64 ((rd (rd_L2 x432000_2 x36_2) t433) + a2))
                      rw [← Ny435.out] at HP52
                      have HS52 := hbk52 HP52.2 (fun k_ e_ => by injection e_ with e_; subst e_; exact ge52_0.1 _ rfl) (x' := y435) (Kd.M_row HP52.1)
                      rw [← Ny437.out] at HS52
                      have HQ52 := Aside0.mk HS52
                      clear HP52 HS52 hbk52 hok52
                      refine hK.out _ _ ⟨(blk_cell BK431.out 0).trans rfl, hHeld.2.1, hHeld.2.2⟩ (fun hHeld => ?_)
                      clear hK K
                      refine norm_ (a' := ?_) ?_ ?_
                      rotate_left
                      · show Act.put _ (some 46) _ = _
                        simp only [Act.put, List.setIfInBounds_toArray, List.set_cons_zero, List.set_cons_succ, i64_w, i32_w]
                        rfl
                      refine pure_ (i := 8) (N := some 47) (v := ?_) (a' := ?_) #[true, true, true, true, true, true, true, true, true, false, true, false, false, false] rfl rfl (any_of HT_.out (by kernel_rfl)) (fun _ _ _ h => h) (Or.inl ⟨by rfl, ?_⟩) ?_ ?_
                      rotate_left
                      · intro w'
                        go_simp
                        with_reducible rfl
                      rotate_left
                      · simp only [Act.put, List.setIfInBounds_toArray, List.set_cons_zero, List.set_cons_succ, i64_w, i32_w]
                        rfl
                      refine take_ (i := 9) (N := some 48) (v := ?_) (a' := ?_) #[true, true, true, true, true, true, true, true, true, true, true, false, false, false] rfl rfl (take_ofW HT_.out HW_.out (by kernel_rfl)) (fun _ _ _ h => h) (Or.inl ⟨by rfl, ?_⟩) hHeld ?_ ?_
                      rotate_left
                      · rintro w' ⟨s0, s1, s2⟩
                        (try simp only [add_plain] at s2)
                        go_simp
                        with_reducible rfl
                      rotate_left
                      · simp only [Act.put, List.setIfInBounds_toArray, List.set_cons_zero, List.set_cons_succ, i64_w, i32_w]
                        rfl
                      refine pure_ (i := 11) (N := some 50) (v := ?_) (a' := ?_) #[true, true, true, true, true, true, true, true, true, true, true, true, false, false] rfl rfl (any_of HT_.out (by kernel_rfl)) (fun _ _ _ h => h) (Or.inl ⟨by rfl, ?_⟩) ?_ ?_
                      rotate_left
                      · intro w'
                        go_simp
                        with_reducible rfl
                      rotate_left
                      · simp only [Act.put, List.setIfInBounds_toArray, List.set_cons_zero, List.set_cons_succ, i64_w, i32_w]
                        rfl
                      refine pure_ (i := 12) (N := some 51) (v := ?_) (a' := ?_) #[true, true, true, true, true, true, true, true, true, true, true, true, true, false] rfl rfl (any_of HT_.out (by kernel_rfl)) (fun _ _ _ h => h) (Or.inl ⟨by rfl, ?_⟩) ?_ ?_
                      rotate_left
                      · intro w'
                        go_simp
                        with_reducible rfl
                      rotate_left
                      · simp only [Act.put, List.setIfInBounds_toArray, List.set_cons_zero, List.set_cons_succ, i64_w, i32_w]
                        rfl
                      refine last_ (i := 13) (N := none) #[true, true, true, true, true, true, true, true, true, true, true, true, true, true] rfl rfl (one_of HT_.out (by kernel_rfl)) (by decide) (fun K hK => ?_)
                      refine skip_ (w1 := ?_) (by rfl) rfl ?_ ?_
                      rotate_left
                      · go_simp
                        rfl
                      refine hK.out _ _ ?_
                      clear hK K
                      refine done_ (done_of HT_.out (by kernel_rfl)) ?_
                      try go_wp2
                      go_roundg k2
                      case measure => have := HJ3.out; have := HK2.out; omega
                      case rel => exact ⟨(wrap64 (x36_2 + 1)), (y437), (.slice (some ad432) x432000_2.length co51), q22_17, H', ⟨by have := HJ3.out; have := HK2.out; omega⟩, ⟨by (with_reducible repeat (first | apply Kd.S_alloc | apply Kd.S_drewN | apply Kd.S_drew)); exact HQ52.out⟩, ⟨by (with_reducible repeat (first | refine blk_drewN ?_ _ | refine blk_drew ?_ | refine blk_alloc ?_ _)); refine blk_far ?_ (by have h_ := Kd.R_ne HL432_0.out BK420.out (by decide); intro e_; exact h_ (by rw [e_]; rfl)) _; (with_reducible repeat (first | refine blk_drewN ?_ _ | refine blk_drew ?_ | refine blk_alloc ?_ _)); exact BK420.out⟩, ⟨by (with_reducible repeat (first | refine blk_drewN ?_ _ | refine blk_drew ?_ | refine blk_alloc ?_ _)); refine blk_far ?_ (by have h_ := Kd.R_ne HL432_0.out BK421.out (by decide); intro e_; exact h_ (by rw [e_]; rfl)) _; (with_reducible repeat (first | refine blk_drewN ?_ _ | refine blk_drew ?_ | refine blk_alloc ?_ _)); exact BK421.out⟩, ⟨by (with_reducible repeat (first | refine blk_drewN ?_ _ | refine blk_drew ?_ | refine blk_alloc ?_ _)); refine blk_far ?_ (by have h_ := Kd.R_ne HL432_0.out BK431.out (by decide); intro e_; exact h_ (by rw [e_]; rfl)) _; (with_reducible repeat (first | refine blk_drewN ?_ _ | refine blk_drew ?_ | refine blk_alloc ?_ _)); exact BK431.out⟩, ⟨by repeat (first | (with_reducible first | exact HB.out | apply below_alloc | apply pw_below_drewN | apply below_drew1 | refine below_set ?_ GB49.out | refine below_set ?_ GE420.out | refine below_set ?_ GE421.out | refine below_set ?_ GE431.out) | exact HB.out)⟩⟩
                    · rw [if_neg c48] at H
                      exact absurd H (by simp)
                  · rw [if_neg c47] at H
                    exact absurd H (by simp)
                · rw [if_neg c45] at H
                  exact absurd H (by simp)
              · rw [if_neg c44] at H
                exact absurd H (by simp)
            · rw [if_neg c43] at H
              have c43b0 : decide (x36_2 < (t428.length : Int)) = false := decide_eq_false c43
              clear c43
              simp only [Option.some.injEq, Prod.mk.injEq] at H
              obtain ⟨rfl, rfl⟩ := H
              have hnb54 := NB431_420.out
              have hnc54 := NB420_431.out
              have hnb55 := NB431_421.out
              have hnc55 := NB421_431.out
              have hcz56_0 : wr.cell? ⟨gb431, 0, none⟩ = some (u432000) := (blk_cell BK431.out 0).trans rfl
              have hfz56_0 := blk_frozen BK431.out 0
              obtain ⟨Ao57, co57, eo57⟩ := Kd.S_slice HO_432000.out
              subst eo57
              have hnb58 := NB421_420.out
              have hnc58 := NB420_421.out
              have hcz59_0 : wr.cell? ⟨gb421, 0, none⟩ = some (.slice none 0 0) := (blk_cell BK421.out 0).trans rfl
              have hfz59_0 := blk_frozen BK421.out 0
              go_wp2
              refine bodyPost_ret (results_ct rfl _ _ gb421 25 #[.slice Ao57 x432000_2.length co57] (0, 0) _ rfl q22_13 Try.underlying25 rfl (by kernel_rfl)) rfl ?_
              exact ⟨_, by first | rfl | (simp [errW_none, errW_some] <;> rfl) | (simp [*, errW_none, errW_some] <;> rfl), by (with_reducible repeat (first | apply Kd.S_alloc | apply Kd.S_drewN | apply Kd.S_drew)); exact Kd.S_mono (Kd.S_far (p := ⟨gb421, 0, none⟩) (Kd.S_types HO_432000.out BK421.out (by decide)) (fun _ hk => hk.2) (.slice Ao57 x432000_2.length co57)) (fun _ hk => trivial), q22_3⟩

end Go.Proofs.Ytojhkhpgahhacaa.PA
