-- Made by a program of this session (wip/tools/pr2.sh) out of the translation, by way of the printer: shared by the seat's laws.
import Derived.Test.YtojhkhpgahhacaaPAx0
import Derived.Test.YtojhkhpgahhacaaPAx2
import Derived.Test.YtojhkhpgahhacaaPAx3
import Derived.Test.YtojhkhpgahhacaaPAx4
import Derived.Test.YtojhkhpgahhacaaPAx5
import Derived.Test.YtojhkhpgahhacaaPAx6
namespace Go.Proofs.Ytojhkhpgahhacaa.PA
open Go.RowKit Go.Proofs.YtojhkhpgahhacaaW.PrintWords Go.Proofs.YtojhkhpgahhacaaW.PrintLast Go.Proofs.YtojhkhpgahhacaaW.PrintMore
attribute [local go_sem] max2_int min2_int max_two min_two max_three min_three max_four min_four   -- for this text's walks alone
set_option linter.unusedVariables false
set_option linter.unusedSimpArgs false

/-! ### spec_RoughAdd: function 24 -/
mutual
def spec_RoughAdd.j0 : Nat → Int → Int → Bool → List (List Int) → Option ((List (List Int)) × Bool)
  | 0, _, _, _, _ => none
  | k + 1, x1, x2, x28, x138000 => if x28 = true then (some (([] : List (List Int)), false)) else ((spec_l1Copy.f k x138000).bind fun t144 => (spec_RoughAdd.l0 k x1 x2 0 t144))
def spec_RoughAdd.l0 : Nat → Int → Int → Int → List (List Int) → Option ((List (List Int)) × Bool)
  | 0, _, _, _, _ => none
  | k + 1, x1, x2, x9, x148000 => if x9 < 3 then (if 0 ≤ x9 then (if x9 < (x148000.length : Int) then ((spec_l1Place.f x9 x1).bind fun t149 => ((spec_l1Place.f x9 x1).bind fun t151 => (if 0 ≤ t151 then (if t151 < ((rd_L2 x148000 x9).length : Int) then (if 0 ≤ t149 then (if t149 < ((rd_L2 x148000 x9).length : Int) then (spec_RoughAdd.l0 k x1 x2 (wrap64 (x9 + 1)) (x148000.set (x9 : Int).toNat ((rd_L2 x148000 x9).set (t149 : Int).toNat (wrap64 ((rd (rd_L2 x148000 x9) t151) + x2))))) else (none)) else (none)) else (none)) else (none)))) else (none)) else (none)) else (some (x148000, true))
end
def spec_RoughAdd.f (k : Nat) (l0_0 : List (List Int)) (a1 : Int) (a2 : Int) : Option ((List (List Int)) × Bool) := (spec_RoughOk.f k l0_0).bind fun t139 => (if t139 = true then ((spec_l6In.f a1 0 63).bind fun t140 => (if t140 = true then (if 0 < (l0_0.length : Int) then ((spec_l1Sum.f k (rd_L2 l0_0 0)).bind fun t142 => ((spec_l6In.f a2 0 (wrap64 (2000 - t142))).bind fun t143 => (spec_RoughAdd.j0 k a1 a2 (!t143) l0_0))) else (none)) else (spec_RoughAdd.j0 k a1 a2 true l0_0))) else (spec_RoughAdd.j0 k a1 a2 true l0_0))
theorem spec_RoughAdd.mono_l : ∀ k, (∀ y0 y1 y2 y3, LeO (spec_RoughAdd.j0 k y0 y1 y2 y3) (spec_RoughAdd.j0 (k + 1) y0 y1 y2 y3)) ∧ (∀ y0 y1 y2 y3, LeO (spec_RoughAdd.l0 k y0 y1 y2 y3) (spec_RoughAdd.l0 (k + 1) y0 y1 y2 y3))
  | 0 => ⟨fun _ _ _ _ r h => by simp [spec_RoughAdd.j0] at h, fun _ _ _ _ r h => by simp [spec_RoughAdd.l0] at h⟩
  | k + 1 => by
    obtain ⟨ih0, ih1⟩ := spec_RoughAdd.mono_l k
    refine ⟨?_, ?_⟩
    · intro y0 y1 y2 y3
      unfold spec_RoughAdd.j0
      repeat' first
      | (with_reducible exact ih0 _ _ _ _)
      | (with_reducible exact ih1 _ _ _ _)
      | (with_reducible exact spec_RoughOk.mono _ _)
      | (with_reducible exact spec_l1Copy.mono _ _)
      | (with_reducible exact spec_l1Sum.mono _ _)
      | (with_reducible exact LeO.refl _)
      | (with_reducible exact LeO.none _)
      | (with_reducible refine LeO.ite ?_ ?_)
      | (with_reducible refine LeO.bind ?_ (fun _ => ?_))
      | exact ih0 _ _ _ _
      | exact ih1 _ _ _ _
      | exact spec_RoughOk.mono _ _
      | exact spec_l1Copy.mono _ _
      | exact spec_l1Sum.mono _ _
      | exact LeO.none _
      | refine LeO.ite ?_ ?_
      | refine LeO.bind ?_ (fun _ => ?_)
    · intro y0 y1 y2 y3
      unfold spec_RoughAdd.l0
      repeat' first
      | (with_reducible exact ih0 _ _ _ _)
      | (with_reducible exact ih1 _ _ _ _)
      | (with_reducible exact spec_RoughOk.mono _ _)
      | (with_reducible exact spec_l1Copy.mono _ _)
      | (with_reducible exact spec_l1Sum.mono _ _)
      | (with_reducible exact LeO.refl _)
      | (with_reducible exact LeO.none _)
      | (with_reducible refine LeO.ite ?_ ?_)
      | (with_reducible refine LeO.bind ?_ (fun _ => ?_))
      | exact ih0 _ _ _ _
      | exact ih1 _ _ _ _
      | exact spec_RoughOk.mono _ _
      | exact spec_l1Copy.mono _ _
      | exact spec_l1Sum.mono _ _
      | exact LeO.none _
      | refine LeO.ite ?_ ?_
      | refine LeO.bind ?_ (fun _ => ?_)
theorem spec_RoughAdd.mono : ∀ a0 a1 a2 k, LeO (spec_RoughAdd.f k a0 a1 a2) (spec_RoughAdd.f (k + 1) a0 a1 a2) := by
  intro a0 a1 a2 k
  obtain ⟨ih0, ih1⟩ := spec_RoughAdd.mono_l k
  unfold spec_RoughAdd.f
  repeat' first
      | (with_reducible exact ih0 _ _ _ _)
      | (with_reducible exact ih1 _ _ _ _)
      | (with_reducible exact spec_RoughOk.mono _ _)
      | (with_reducible exact spec_l1Copy.mono _ _)
      | (with_reducible exact spec_l1Sum.mono _ _)
      | (with_reducible exact LeO.refl _)
      | (with_reducible exact LeO.none _)
      | (with_reducible refine LeO.ite ?_ ?_)
      | (with_reducible refine LeO.bind ?_ (fun _ => ?_))
      | exact ih0 _ _ _ _
      | exact ih1 _ _ _ _
      | exact spec_RoughOk.mono _ _
      | exact spec_l1Copy.mono _ _
      | exact spec_l1Sum.mono _ _
      | exact LeO.none _
      | refine LeO.ite ?_ ?_
      | refine LeO.bind ?_ (fun _ => ?_)
def spec_RoughAdd.T7 : Bool × List (List Nat × List Nat) := (true, [([], []), ([0], [0]), ([], []), ([1, 2], [1, 2]), ([3], [3]), ([], []), ([], []), ([5, 6], [5, 6]), ([], []), ([8], [8]), ([], []), ([9, 10], [9, 10]), ([11], [11]), ([], []), ([], []), ([13, 14, 7], [13, 14]), ([12, 15], [12, 15]), ([16], [16]), ([], []), ([17, 18], [17, 18]), ([4, 7, 0, 1, 2, 3, 4, 5, 6, 7, 8, 9, 10, 11, 12, 13, 14, 15, 16, 17, 18, 19], [4, 7]), ([20, 19, 15, 0, 1, 2, 3, 4, 5, 6, 7, 8, 9, 10, 11, 12, 13, 14, 15, 16, 17, 18, 19], [19, 20])])
def spec_RoughAdd.B7 : List Nat := [0, 1, 0, 7, 15, 0, 0, 96, 0, 256, 0, 1792, 3840, 0, 0, 24800, 65504, 131040, 0, 524256, 1048575, 2097151]
theorem spec_RoughAdd.tab7 : rtab .any (opsOf Try.f24 7) = spec_RoughAdd.T7 := by kernel_rfl
theorem spec_RoughAdd.bits7 : waitsOk spec_RoughAdd.T7.2 spec_RoughAdd.B7 = true := by kernel_rfl
theorem q24_0 {p : Prop} (h : p := by repeat (first | (with_reducible first | exact HB.out | apply below_alloc | apply pw_below_drewN | apply below_drew1 | refine below_set ?_ GE137.out | refine below_set ?_ GE138.out) | exact HB.out)) : p := h
theorem q24_1 {p : Prop} (h : p := by (with_reducible repeat (first | refine blk_drewN ?_ _ | refine blk_drew ?_ | refine blk_alloc ?_ _)); exact BK137.out) : p := h
theorem q24_2 {p : Prop} (h : p := by (with_reducible repeat (first | refine blk_drewN ?_ _ | refine blk_drew ?_ | refine blk_alloc ?_ _)); exact BK138.out) : p := h
theorem q24_3 {p : Prop} (h : p := by repeat (first | (with_reducible first | exact HB.out | apply below_alloc | apply pw_below_drewN | apply below_drew1 | refine below_set ?_ GE137.out | refine below_set ?_ GE138.out | refine below_set ?_ GE147.out) | exact HB.out)) : p := h
theorem q24_4 {p : Prop} (h : p := by (try simp only [List.map_toArray, List.map_cons, List.map_nil]); first | done | rfl | (simp only [List.length_drop, List.length_take]; rfl)) : p := h
theorem q24_5 {p : Prop} (h : p := by repeat (first | exact (Kd.C_below HR0_0.out HB.out) | (with_reducible refine Kd.C_alloc ?_ _) | (with_reducible refine Kd.C_drewN ?_ _) | (with_reducible refine Kd.C_drew ?_))) : p := h
theorem q24_6 {p : Prop} (h : p := by first | (with_reducible assumption) | assumption) : p := h
theorem q24_7 {p : Prop} (h : p := by repeat (first | (with_reducible exact HR150_0.out) | (with_reducible refine Kd.C_alloc ?_ _) | (with_reducible refine Kd.C_drewN ?_ _) | (with_reducible refine Kd.C_drew ?_) | exact HR150_0.out)) : p := h
theorem q24_8 {p : Prop} (h : p := by repeat (first | (with_reducible first | exact HB.out | apply below_alloc | apply pw_below_drewN | apply below_drew1 | refine below_set ?_ GE137.out) | exact HB.out)) : p := h
theorem q24_9 {p : Prop} (h : p := by (with_reducible repeat (first | refine blk_drewN ?_ _ | refine blk_drew ?_ | refine blk_alloc ?_ _)); refine blk_put (cs := #[.slice none 0 0]) ?_ 0 _ rfl; (with_reducible repeat (first | refine blk_drewN ?_ _ | refine blk_drew ?_ | refine blk_alloc ?_ _)); exact BK138.out) : p := h
theorem q24_10 {p : Prop} (h : p := by repeat (first | (with_reducible first | exact HB.out | apply below_alloc | apply pw_below_drewN | apply below_drew1) | exact HB.out)) : p := h
theorem q24_11 {p : Prop} (h : p := by repeat (first | (with_reducible exact HR148_0.out) | (with_reducible refine Kd.C_alloc ?_ _) | (with_reducible refine Kd.C_drewN ?_ _) | (with_reducible refine Kd.C_drew ?_) | exact HR148_0.out)) : p := h
theorem q24_12 {p : Prop} (h : p := by first | rfl | (simp; done) | (simp [*]; done)) : p := h
theorem q24_13 {p : Prop} (h : p := by (with_reducible repeat (first | refine blk_drewN ?_ _ | refine blk_drew ?_ | refine blk_alloc ?_ _)); exact BK147.out) : p := h
theorem q24_14 {p : Prop} (h : p := by rw [hg]; exact Nat.ne_of_lt (blk_lt (g := gb137) (o := .cells #[.slice A0_0 l0_0.length c0_0] 25 (0, 0)) q24_1)) : p := h
theorem q24_15 {p : Prop} (h : p := by rw [hg]; exact Nat.ne_of_gt (blk_lt (g := gb137) (o := .cells #[.slice A0_0 l0_0.length c0_0] 25 (0, 0)) q24_1)) : p := h
theorem q24_16 {p : Prop} (h : p := by (with_reducible repeat (first | apply Kd.S_alloc | apply Kd.S_drewN | apply Kd.S_drew)); exact HO_148000.out) : p := h
theorem q24_17 {p : Prop} (h : p := by (with_reducible repeat (first | apply Kd.R_alloc | apply Kd.R_drewN | apply Kd.R_drew)); exact HL148_0.out) : p := h
theorem q24_18 {p : Prop} (h : p := by (with_reducible repeat (first | apply Kd.R_alloc | apply Kd.R_drewN | apply Kd.R_drew)); exact HL150_0.out) : p := h
set_option maxHeartbeats 8000000 in
set_option maxRecDepth 100000 in
theorem spec_RoughAdd.calls (k : Nat) (A0_0 : Option Addr) (c0_0 : Nat) (l0_0 : List (List Int)) (a1 : Int) (a2 : Int) (r1 : List (List Int)) (r2 : Bool) (w : World) (hr0_0 : Kd.C (Kd.slice 3 (Kd.int .i64)) w A0_0 l0_0.length l0_0) (hc0_0 : l0_0.length ≤ c0_0) (h : spec_RoughAdd.f k l0_0 a1 a2 = some (r1, r2)) :
    Calls Try.prog 24 #[.agg #[.slice A0_0 l0_0.length c0_0], .int .i64 a1, .int .i64 a2] w fun e w' => ∃ v0_ : Value, e = .returned (.tuple #[.agg #[v0_], .bool r2]) ∧ Kd.S (Kd.slice 3 (Kd.int .i64)) 43 w' w.heap.size (fun _ => True) v0_ r1 ∧ Below w.heap.size w w' := by
  have hu25 := Try.underlying25
  have HR0_0 := Aside0.mk hr0_0
  have HC0_0 := Aside0.mk hc0_0
  clear hr0_0 hc0_0
  have HB := Aside0.mk (Below.refl w.heap.size w)
  have H : ((spec_RoughOk.f k l0_0).bind fun t139 => (if t139 = true then ((spec_l6In.f a1 0 63).bind fun t140 => (if t140 = true then (if 0 < (l0_0.length : Int) then ((spec_l1Sum.f k (rd_L2 l0_0 0)).bind fun t142 => ((spec_l6In.f a2 0 (wrap64 (2000 - t142))).bind fun t143 => (spec_RoughAdd.j0 k a1 a2 (!t143) l0_0))) else (none)) else (spec_RoughAdd.j0 k a1 a2 true l0_0))) else (spec_RoughAdd.j0 k a1 a2 true l0_0))) = some (r1, r2) := h
  clear h
  have HC4 := Aside0.mk H
  clear H
  go_enter Try.func24, Try.ntmps24
  go_upto_region 1 with (first | ((with_reducible refine gate_dst (N := 3) rfl ?_); refine box_event ?hg (N := 3) ?hd (cs := #[.slice A0_0 l0_0.length c0_0]) (t := 25) ?hr ?_; (case hd => rfl); (case hg => rfl); (case hr => first | (go_simp; done) | (go_simp; rfl)); intro gb137 hg w5 hbox hb; have n0_ := Aside0.mk (below_step q24_10 hb); have n1_ := Aside0.mk (hbox); have n2_ := Aside0.mk ((by rw [hg]; exact (below_size q24_10) : w.heap.size ≤ gb137)); have n3_ := Aside0.mk ((by rw [hg]; exact (below_size q24_10) : w.heap.size ≤ gb137)); clear HB; have HB := n0_; have BK137 := n1_; have GW137 := n2_; have GE137 := n3_; clear n0_ n1_ n2_ n3_; clear hb hbox hg) | ((with_reducible refine gate_dst (N := 6) rfl ?_); refine box_event ?hg (N := 6) ?hd (cs := #[.slice none 0 0]) (t := 25) ?hr ?_; (case hd => rfl); (case hg => rfl); (case hr => first | (go_simp; done) | (go_simp; rfl)); intro gb138 hg w6 hbox hb; have n0_ := Aside0.mk (blk_below (g := gb137) (o := .cells #[.slice A0_0 l0_0.length c0_0] 25 (0, 0)) q24_1 hb); have n1_ := Aside0.mk (below_step q24_8 hb); have n2_ := Aside0.mk (hbox); have n3_ := Aside0.mk ((by rw [hg]; exact (below_size q24_8) : w.heap.size ≤ gb138)); have n4_ := Aside0.mk ((by rw [hg]; exact (below_size q24_8) : w.heap.size ≤ gb138)); have n5_ := Aside0.mk ((q24_14 : gb137 ≠ gb138)); have n6_ := Aside0.mk ((q24_15 : gb138 ≠ gb137)); clear BK137; clear HB; have BK137 := n0_; have HB := n1_; have BK138 := n2_; have GW138 := n3_; have GE138 := n4_; have NB137_138 := n5_; have NB138_137 := n6_; clear n0_ n1_ n2_ n3_ n4_ n5_ n6_; clear hb hbox hg))
  (try simp only [Act.put, List.setIfInBounds_toArray, List.set_cons_zero, List.set_cons_succ])
  go_cut [28] (fun v28 wc => ∃ (kq : Nat) (x28_3 : Bool), v28 = .bool x28_3 ∧ Aside0 (spec_RoughAdd.j0 kq a1 a2 x28_3 l0_0 = some (r1, r2)) ∧ Aside0 (kq ≤ k) ∧ Aside0 (wc.heap[gb137]? = some (.cells #[(.slice A0_0 l0_0.length c0_0)] 25 (0, 0))) ∧ Aside0 (wc.heap[gb138]? = some (.cells #[(.slice none 0 0)] 25 (0, 0))) ∧ Aside0 (Below w.heap.size w wc))
  case first =>
    have H := HC4.out
    clear HC4
    replace H := Option.bind_eq_some_iff.mp H
    obtain ⟨t139, A70, H⟩ := H
    replace H : (if t139 = true then ((spec_l6In.f a1 0 63).bind fun t140 => (if t140 = true then (if 0 < (l0_0.length : Int) then ((spec_l1Sum.f k (rd_L2 l0_0 0)).bind fun t142 => ((spec_l6In.f a2 0 (wrap64 (2000 - t142))).bind fun t143 => (spec_RoughAdd.j0 k a1 a2 (!t143) l0_0))) else (none)) else (spec_RoughAdd.j0 k a1 a2 true l0_0))) else (spec_RoughAdd.j0 k a1 a2 true l0_0)) = some (r1, r2) := H
    have A7 := Aside0.mk A70
    clear A70
    by_cases c8 : t139 = true
    · subst c8
      have H1 : ((spec_l6In.f a1 0 63).bind fun t140 => (if t140 = true then (if 0 < (l0_0.length : Int) then ((spec_l1Sum.f k (rd_L2 l0_0 0)).bind fun t142 => ((spec_l6In.f a2 0 (wrap64 (2000 - t142))).bind fun t143 => (spec_RoughAdd.j0 k a1 a2 (!t143) l0_0))) else (none)) else (spec_RoughAdd.j0 k a1 a2 true l0_0))) = some (r1, r2) := by rw [if_pos rfl] at H; exact H
      clear H
      have H := H1
      clear H1
      replace H := Option.bind_eq_some_iff.mp H
      obtain ⟨t140, A90, H⟩ := H
      replace H : (if t140 = true then (if 0 < (l0_0.length : Int) then ((spec_l1Sum.f k (rd_L2 l0_0 0)).bind fun t142 => ((spec_l6In.f a2 0 (wrap64 (2000 - t142))).bind fun t143 => (spec_RoughAdd.j0 k a1 a2 (!t143) l0_0))) else (none)) else (spec_RoughAdd.j0 k a1 a2 true l0_0)) = some (r1, r2) := H
      have A9 := Aside0.mk A90
      clear A90
      by_cases c10 : t140 = true
      · subst c10
        have H1 : (if 0 < (l0_0.length : Int) then ((spec_l1Sum.f k (rd_L2 l0_0 0)).bind fun t142 => ((spec_l6In.f a2 0 (wrap64 (2000 - t142))).bind fun t143 => (spec_RoughAdd.j0 k a1 a2 (!t143) l0_0))) else (none)) = some (r1, r2) := by rw [if_pos rfl] at H; exact H
        clear H
        have H := H1
        clear H1
        by_cases c11 : 0 < (l0_0.length : Int)
        · rw [if_pos c11] at H
          have c11b0 : decide (0 < (l0_0.length : Int)) = true := decide_eq_true c11
          have c11b1 : decide (0 < l0_0.length) = true := decide_eq_true (by omega)
          clear c11
          (first | rw [c11b0] | (simp only [i64_w, i32_w]; rw [c11b0]) | skip)
          replace H := Option.bind_eq_some_iff.mp H
          obtain ⟨t142, A120, H⟩ := H
          replace H : ((spec_l6In.f a2 0 (wrap64 (2000 - t142))).bind fun t143 => (spec_RoughAdd.j0 k a1 a2 (!t143) l0_0)) = some (r1, r2) := H
          have A12 := Aside0.mk A120
          clear A120
          replace H := Option.bind_eq_some_iff.mp H
          obtain ⟨t143, A130, H⟩ := H
          replace H : (spec_RoughAdd.j0 k a1 a2 (!t143) l0_0) = some (r1, r2) := H
          have A13 := Aside0.mk A130
          clear A130
          have H' := Aside0.mk H
          clear H
          have hnb14 := NB137_138.out
          have hnc14 := NB138_137.out
          have hcz15_0 : w6.cell? ⟨gb137, 0, none⟩ = some (.slice A0_0 l0_0.length c0_0) := (blk_cell BK137.out 0).trans rfl
          have hfz15_0 := blk_frozen BK137.out 0
          go_wp2_with (first | ((with_reducible refine gate_callee (f := 33) rfl ?_); refine goesL_ (some 11) rfl rfl Try.func33 (by kernel_rfl) rfl #[.agg #[.slice A0_0 l0_0.length c0_0]] rfl q24_4 ?_; (with_reducible refine (spec_RoughOk.calls k _ _ l0_0 true _ ?side1 ?side2 A7.out).mono ?_); (case side1 => exact q24_5); (case side2 => exact HC0_0.out); rintro e w16 ⟨rfl, hb⟩; refine ⟨_, rfl, ?_⟩; have n0_ := Aside0.mk (blk_below (g := gb137) (o := .cells #[.slice A0_0 l0_0.length c0_0] 25 (0, 0)) q24_1 hb); have n1_ := Aside0.mk (blk_below (g := gb138) (o := .cells #[.slice none 0 0] 25 (0, 0)) q24_2 hb); have n2_ := Aside0.mk (below_step q24_0 hb); clear BK137; clear BK138; clear HB; have BK137 := n0_; have BK138 := n1_; have HB := n2_; clear n0_ n1_ n2_; (try clear hb); (try clear hb2); (try clear hk); (try clear hi)) | (go_at_call 41; (with_reducible refine (spec_l6In.calls a1 0 63 true _ A9.out).mono ?_); rintro e w' ⟨rfl, ⟨nd, rfl⟩⟩; have hcz17_0 : w16.cell? ⟨gb137, 0, none⟩ = some (.slice A0_0 l0_0.length c0_0) := (blk_cell BK137.out 0).trans rfl; have hfz17_0 := blk_frozen BK137.out 0; have p141 : 0 ≤ (0 : Int) := (by omega); have q141 : 0 < (l0_0.length : Int) := of_decide_eq_true q24_6; obtain ⟨ad141, A141_0, c141_0, e141, hx141_0, hl141_0, hi141_0⟩ := at_L2 HR0_0.out 0 p141 q141; cases e141; have qi141 : (0 < l0_0.length) = True := eq_true (by omega); (try rw [show ((0 : Int)).toNat = 0 from rfl] at hx141_0); (try rw [Addr.add_zero'] at hx141_0); replace hx141_0 := (HB.out.cell (World.block_lt_of_cell? w _ hx141_0)).trans hx141_0; have HR141_0 := Aside0.mk hi141_0; have HC141_0 := Aside0.mk hl141_0; clear hi141_0 hl141_0; replace p141 := eq_true p141; replace q141 := eq_true q141) | (go_at_call 34; (with_reducible refine (spec_l1Sum.calls k _ _ (rd_L2 l0_0 0) t142 _ ?side1 ?side2 A12.out).mono ?_); (case side1 => repeat (first | exact (Kd.C_below HR141_0.out q24_0) | (with_reducible refine Kd.C_alloc ?_ _) | (with_reducible refine Kd.C_drewN ?_ _) | (with_reducible refine Kd.C_drew ?_))); (case side2 => exact HC141_0.out); rintro e w' ⟨rfl, ⟨nd, rfl⟩⟩) | (go_at_call 41; (with_reducible refine (spec_l6In.calls a2 0 (wrap64 (2000 - t142)) t143 _ A13.out).mono ?_); rintro e w' ⟨rfl, ⟨nd, rfl⟩⟩))
          go_meet
          case rel => exact ⟨_, (!t143), q24_12, H', ⟨by first | omega | exact Nat.le_refl _⟩, ⟨by (with_reducible repeat (first | refine blk_drewN ?_ _ | refine blk_drew ?_ | refine blk_alloc ?_ _)); exact BK137.out⟩, ⟨by (with_reducible repeat (first | refine blk_drewN ?_ _ | refine blk_drew ?_ | refine blk_alloc ?_ _)); exact BK138.out⟩, ⟨q24_0⟩⟩
        · rw [if_neg c11] at H
          exact absurd H (by simp)
      · replace c10 := Bool.eq_false_iff.mpr c10
        subst c10
        have H1 : (spec_RoughAdd.j0 k a1 a2 true l0_0) = some (r1, r2) := by rw [if_neg (show ¬ (false = true) by decide)] at H; exact H
        clear H
        have H := H1
        clear H1
        have H' := Aside0.mk H
        clear H
        have hnb18 := NB137_138.out
        have hnc18 := NB138_137.out
        have hcz19_0 : w6.cell? ⟨gb137, 0, none⟩ = some (.slice A0_0 l0_0.length c0_0) := (blk_cell BK137.out 0).trans rfl
        have hfz19_0 := blk_frozen BK137.out 0
        go_wp2_with (first | ((with_reducible refine gate_callee (f := 33) rfl ?_); refine goesL_ (some 11) rfl rfl Try.func33 (by kernel_rfl) rfl #[.agg #[.slice A0_0 l0_0.length c0_0]] rfl q24_4 ?_; (with_reducible refine (spec_RoughOk.calls k _ _ l0_0 true _ ?side1 ?side2 A7.out).mono ?_); (case side1 => exact q24_5); (case side2 => exact HC0_0.out); rintro e w20 ⟨rfl, hb⟩; refine ⟨_, rfl, ?_⟩; have n0_ := Aside0.mk (blk_below (g := gb137) (o := .cells #[.slice A0_0 l0_0.length c0_0] 25 (0, 0)) q24_1 hb); have n1_ := Aside0.mk (blk_below (g := gb138) (o := .cells #[.slice none 0 0] 25 (0, 0)) q24_2 hb); have n2_ := Aside0.mk (below_step q24_0 hb); clear BK137; clear BK138; clear HB; have BK137 := n0_; have BK138 := n1_; have HB := n2_; clear n0_ n1_ n2_; (try clear hb); (try clear hb2); (try clear hk); (try clear hi)) | (go_at_call 41; (with_reducible refine (spec_l6In.calls a1 0 63 false _ A9.out).mono ?_); rintro e w' ⟨rfl, ⟨nd, rfl⟩⟩))
        go_meet
        case rel => exact ⟨_, (true), q24_12, H', ⟨by first | omega | exact Nat.le_refl _⟩, ⟨by (with_reducible repeat (first | refine blk_drewN ?_ _ | refine blk_drew ?_ | refine blk_alloc ?_ _)); exact BK137.out⟩, ⟨by (with_reducible repeat (first | refine blk_drewN ?_ _ | refine blk_drew ?_ | refine blk_alloc ?_ _)); exact BK138.out⟩, ⟨q24_0⟩⟩
    · replace c8 := Bool.eq_false_iff.mpr c8
      subst c8
      have H1 : (spec_RoughAdd.j0 k a1 a2 true l0_0) = some (r1, r2) := by rw [if_neg (show ¬ (false = true) by decide)] at H; exact H
      clear H
      have H := H1
      clear H1
      have H' := Aside0.mk H
      clear H
      have hnb21 := NB137_138.out
      have hnc21 := NB138_137.out
      have hcz22_0 : w6.cell? ⟨gb137, 0, none⟩ = some (.slice A0_0 l0_0.length c0_0) := (blk_cell BK137.out 0).trans rfl
      have hfz22_0 := blk_frozen BK137.out 0
      go_wp2_with (first | ((with_reducible refine gate_callee (f := 33) rfl ?_); refine goesL_ (some 11) rfl rfl Try.func33 (by kernel_rfl) rfl #[.agg #[.slice A0_0 l0_0.length c0_0]] rfl q24_4 ?_; (with_reducible refine (spec_RoughOk.calls k _ _ l0_0 false _ ?side1 ?side2 A7.out).mono ?_); (case side1 => exact q24_5); (case side2 => exact HC0_0.out); rintro e w23 ⟨rfl, hb⟩; refine ⟨_, rfl, ?_⟩; have n0_ := Aside0.mk (blk_below (g := gb137) (o := .cells #[.slice A0_0 l0_0.length c0_0] 25 (0, 0)) q24_1 hb); have n1_ := Aside0.mk (blk_below (g := gb138) (o := .cells #[.slice none 0 0] 25 (0, 0)) q24_2 hb); have n2_ := Aside0.mk (below_step q24_0 hb); clear BK137; clear BK138; clear HB; have BK137 := n0_; have BK138 := n1_; have HB := n2_; clear n0_ n1_ n2_; (try clear hb); (try clear hb2); (try clear hk); (try clear hi)))
      go_meet
      case rel => exact ⟨_, (true), q24_12, H', ⟨by first | omega | exact Nat.le_refl _⟩, ⟨by (with_reducible repeat (first | refine blk_drewN ?_ _ | refine blk_drew ?_ | refine blk_alloc ?_ _)); exact BK137.out⟩, ⟨by (with_reducible repeat (first | refine blk_drewN ?_ _ | refine blk_drew ?_ | refine blk_alloc ?_ _)); exact BK138.out⟩, ⟨q24_0⟩⟩
  case rest =>
    clear HC4
    try clear c1
    try clear p1
    try clear q1
    try clear hx1
    try clear qi1
    try clear c2
    try clear p2
    try clear c3
    try clear p6
    try clear c8
    try clear c10
    try clear c11
    try clear c11b0
    try clear c11b1
    try clear c14
    try clear p14
    try clear q14
    try clear hx14
    try clear qi14
    try clear c18
    try clear c21
    try clear hcz15_0
    try clear hcz17_0
    try clear hcz19_0
    try clear hcz22_0
    try clear hfz15_0
    try clear hfz17_0
    try clear hfz19_0
    try clear hfz22_0
    try clear hx141_0
    try clear p141
    try clear q141
    obtain ⟨kq, x28_3, rfl, HA, HJ3, BK137, BK138, HB⟩ := hcut
    cases kq with
    | zero => exact absurd HA.out (by simp [spec_RoughAdd.j0])
    | succ kj3 =>
      have H := HA.out
      clear HA
      simp only [spec_RoughAdd.j0] at H
      by_cases c24 : x28_3 = true
      · subst c24
        have H1 : (some (([] : List (List Int)), false)) = some (r1, r2) := by rw [if_pos rfl] at H; exact H
        clear H
        have H := H1
        clear H1
        simp only [Option.some.injEq, Prod.mk.injEq] at H
        obtain ⟨rfl, rfl⟩ := H
        have hnb25 := NB138_137.out
        have hnc25 := NB137_138.out
        have hcz26_0 : wc.cell? ⟨gb138, 0, none⟩ = some (.slice none 0 0) := (blk_cell BK138.out 0).trans rfl
        have hfz26_0 := blk_frozen BK138.out 0
        go_wp2
        refine bodyPost_ret (results_ct rfl _ _ gb138 25 #[.slice none 0 0] (0, 0) _ rfl q24_9 Try.underlying25 rfl (by kernel_rfl)) rfl ?_
        exact ⟨_, by first | rfl | (simp [errW_none, errW_some] <;> rfl) | (simp [*, errW_none, errW_some] <;> rfl), by first | exact Kd.S_nil _ _ _ _ _ | exact Kd.N_nil _ _ _ _ _ | exact Kd.V_nil _ _ _ _ _ | exact Kd.Q_nil _ _ _ _ _ | exact Kd.R_nil _ _ _ _ _, q24_0⟩
      · replace c24 := Bool.eq_false_iff.mpr c24
        subst c24
        have H1 : ((spec_l1Copy.f kj3 l0_0).bind fun t144 => (spec_RoughAdd.l0 kj3 a1 a2 0 t144)) = some (r1, r2) := by rw [if_neg (show ¬ (false = true) by decide)] at H; exact H
        clear H
        have H := H1
        clear H1
        replace H := Option.bind_eq_some_iff.mp H
        obtain ⟨t144, A270, H⟩ := H
        replace H : (spec_RoughAdd.l0 kj3 a1 a2 0 t144) = some (r1, r2) := H
        have A27 := Aside0.mk A270
        clear A270
        have H' := Aside0.mk H
        clear H
        have hnb28 := NB137_138.out
        have hnc28 := NB138_137.out
        have hcz29_0 : wc.cell? ⟨gb137, 0, none⟩ = some (.slice A0_0 l0_0.length c0_0) := (blk_cell BK137.out 0).trans rfl
        have hfz29_0 := blk_frozen BK137.out 0
        go_wp2_with (first | ((with_reducible refine gate_callee (f := 35) rfl ?_); refine goesL_ (some 31) rfl rfl Try.func35 (by kernel_rfl) rfl #[.agg #[.slice A0_0 l0_0.length c0_0]] rfl q24_4 ?_; (with_reducible refine (spec_l1Copy.calls kj3 _ _ l0_0 t144 _ ?side1 ?side2 A27.out).mono ?_); (case side1 => exact q24_5); (case side2 => exact HC0_0.out); rintro e w30 ⟨v145, rfl, ho0, hb⟩; refine ⟨_, rfl, ?_⟩; have n0_ := Aside0.mk (Kd.S_lower ho0 (below_size q24_0)); have n1_ := Aside0.mk (blk_below (g := gb137) (o := .cells #[.slice A0_0 l0_0.length c0_0] 25 (0, 0)) q24_1 hb); have n2_ := Aside0.mk (blk_below (g := gb138) (o := .cells #[.slice none 0 0] 25 (0, 0)) q24_2 hb); have n3_ := Aside0.mk (below_step q24_0 hb); clear BK137; clear BK138; clear HB; have HO146 := n0_; have BK137 := n1_; have BK138 := n2_; have HB := n3_; clear n0_ n1_ n2_ n3_; (try clear hb); (try clear hb2); (try clear hk); (try clear hi); (try clear ho0)) | ((with_reducible refine gate_dst (N := 8) rfl ?_); refine box_event ?hg (N := 8) ?hd (cs := #[.slice none 0 0]) (t := 25) ?hr ?_; (case hd => rfl); (case hg => rfl); (case hr => first | (go_simp; done) | (go_simp; rfl)); intro gb147 hg w31 hbox hb; have n0_ := Aside0.mk (Kd.S_below (by (with_reducible repeat (first | apply Kd.S_alloc | apply Kd.S_drewN | apply Kd.S_drew)); exact HO146.out) hb); have n1_ := Aside0.mk (blk_below (g := gb137) (o := .cells #[.slice A0_0 l0_0.length c0_0] 25 (0, 0)) q24_1 hb); have n2_ := Aside0.mk (blk_below (g := gb138) (o := .cells #[.slice none 0 0] 25 (0, 0)) q24_2 hb); have n3_ := Aside0.mk (below_step q24_0 hb); have n4_ := Aside0.mk (hbox); have n5_ := Aside0.mk ((by rw [hg]; exact (below_size q24_0) : w.heap.size ≤ gb147)); have n6_ := Aside0.mk ((by rw [hg]; exact (below_size q24_0) : w.heap.size ≤ gb147)); have n7_ := Aside0.mk ((q24_14 : gb137 ≠ gb147)); have n8_ := Aside0.mk ((q24_15 : gb147 ≠ gb137)); have n9_ := Aside0.mk ((by rw [hg]; exact Nat.ne_of_lt (blk_lt (g := gb138) (o := .cells #[.slice none 0 0] 25 (0, 0)) q24_2) : gb138 ≠ gb147)); have n10_ := Aside0.mk ((by rw [hg]; exact Nat.ne_of_gt (blk_lt (g := gb138) (o := .cells #[.slice none 0 0] 25 (0, 0)) q24_2) : gb147 ≠ gb138)); clear HO146; clear BK137; clear BK138; clear HB; have HO146 := n0_; have BK137 := n1_; have BK138 := n2_; have HB := n3_; have BK147 := n4_; have GW147 := n5_; have GE147 := n6_; have NB137_147 := n7_; have NB147_137 := n8_; have NB138_147 := n9_; have NB147_138 := n10_; clear n0_ n1_ n2_ n3_ n4_ n5_ n6_ n7_ n8_ n9_ n10_; clear hb hbox hg; obtain ⟨Ao32, co32, eo32⟩ := Kd.S_slice HO146.out; subst eo32; have hnb33 := NB147_137.out; have hnc33 := NB137_147.out; have hnb34 := NB147_138.out; have hnc34 := NB138_147.out; have hcz35_0 : w31.cell? ⟨gb147, 0, none⟩ = some (.slice none 0 0) := (blk_cell BK147.out 0).trans rfl; have hfz35_0 := blk_frozen BK147.out 0))
        go_loopg [9] kj3 (fun kq v9 w' => ∃ (x9_2 : Int) (x148000_2 : List (List Int)) (u148000 : Value), v9 = .int .i64 x9_2 ∧ Aside0 (spec_RoughAdd.l0 kq a1 a2 x9_2 x148000_2 = some (r1, r2)) ∧ Aside0 (kq ≤ kj3) ∧ Aside0 (Kd.S (Kd.slice 3 (Kd.int .i64)) 43 w' w.heap.size (fun _ => True) u148000 x148000_2) ∧ Aside0 (w'.heap[gb137]? = some (.cells #[(.slice A0_0 l0_0.length c0_0)] 25 (0, 0))) ∧ Aside0 (w'.heap[gb138]? = some (.cells #[(.slice none 0 0)] 25 (0, 0))) ∧ Aside0 (w'.heap[gb147]? = some (.cells #[u148000] 25 (0, 0))) ∧ Aside0 (Below w.heap.size w w'))
        case atStart => exact ⟨(0), (t144), (.slice Ao32 t144.length co32), q24_12, H', ⟨Nat.le_refl _⟩, ⟨by (with_reducible repeat (first | apply Kd.S_alloc | apply Kd.S_drewN | apply Kd.S_drew)); exact Kd.S_mono (Kd.S_far (p := ⟨gb147, 0, none⟩) (Kd.S_types HO146.out BK147.out (by decide)) (fun _ hk => hk.2) (.slice Ao32 t144.length co32)) (fun _ hk => trivial)⟩, ⟨by (with_reducible repeat (first | refine blk_drewN ?_ _ | refine blk_drew ?_ | refine blk_alloc ?_ _)); refine blk_far ?_ NB137_147.out _; (with_reducible repeat (first | refine blk_drewN ?_ _ | refine blk_drew ?_ | refine blk_alloc ?_ _)); exact BK137.out⟩, ⟨by (with_reducible repeat (first | refine blk_drewN ?_ _ | refine blk_drew ?_ | refine blk_alloc ?_ _)); refine blk_far ?_ NB138_147.out _; (with_reducible repeat (first | refine blk_drewN ?_ _ | refine blk_drew ?_ | refine blk_alloc ?_ _)); exact BK138.out⟩, ⟨by (with_reducible repeat (first | refine blk_drewN ?_ _ | refine blk_drew ?_ | refine blk_alloc ?_ _)); refine blk_put (cs := #[.slice none 0 0]) ?_ 0 _ rfl; (with_reducible repeat (first | refine blk_drewN ?_ _ | refine blk_drew ?_ | refine blk_alloc ?_ _)); exact BK147.out⟩, ⟨q24_3⟩⟩
        case round =>
          clear H'
          try clear c1
          try clear p1
          try clear q1
          try clear hx1
          try clear qi1
          try clear c2
          try clear p2
          try clear c3
          try clear p6
          try clear c8
          try clear c10
          try clear c11
          try clear c11b0
          try clear c11b1
          try clear c14
          try clear p14
          try clear q14
          try clear hx14
          try clear qi14
          try clear c18
          try clear c21
          try clear c24
          try clear c25
          try clear c28
          try clear c33
          try clear c34
          try clear c35
          try clear hcz15_0
          try clear hcz17_0
          try clear hcz19_0
          try clear hcz22_0
          try clear hcz26_0
          try clear hcz29_0
          try clear hcz35_0
          try clear hfz15_0
          try clear hfz17_0
          try clear hfz19_0
          try clear hfz22_0
          try clear hfz26_0
          try clear hfz29_0
          try clear hfz35_0
          try clear hx141_0
          try clear p1
          try clear p14
          try clear p141
          try clear p2
          try clear p6
          try clear q1
          try clear q14
          try clear q141
          obtain ⟨x9_2, x148000_2, u148000, rfl, HA, HK2, HO_148000, BK137, BK138, BK147, HB⟩ := hrel
          cases gk with
          | zero => exact absurd HA.out (by simp [spec_RoughAdd.l0])
          | succ k2 =>
            have H := HA.out
            clear HA
            simp only [spec_RoughAdd.l0] at H
            by_cases c36 : x9_2 < 3
            · rw [if_pos c36] at H
              have c36b0 : decide (x9_2 < 3) = true := decide_eq_true c36
              clear c36
              by_cases c37 : 0 ≤ x9_2
              · rw [if_pos c37] at H
                have c37b0 : decide (0 ≤ x9_2) = true := decide_eq_true c37
                clear c37
                by_cases c38 : x9_2 < (x148000_2.length : Int)
                · rw [if_pos c38] at H
                  have c38b0 : decide (x9_2 < (x148000_2.length : Int)) = true := decide_eq_true c38
                  clear c38
                  replace H := Option.bind_eq_some_iff.mp H
                  obtain ⟨t149, A390, H⟩ := H
                  replace H : ((spec_l1Place.f x9_2 a1).bind fun t151 => (if 0 ≤ t151 then (if t151 < ((rd_L2 x148000_2 x9_2).length : Int) then (if 0 ≤ t149 then (if t149 < ((rd_L2 x148000_2 x9_2).length : Int) then (spec_RoughAdd.l0 k2 a1 a2 (wrap64 (x9_2 + 1)) (x148000_2.set (x9_2 : Int).toNat ((rd_L2 x148000_2 x9_2).set (t149 : Int).toNat (wrap64 ((rd (rd_L2 x148000_2 x9_2) t151) + a2))))) else (none)) else (none)) else (none)) else (none))) = some (r1, r2) := H
                  have A39 := Aside0.mk A390
                  clear A390
                  replace H := Option.bind_eq_some_iff.mp H
                  obtain ⟨t151, A400, H⟩ := H
                  replace H : (if 0 ≤ t151 then (if t151 < ((rd_L2 x148000_2 x9_2).length : Int) then (if 0 ≤ t149 then (if t149 < ((rd_L2 x148000_2 x9_2).length : Int) then (spec_RoughAdd.l0 k2 a1 a2 (wrap64 (x9_2 + 1)) (x148000_2.set (x9_2 : Int).toNat ((rd_L2 x148000_2 x9_2).set (t149 : Int).toNat (wrap64 ((rd (rd_L2 x148000_2 x9_2) t151) + a2))))) else (none)) else (none)) else (none)) else (none)) = some (r1, r2) := H
                  have A40 := Aside0.mk A400
                  clear A400
                  by_cases c41 : 0 ≤ t151
                  · rw [if_pos c41] at H
                    have c41b0 : decide (0 ≤ t151) = true := decide_eq_true c41
                    clear c41
                    by_cases c42 : t151 < ((rd_L2 x148000_2 x9_2).length : Int)
                    · rw [if_pos c42] at H
                      have c42b0 : decide (t151 < ((rd_L2 x148000_2 x9_2).length : Int)) = true := decide_eq_true c42
                      clear c42
                      by_cases c43 : 0 ≤ t149
                      · rw [if_pos c43] at H
                        have c43b0 : decide (0 ≤ t149) = true := decide_eq_true c43
                        clear c43
                        by_cases c44 : t149 < ((rd_L2 x148000_2 x9_2).length : Int)
                        · rw [if_pos c44] at H
                          have c44b0 : decide (t149 < ((rd_L2 x148000_2 x9_2).length : Int)) = true := decide_eq_true c44
                          clear c44
                          obtain ⟨y153, hy153⟩ : ∃ y_ : List Int, y_ = ((rd_L2 x148000_2 x9_2).set (t149 : Int).toNat (wrap64 ((rd (rd_L2 x148000_2 x9_2) t151) + a2))) := ⟨_, rfl⟩
                          replace H : (spec_RoughAdd.l0 k2 a1 a2 (wrap64 (x9_2 + 1)) (x148000_2.set (x9_2 : Int).toNat y153)) = some (r1, r2) := by first | (rw [hy153]; with_reducible exact H) | (have H2_ := (Option.bind_some _ _).symm.trans H; rw [hy153]; with_reducible exact H2_) | (have H2_ := (Option.bind_some _ _).symm.trans H; with_reducible exact H2_) | with_reducible exact H | (rw [hy153]; exact H) | exact H
                          have Ny153 := Aside0.mk hy153
                          clear hy153
                          obtain ⟨y155, hy155⟩ : ∃ y_ : List (List Int), y_ = (x148000_2.set (x9_2 : Int).toNat y153) := ⟨_, rfl⟩
                          replace H : (spec_RoughAdd.l0 k2 a1 a2 (wrap64 (x9_2 + 1)) y155) = some (r1, r2) := by first | (rw [hy155]; with_reducible exact H) | (have H2_ := (Option.bind_some _ _).symm.trans H; rw [hy155]; with_reducible exact H2_) | (have H2_ := (Option.bind_some _ _).symm.trans H; with_reducible exact H2_) | with_reducible exact H | (rw [hy155]; exact H) | exact H
                          have Ny155 := Aside0.mk hy155
                          clear hy155
                          have H' := Aside0.mk H
                          clear H
                          try go_wp2
                          have n0_ := Aside0.mk (Kd.S_drew HO_148000.out)
                          have n1_ := Aside0.mk (blk_drew BK137.out)
                          have n2_ := Aside0.mk (blk_drew BK138.out)
                          have n3_ := Aside0.mk (blk_drew BK147.out)
                          have n4_ := Aside0.mk (below_drew1 HB.out)
                          clear HO_148000
                          clear BK137
                          clear BK138
                          clear BK147
                          clear HB
                          have HO_148000 := n0_
                          have BK137 := n1_
                          have BK138 := n2_
                          have BK147 := n3_
                          have HB := n4_
                          clear n0_ n1_ n2_ n3_ n4_
                          obtain ⟨Ao47, co47, eo47⟩ := Kd.S_slice HO_148000.out
                          (first | subst eo47 | (injection eo47 with f1_ f2_ f3_; have f4_ := f1_.symm; have f5_ := f3_.symm; clear f1_ f2_ f3_; subst f4_; subst f5_))
                          have p148 : 0 ≤ (x9_2 : Int) := of_decide_eq_true q24_6
                          have q148 : x9_2 < (x148000_2.length : Int) := of_decide_eq_true q24_6
                          obtain ⟨ad148, A148_0, c148_0, e148, hx148_0, hl148_0, hi148_0⟩ := at_L2 (Kd.S_reads' HO_148000.out).2.2 x9_2 p148 q148
                          cases e148
                          obtain ⟨ce148, hce148, hMe148, hcc148⟩ := Kd.S_get HO_148000.out [] x9_2 p148 (by first | exact q148 | exact of_decide_eq_true q24_6 | (have e_ := (Kd.S_reads' HO_148000.out).1; omega))
                          obtain ⟨ve148_0, rfl, ge148_0⟩ := hMe148
                          have hv148_0 := hcc148 0 _ rfl
                          rw [Nat.add_zero, show ((Kd.slice 3 (Kd.int .i64))).sz = 1 from rfl, Nat.mul_one] at hv148_0
                          replace hv148_0 := Option.some.inj (hv148_0.symm.trans hx148_0)
                          rw [hv148_0] at ge148_0
                          have HL148_0 := Aside0.mk (show Kd.R (Kd.int .i64) 3 _ _ _ _ (rd_L2 x148000_2 x9_2) from ge148_0)
                          clear hv148_0 ge148_0
                          have HX148_0 := Aside0.mk hx148_0
                          clear hcc148 hce148
                          have HR148_0 := Aside0.mk hi148_0
                          have HC148_0 := Aside0.mk hl148_0
                          clear hi148_0 hl148_0
                          replace p148 := eq_true p148
                          replace q148 := eq_true q148
                          have p150 : 0 ≤ (x9_2 : Int) := of_decide_eq_true q24_6
                          have q150 : x9_2 < (x148000_2.length : Int) := of_decide_eq_true q24_6
                          obtain ⟨ad150, A150_0, c150_0, e150, hx150_0, hl150_0, hi150_0⟩ := at_L2 (Kd.S_reads' HO_148000.out).2.2 x9_2 p150 q150
                          obtain rfl : ad148 = ad150 := (by injection e150)
                          obtain ⟨ce150, hce150, hMe150, hcc150⟩ := Kd.S_get HO_148000.out [] x9_2 p150 (by first | exact q150 | exact of_decide_eq_true q24_6 | (have e_ := (Kd.S_reads' HO_148000.out).1; omega))
                          obtain ⟨ve150_0, rfl, ge150_0⟩ := hMe150
                          have hv150_0 := hcc150 0 _ rfl
                          rw [Nat.add_zero, show ((Kd.slice 3 (Kd.int .i64))).sz = 1 from rfl, Nat.mul_one] at hv150_0
                          replace hv150_0 := Option.some.inj (hv150_0.symm.trans hx150_0)
                          rw [hv150_0] at ge150_0
                          have HL150_0 := Aside0.mk (show Kd.R (Kd.int .i64) 3 _ _ _ _ (rd_L2 x148000_2 x9_2) from ge150_0)
                          clear hv150_0 ge150_0
                          have HX150_0 := Aside0.mk hx150_0
                          clear hcc150 hce150
                          have HR150_0 := Aside0.mk hi150_0
                          have HC150_0 := Aside0.mk hl150_0
                          clear hi150_0 hl150_0
                          replace p150 := eq_true p150
                          replace q150 := eq_true q150
                          have ea_ := Option.some.inj (hx148_0.symm.trans hx150_0)
                          injection ea_ with ea_ en_ ec_
                          subst ea_
                          subst ec_
                          clear en_
                          have p152 : 0 ≤ (t151 : Int) := of_decide_eq_true q24_6
                          have q152 : t151 < ((rd_L2 x148000_2 x9_2).length : Int) := of_decide_eq_true q24_6
                          obtain ⟨ad152, e152, hx152_0⟩ := Kd.at_int q24_7 t151 p152 q152
                          cases e152
                          replace p152 := eq_true p152
                          replace q152 := eq_true q152
                          refine start_ (n := 22) (S := fun w' => w'.cell? ⟨gb147, 0, none⟩ = some (.slice (some ad148) x148000_2.length co47) ∧ w'.cell? (ad148.add (x9_2).toNat) = some (.slice (some ad152) (rd_L2 x148000_2 x9_2).length c148_0) ∧ w'.cell? (ad148.add (x9_2).toNat) = some (.slice (some ad152) (rd_L2 x148000_2 x9_2).length c148_0) ∧ w'.cell? (ad152.add (t151).toNat) = some (.int .i64 (rd (rd_L2 x148000_2 x9_2) t151))) (ds := [21]) #[false, false, false, false, false, false, false, false, false, false, false, false, false, false, false, false, false, false, false, false, false, false] (by kernel_rfl) rfl rfl ⟨(blk_cell BK147.out 0).trans rfl, hx148_0, hx150_0, hx152_0⟩ (fun hHeld => ?_); refine with_tabW spec_RoughAdd.tab7 spec_RoughAdd.bits7 (fun HT_ HW_ => ?_)
                          generalize wr.drew = w46 at HO_148000 BK137 BK138 BK147 HB HL148_0 HL150_0 HR148_0 HR150_0 HX148_0 HX150_0 hx148_0 hx150_0 hx152_0 hHeld ⊢
                          refine pure_ (i := 0) (N := some 36) (v := ?_) (a' := ?_) #[true, false, false, false, false, false, false, false, false, false, false, false, false, false, false, false, false, false, false, false, false, false] rfl rfl (any_of HT_.out (by kernel_rfl)) (fun _ _ _ h => h) (Or.inl ⟨by rfl, ?_⟩) ?_ ?_
                          rotate_left
                          · intro w'
                            go_simp
                            with_reducible rfl
                          rotate_left
                          · simp only [Act.put, List.setIfInBounds_toArray, List.set_cons_zero, List.set_cons_succ, i64_w, i32_w]
                            rfl
                          refine pure_ (i := 2) (N := some 38) (v := ?_) (a' := ?_) #[true, false, true, false, false, false, false, false, false, false, false, false, false, false, false, false, false, false, false, false, false, false] rfl rfl (any_of HT_.out (by kernel_rfl)) (fun _ _ _ h => h) (Or.inl ⟨by rfl, ?_⟩) ?_ ?_
                          rotate_left
                          · intro w'
                            go_simp
                            with_reducible rfl
                          rotate_left
                          · simp only [Act.put, List.setIfInBounds_toArray, List.set_cons_zero, List.set_cons_succ, i64_w, i32_w]
                            rfl
                          refine pure_ (i := 5) (N := some 41) (v := ?_) (a' := ?_) #[true, false, true, false, false, true, false, false, false, false, false, false, false, false, false, false, false, false, false, false, false, false] rfl rfl (any_of HT_.out (by kernel_rfl)) (fun _ _ _ h => h) (Or.inl ⟨by rfl, ?_⟩) ?_ ?_
                          rotate_left
                          · intro w'
                            go_simp
                            with_reducible rfl
                          rotate_left
                          · simp only [Act.put, List.setIfInBounds_toArray, List.set_cons_zero, List.set_cons_succ, i64_w, i32_w]
                            rfl
                          refine pure_ (i := 6) (N := some 42) (v := ?_) (a' := ?_) #[true, false, true, false, false, true, true, false, false, false, false, false, false, false, false, false, false, false, false, false, false, false] rfl rfl (any_of HT_.out (by kernel_rfl)) (fun _ _ _ h => h) (Or.inl ⟨by rfl, ?_⟩) ?_ ?_
                          rotate_left
                          · intro w'
                            go_simp
                            with_reducible rfl
                          rotate_left
                          · simp only [Act.put, List.setIfInBounds_toArray, List.set_cons_zero, List.set_cons_succ, i64_w, i32_w]
                            rfl
                          refine pure_ (i := 8) (N := some 44) (v := ?_) (a' := ?_) #[true, false, true, false, false, true, true, false, true, false, false, false, false, false, false, false, false, false, false, false, false, false] rfl rfl (any_of HT_.out (by kernel_rfl)) (fun _ _ _ h => h) (Or.inl ⟨by rfl, ?_⟩) ?_ ?_
                          rotate_left
                          · intro w'
                            go_simp
                            with_reducible rfl
                          rotate_left
                          · simp only [Act.put, List.setIfInBounds_toArray, List.set_cons_zero, List.set_cons_succ, i64_w, i32_w]
                            rfl
                          refine pure_ (i := 10) (N := some 46) (v := ?_) (a' := ?_) #[true, false, true, false, false, true, true, false, true, false, true, false, false, false, false, false, false, false, false, false, false, false] rfl rfl (any_of HT_.out (by kernel_rfl)) (fun _ _ _ h => h) (Or.inl ⟨by rfl, ?_⟩) ?_ ?_
                          rotate_left
                          · intro w'
                            go_simp
                            with_reducible rfl
                          rotate_left
                          · simp only [Act.put, List.setIfInBounds_toArray, List.set_cons_zero, List.set_cons_succ, i64_w, i32_w]
                            rfl
                          refine pure_ (i := 13) (N := some 49) (v := ?_) (a' := ?_) #[true, false, true, false, false, true, true, false, true, false, true, false, false, true, false, false, false, false, false, false, false, false] rfl rfl (any_of HT_.out (by kernel_rfl)) (fun _ _ _ h => h) (Or.inl ⟨by rfl, ?_⟩) ?_ ?_
                          rotate_left
                          · intro w'
                            go_simp
                            with_reducible rfl
                          rotate_left
                          · simp only [Act.put, List.setIfInBounds_toArray, List.set_cons_zero, List.set_cons_succ, i64_w, i32_w]
                            rfl
                          refine pure_ (i := 14) (N := some 50) (v := ?_) (a' := ?_) #[true, false, true, false, false, true, true, false, true, false, true, false, false, true, true, false, false, false, false, false, false, false] rfl rfl (any_of HT_.out (by kernel_rfl)) (fun _ _ _ h => h) (Or.inl ⟨by rfl, ?_⟩) ?_ ?_
                          rotate_left
                          · intro w'
                            go_simp
                            with_reducible rfl
                          rotate_left
                          · simp only [Act.put, List.setIfInBounds_toArray, List.set_cons_zero, List.set_cons_succ, i64_w, i32_w]
                            rfl
                          refine pure_ (i := 18) (N := some 54) (v := ?_) (a' := ?_) #[true, false, true, false, false, true, true, false, true, false, true, false, false, true, true, false, false, false, true, false, false, false] rfl rfl (any_of HT_.out (by kernel_rfl)) (fun _ _ _ h => h) (Or.inl ⟨by rfl, ?_⟩) ?_ ?_
                          rotate_left
                          · intro w'
                            go_simp
                            with_reducible rfl
                          rotate_left
                          · simp only [Act.put, List.setIfInBounds_toArray, List.set_cons_zero, List.set_cons_succ, i64_w, i32_w]
                            rfl
                          refine take_ (i := 1) (N := some 37) (v := ?_) (a' := ?_) #[true, true, true, false, false, true, true, false, true, false, true, false, false, true, true, false, false, false, true, false, false, false] rfl rfl (take_ofW HT_.out HW_.out (by kernel_rfl)) (fun _ _ _ h => h) (Or.inl ⟨by rfl, ?_⟩) hHeld ?_ ?_
                          rotate_left
                          · rintro w' ⟨s0, s1, s2, s3⟩
                            (try simp only [add_plain] at s3)
                            go_simp
                            with_reducible rfl
                          rotate_left
                          · simp only [Act.put, List.setIfInBounds_toArray, List.set_cons_zero, List.set_cons_succ, i64_w, i32_w]
                            rfl
                          refine pure_ (i := 3) (N := some 39) (v := ?_) (a' := ?_) #[true, true, true, true, false, true, true, false, true, false, true, false, false, true, true, false, false, false, true, false, false, false] rfl rfl (any_of HT_.out (by kernel_rfl)) (fun _ _ _ h => h) (Or.inl ⟨by rfl, ?_⟩) ?_ ?_
                          rotate_left
                          · intro w'
                            go_simp
                            with_reducible rfl
                          rotate_left
                          · simp only [Act.put, List.setIfInBounds_toArray, List.set_cons_zero, List.set_cons_succ, i64_w, i32_w]
                            rfl
                          refine take_ (i := 4) (N := some 40) (v := ?_) (a' := ?_) #[true, true, true, true, true, true, true, false, true, false, true, false, false, true, true, false, false, false, true, false, false, false] rfl rfl (take_ofW HT_.out HW_.out (by kernel_rfl)) (fun _ _ _ h => h) (Or.inl ⟨by rfl, ?_⟩) hHeld ?_ ?_
                          rotate_left
                          · rintro w' ⟨s0, s1, s2, s3⟩
                            (try simp only [add_plain] at s3)
                            go_simp
                            with_reducible rfl
                          rotate_left
                          · simp only [Act.put, List.setIfInBounds_toArray, List.set_cons_zero, List.set_cons_succ, i64_w, i32_w]
                            rfl
                          refine take_ (i := 9) (N := some 45) (v := ?_) (a' := ?_) #[true, true, true, true, true, true, true, false, true, true, true, false, false, true, true, false, false, false, true, false, false, false] rfl rfl (take_ofW HT_.out HW_.out (by kernel_rfl)) (fun _ _ _ h => h) (Or.inl ⟨by rfl, ?_⟩) hHeld ?_ ?_
                          rotate_left
                          · rintro w' ⟨s0, s1, s2, s3⟩
                            (try simp only [add_plain] at s3)
                            go_simp
                            with_reducible rfl
                          rotate_left
                          · simp only [Act.put, List.setIfInBounds_toArray, List.set_cons_zero, List.set_cons_succ, i64_w, i32_w]
                            rfl
                          refine pure_ (i := 11) (N := some 47) (v := ?_) (a' := ?_) #[true, true, true, true, true, true, true, false, true, true, true, true, false, true, true, false, false, false, true, false, false, false] rfl rfl (any_of HT_.out (by kernel_rfl)) (fun _ _ _ h => h) (Or.inl ⟨by rfl, ?_⟩) ?_ ?_
                          rotate_left
                          · intro w'
                            go_simp
                            with_reducible rfl
                          rotate_left
                          · simp only [Act.put, List.setIfInBounds_toArray, List.set_cons_zero, List.set_cons_succ, i64_w, i32_w]
                            rfl
                          refine take_ (i := 12) (N := some 48) (v := ?_) (a' := ?_) #[true, true, true, true, true, true, true, false, true, true, true, true, true, true, true, false, false, false, true, false, false, false] rfl rfl (take_ofW HT_.out HW_.out (by kernel_rfl)) (fun _ _ _ h => h) (Or.inl ⟨by rfl, ?_⟩) hHeld ?_ ?_
                          rotate_left
                          · rintro w' ⟨s0, s1, s2, s3⟩
                            (try simp only [add_plain] at s3)
                            go_simp
                            with_reducible rfl
                          rotate_left
                          · simp only [Act.put, List.setIfInBounds_toArray, List.set_cons_zero, List.set_cons_succ, i64_w, i32_w]
                            rfl
                          refine one_ (i := 7) (N := some 43) #[true, true, true, true, true, true, true, true, true, true, true, true, true, true, true, false, false, false, true, false, false, false] rfl rfl (one_of HT_.out (by kernel_rfl)) (by decide) (fun K hK => ?_)
                          refine goes_ Try.func42 (by kernel_rfl) rfl #[.int .i64 x9_2, .int .i64 a1] (by rfl) rfl rfl q24_4 ?_
                          with_reducible refine (spec_l1Place.calls x9_2 a1 t149 _ A39.out).mono ?_
                          rintro e w48 ⟨rfl, hb⟩
                          have HS1_ := (hb.cell (World.block_lt_of_cell? _ _ (hHeld.2.1))).trans (hHeld.2.1)
                          have HS2_ := (hb.cell (World.block_lt_of_cell? _ _ (hHeld.2.2.1))).trans (hHeld.2.2.1)
                          have HS3_ := (hb.cell (World.block_lt_of_cell? _ _ (hHeld.2.2.2))).trans (hHeld.2.2.2)
                          refine ⟨_, rfl, ?_⟩
                          have n0_ := Aside0.mk (Kd.S_below q24_16 hb)
                          have n1_ := Aside0.mk (Kd.R_below q24_17 hb)
                          have n2_ := Aside0.mk (Kd.R_below q24_18 hb)
                          have n3_ := Aside0.mk (blk_below (g := gb137) (o := .cells #[.slice A0_0 l0_0.length c0_0] 25 (0, 0)) q24_1 hb)
                          have n4_ := Aside0.mk (blk_below (g := gb138) (o := .cells #[.slice none 0 0] 25 (0, 0)) q24_2 hb)
                          have n5_ := Aside0.mk (blk_below (g := gb147) (o := .cells #[.slice (some ad148) x148000_2.length co47] 25 (0, 0)) q24_13 hb)
                          have n6_ := Aside0.mk (Kd.C_below q24_11 hb)
                          have n7_ := Aside0.mk (pw_cell_below hb HX148_0.out)
                          have n8_ := Aside0.mk (Kd.C_below q24_7 hb)
                          have n9_ := Aside0.mk (pw_cell_below hb HX150_0.out)
                          have n10_ := Aside0.mk (below_step q24_3 hb)
                          clear HO_148000
                          clear HL148_0
                          clear HL150_0
                          clear BK137
                          clear BK138
                          clear BK147
                          clear HR148_0
                          clear HX148_0
                          clear HR150_0
                          clear HX150_0
                          clear HB
                          have HO_148000 := n0_
                          have HL148_0 := n1_
                          have HL150_0 := n2_
                          have BK137 := n3_
                          have BK138 := n4_
                          have BK147 := n5_
                          have HR148_0 := n6_
                          have HX148_0 := n7_
                          have HR150_0 := n8_
                          have HX150_0 := n9_
                          have HB := n10_
                          clear n0_ n1_ n2_ n3_ n4_ n5_ n6_ n7_ n8_ n9_ n10_
                          (try clear hb)
                          (try clear hb2)
                          (try clear hk)
                          (try clear hi)
                          refine hK.out _ _ ⟨(blk_cell BK147.out 0).trans rfl, HS1_, HS2_, HS3_⟩ (fun hHeld => ?_)
                          clear hK K
                          refine norm_ (a' := ?_) ?_ ?_
                          rotate_left
                          · show Act.put _ (some 43) _ = _
                            simp only [Act.put, List.setIfInBounds_toArray, List.set_cons_zero, List.set_cons_succ, i64_w, i32_w]
                            rfl
                          refine one_ (i := 15) (N := some 51) #[true, true, true, true, true, true, true, true, true, true, true, true, true, true, true, true, false, false, true, false, false, false] rfl rfl (one_of HT_.out (by kernel_rfl)) (by decide) (fun K hK => ?_)
                          refine goes_ Try.func42 (by kernel_rfl) rfl #[.int .i64 x9_2, .int .i64 a1] (by rfl) rfl rfl q24_4 ?_
                          with_reducible refine (spec_l1Place.calls x9_2 a1 t151 _ A40.out).mono ?_
                          rintro e w49 ⟨rfl, hb⟩
                          have HS1_ := (hb.cell (World.block_lt_of_cell? _ _ (hHeld.2.1))).trans (hHeld.2.1)
                          have HS2_ := (hb.cell (World.block_lt_of_cell? _ _ (hHeld.2.2.1))).trans (hHeld.2.2.1)
                          have HS3_ := (hb.cell (World.block_lt_of_cell? _ _ (hHeld.2.2.2))).trans (hHeld.2.2.2)
                          refine ⟨_, rfl, ?_⟩
                          have n0_ := Aside0.mk (Kd.S_below q24_16 hb)
                          have n1_ := Aside0.mk (Kd.R_below q24_17 hb)
                          have n2_ := Aside0.mk (Kd.R_below q24_18 hb)
                          have n3_ := Aside0.mk (blk_below (g := gb137) (o := .cells #[.slice A0_0 l0_0.length c0_0] 25 (0, 0)) q24_1 hb)
                          have n4_ := Aside0.mk (blk_below (g := gb138) (o := .cells #[.slice none 0 0] 25 (0, 0)) q24_2 hb)
                          have n5_ := Aside0.mk (blk_below (g := gb147) (o := .cells #[.slice (some ad148) x148000_2.length co47] 25 (0, 0)) q24_13 hb)
                          have n6_ := Aside0.mk (Kd.C_below q24_11 hb)
                          have n7_ := Aside0.mk (pw_cell_below hb HX148_0.out)
                          have n8_ := Aside0.mk (Kd.C_below q24_7 hb)
                          have n9_ := Aside0.mk (pw_cell_below hb HX150_0.out)
                          have n10_ := Aside0.mk (below_step q24_3 hb)
                          clear HO_148000
                          clear HL148_0
                          clear HL150_0
                          clear BK137
                          clear BK138
                          clear BK147
                          clear HR148_0
                          clear HX148_0
                          clear HR150_0
                          clear HX150_0
                          clear HB
                          have HO_148000 := n0_
                          have HL148_0 := n1_
                          have HL150_0 := n2_
                          have BK137 := n3_
                          have BK138 := n4_
                          have BK147 := n5_
                          have HR148_0 := n6_
                          have HX148_0 := n7_
                          have HR150_0 := n8_
                          have HX150_0 := n9_
                          have HB := n10_
                          clear n0_ n1_ n2_ n3_ n4_ n5_ n6_ n7_ n8_ n9_ n10_
                          (try clear hb)
                          (try clear hb2)
                          (try clear hk)
                          (try clear hi)
                          have hx152_0 := HS3_
                          have p45 : 0 ≤ (t149 : Int) := of_decide_eq_true q24_6
                          have q45 : (t149 : Int) < (((rd_L2 x148000_2 x9_2).length : Int) : Int) := of_decide_eq_true q24_6
                          obtain ⟨go45, co45, eo45, gb45, gl45, cl45, HG45⟩ := Kd.R_form HL148_0.out (by omega)
                          (first | cases eo45 | (injection eo45 with ea_ en_ ec_; (first | subst ea_ | (injection ea_ with ea_; subst ea_)); subst ec_; clear en_))
                          have GB45 := Aside0.mk gb45
                          have GG45 := Aside0.mk HG45
                          clear gb45 gl45 HG45
                          (first | simp only [add_plain] at hx152_0 | skip)
                          obtain ⟨hx45_0, hf45_0⟩ := Kd.R_celln 0 HL148_0.out (t149 : Int) p45 q45
                          replace p45 := eq_true p45
                          replace q45 := eq_true q45
                          have hq50 : (x9_2 : Int) < (x148000_2.length : Int) := (by have h_ : (x9_2 : Int) < ((x148000_2.length : Int) : Int) := of_decide_eq_true q24_6; first | exact h_ | (have e_ := (Kd.S_reads' HO_148000.out).1; omega) | simpa only [List.length_set, List.length_set] using h_)
                          obtain ⟨oki50, ce50, hcl50, hM50, hcc50, hok50, hbk50⟩ := Kd.S_borrow HO_148000.out [] (x9_2 : Int) (of_decide_eq_true q24_6) hq50
                          obtain ⟨ve50_0, rfl, ge50_0⟩ := hM50
                          have hv50 := hcc50 0 _ rfl
                          rw [Nat.add_zero, show ((Kd.slice 3 (Kd.int .i64))).sz = 1 from rfl, Nat.mul_one] at hv50
                          replace hv50 := Option.some.inj (hv50.symm.trans HX148_0.out)
                          subst hv50
                          clear hcc50 hcl50
                          replace ge50_0 := (show Kd.R (Kd.int .i64) 3 _ _ _ _ (rd_L2 x148000_2 x9_2) from ge50_0)
                          have HP50 := Kd.R_putg ge50_0 (t149 : Int) (wrap64 ((rd (rd_L2 x148000_2 x9_2) t151) + a2))
                          rw [← Ny153.out] at HP50
                          have HS50 := hbk50 HP50.2 (fun k_ e_ => by injection e_ with e_; subst e_; exact ge50_0.1 _ rfl) (x' := y153) (Kd.M_row HP50.1)
                          rw [← Ny155.out] at HS50
                          have HQ50 := Aside0.mk HS50
                          clear HP50 HS50 hbk50 hok50
                          refine hK.out _ _ ⟨(blk_cell BK147.out 0).trans rfl, HS1_, HS2_, HS3_⟩ (fun hHeld => ?_)
                          clear hK K
                          refine norm_ (a' := ?_) ?_ ?_
                          rotate_left
                          · show Act.put _ (some 51) _ = _
                            simp only [Act.put, List.setIfInBounds_toArray, List.set_cons_zero, List.set_cons_succ, i64_w, i32_w]
                            rfl
                          refine pure_ (i := 16) (N := some 52) (v := ?_) (a' := ?_) #[true, true, true, true, true, true, true, true, true, true, true, true, true, true, true, true, true, false, true, false, false, false] rfl rfl (any_of HT_.out (by kernel_rfl)) (fun _ _ _ h => h) (Or.inl ⟨by rfl, ?_⟩) ?_ ?_
                          rotate_left
                          · intro w'
                            go_simp
                            with_reducible rfl
                          rotate_left
                          · simp only [Act.put, List.setIfInBounds_toArray, List.set_cons_zero, List.set_cons_succ, i64_w, i32_w]
                            rfl
                          refine take_ (i := 17) (N := some 53) (v := ?_) (a' := ?_) #[true, true, true, true, true, true, true, true, true, true, true, true, true, true, true, true, true, true, true, false, false, false] rfl rfl (take_ofW HT_.out HW_.out (by kernel_rfl)) (fun _ _ _ h => h) (Or.inl ⟨by rfl, ?_⟩) hHeld ?_ ?_
                          rotate_left
                          · rintro w' ⟨s0, s1, s2, s3⟩
                            (try simp only [add_plain] at s3)
                            go_simp
                            with_reducible rfl
                          rotate_left
                          · simp only [Act.put, List.setIfInBounds_toArray, List.set_cons_zero, List.set_cons_succ, i64_w, i32_w]
                            rfl
                          refine pure_ (i := 19) (N := some 55) (v := ?_) (a' := ?_) #[true, true, true, true, true, true, true, true, true, true, true, true, true, true, true, true, true, true, true, true, false, false] rfl rfl (any_of HT_.out (by kernel_rfl)) (fun _ _ _ h => h) (Or.inl ⟨by rfl, ?_⟩) ?_ ?_
                          rotate_left
                          · intro w'
                            go_simp
                            with_reducible rfl
                          rotate_left
                          · simp only [Act.put, List.setIfInBounds_toArray, List.set_cons_zero, List.set_cons_succ, i64_w, i32_w]
                            rfl
                          refine pure_ (i := 20) (N := some 56) (v := ?_) (a' := ?_) #[true, true, true, true, true, true, true, true, true, true, true, true, true, true, true, true, true, true, true, true, true, false] rfl rfl (any_of HT_.out (by kernel_rfl)) (fun _ _ _ h => h) (Or.inl ⟨by rfl, ?_⟩) ?_ ?_
                          rotate_left
                          · intro w'
                            go_simp
                            with_reducible rfl
                          rotate_left
                          · simp only [Act.put, List.setIfInBounds_toArray, List.set_cons_zero, List.set_cons_succ, i64_w, i32_w]
                            rfl
                          refine last_ (i := 21) (N := none) #[true, true, true, true, true, true, true, true, true, true, true, true, true, true, true, true, true, true, true, true, true, true] rfl rfl (one_of HT_.out (by kernel_rfl)) (by decide) (fun K hK => ?_)
                          refine skip_ (w1 := ?_) (by rfl) rfl ?_ ?_
                          rotate_left
                          · go_simp
                            rfl
                          refine hK.out _ _ ?_
                          clear hK K
                          refine done_ (done_of HT_.out (by kernel_rfl)) ?_
                          try go_wp2
                          go_roundg k2
                          case measure => have := HJ3.out; have := HK2.out; omega
                          case rel => exact ⟨(wrap64 (x9_2 + 1)), (y155), (.slice (some ad148) x148000_2.length co47), q24_12, H', ⟨by have := HJ3.out; have := HK2.out; omega⟩, ⟨by (with_reducible repeat (first | apply Kd.S_alloc | apply Kd.S_drewN | apply Kd.S_drew)); exact HQ50.out⟩, ⟨by (with_reducible repeat (first | refine blk_drewN ?_ _ | refine blk_drew ?_ | refine blk_alloc ?_ _)); refine blk_far ?_ (by have h_ := Kd.R_ne HL148_0.out BK137.out (by decide); intro e_; exact h_ (by rw [e_]; rfl)) _; (with_reducible repeat (first | refine blk_drewN ?_ _ | refine blk_drew ?_ | refine blk_alloc ?_ _)); exact BK137.out⟩, ⟨by (with_reducible repeat (first | refine blk_drewN ?_ _ | refine blk_drew ?_ | refine blk_alloc ?_ _)); refine blk_far ?_ (by have h_ := Kd.R_ne HL148_0.out BK138.out (by decide); intro e_; exact h_ (by rw [e_]; rfl)) _; (with_reducible repeat (first | refine blk_drewN ?_ _ | refine blk_drew ?_ | refine blk_alloc ?_ _)); exact BK138.out⟩, ⟨by (with_reducible repeat (first | refine blk_drewN ?_ _ | refine blk_drew ?_ | refine blk_alloc ?_ _)); refine blk_far ?_ (by have h_ := Kd.R_ne HL148_0.out BK147.out (by decide); intro e_; exact h_ (by rw [e_]; rfl)) _; (with_reducible repeat (first | refine blk_drewN ?_ _ | refine blk_drew ?_ | refine blk_alloc ?_ _)); exact BK147.out⟩, ⟨by repeat (first | (with_reducible first | exact HB.out | apply below_alloc | apply pw_below_drewN | apply below_drew1 | refine below_set ?_ GB45.out | refine below_set ?_ GE137.out | refine below_set ?_ GE138.out | refine below_set ?_ GE147.out) | exact HB.out)⟩⟩
                        · rw [if_neg c44] at H
                          exact absurd H (by simp)
                      · rw [if_neg c43] at H
                        exact absurd H (by simp)
                    · rw [if_neg c42] at H
                      exact absurd H (by simp)
                  · rw [if_neg c41] at H
                    exact absurd H (by simp)
                · rw [if_neg c38] at H
                  exact absurd H (by simp)
              · rw [if_neg c37] at H
                exact absurd H (by simp)
            · rw [if_neg c36] at H
              have c36b0 : decide (x9_2 < 3) = false := decide_eq_false c36
              clear c36
              simp only [Option.some.injEq, Prod.mk.injEq] at H
              obtain ⟨rfl, rfl⟩ := H
              have hnb52 := NB147_137.out
              have hnc52 := NB137_147.out
              have hnb53 := NB147_138.out
              have hnc53 := NB138_147.out
              have hcz54_0 : wr.cell? ⟨gb147, 0, none⟩ = some (u148000) := (blk_cell BK147.out 0).trans rfl
              have hfz54_0 := blk_frozen BK147.out 0
              obtain ⟨Ao55, co55, eo55⟩ := Kd.S_slice HO_148000.out
              subst eo55
              have hnb56 := NB138_137.out
              have hnc56 := NB137_138.out
              have hcz57_0 : wr.cell? ⟨gb138, 0, none⟩ = some (.slice none 0 0) := (blk_cell BK138.out 0).trans rfl
              have hfz57_0 := blk_frozen BK138.out 0
              go_wp2
              refine bodyPost_ret (results_ct rfl _ _ gb138 25 #[.slice Ao55 x148000_2.length co55] (0, 0) _ rfl q24_9 Try.underlying25 rfl (by kernel_rfl)) rfl ?_
              exact ⟨_, by first | rfl | (simp [errW_none, errW_some] <;> rfl) | (simp [*, errW_none, errW_some] <;> rfl), by (with_reducible repeat (first | apply Kd.S_alloc | apply Kd.S_drewN | apply Kd.S_drew)); exact Kd.S_mono (Kd.S_far (p := ⟨gb138, 0, none⟩) (Kd.S_types HO_148000.out BK138.out (by decide)) (fun _ hk => hk.2) (.slice Ao55 x148000_2.length co55)) (fun _ hk => trivial), q24_3⟩

end Go.Proofs.Ytojhkhpgahhacaa.PA
