-- Made by a program of this session (wip/tools/pr2.sh) out of the translation, by way of the printer: shared by the seat's laws.
import Derived.Test.YtojhkhpgahhacaaPAx0
import Derived.Test.YtojhkhpgahhacaaPAx22
namespace Go.Proofs.Ytojhkhpgahhacaa.PA
open Go.RowKit Go.Proofs.YtojhkhpgahhacaaW.PrintWords Go.Proofs.YtojhkhpgahhacaaW.PrintLast Go.Proofs.YtojhkhpgahhacaaW.PrintMore
attribute [local go_sem] max2_int min2_int max_two min_two max_three min_three max_four min_four   -- for this text's walks alone
set_option linter.unusedVariables false
set_option linter.unusedSimpArgs false

/-! ### laws_lkRough: function 15 -/
def laws_lkRough.l0 : Nat → Int → List (List Int) → List (List Int) → Option (Bool)
  | 0, _, _, _ => none
  | k + 1, x5, x282000, x283000 => if x5 < (x282000.length : Int) then (if 0 ≤ x5 then (if x5 < (x283000.length : Int) then ((laws_lkInts.f k (rd_L2 x282000 x5) (rd_L2 x283000 x5)).bind fun t285 => (if t285 = true then (laws_lkRough.l0 k (wrap64 (x5 + 1)) x282000 x283000) else (some false))) else (none)) else (none)) else (some true)
def laws_lkRough.f (k : Nat) (l0_0 : List (List Int)) (l1_0 : List (List Int)) : Option (Bool) := if (l0_0.length : Int) = (l1_0.length : Int) then (laws_lkRough.l0 k 0 l0_0 l1_0) else (some false)
theorem laws_lkRough.mono_l : ∀ k, (∀ y0 y1 y2, LeO (laws_lkRough.l0 k y0 y1 y2) (laws_lkRough.l0 (k + 1) y0 y1 y2))
  | 0 => fun _ _ _ r h => by simp [laws_lkRough.l0] at h
  | k + 1 => by
    have ih0 := laws_lkRough.mono_l k
    · intro y0 y1 y2
      unfold laws_lkRough.l0
      repeat' first
      | (with_reducible exact ih0 _ _ _)
      | (with_reducible exact laws_lkInts.mono _ _ _)
      | (with_reducible exact LeO.refl _)
      | (with_reducible exact LeO.none _)
      | (with_reducible refine LeO.ite ?_ ?_)
      | (with_reducible refine LeO.bind ?_ (fun _ => ?_))
      | exact ih0 _ _ _
      | exact laws_lkInts.mono _ _ _
      | exact LeO.none _
      | refine LeO.ite ?_ ?_
      | refine LeO.bind ?_ (fun _ => ?_)
theorem laws_lkRough.mono : ∀ a0 a1 k, LeO (laws_lkRough.f k a0 a1) (laws_lkRough.f (k + 1) a0 a1) := by
  intro a0 a1 k
  have ih0 := laws_lkRough.mono_l k
  unfold laws_lkRough.f
  repeat' first
      | (with_reducible exact ih0 _ _ _)
      | (with_reducible exact laws_lkInts.mono _ _ _)
      | (with_reducible exact LeO.refl _)
      | (with_reducible exact LeO.none _)
      | (with_reducible refine LeO.ite ?_ ?_)
      | (with_reducible refine LeO.bind ?_ (fun _ => ?_))
      | exact ih0 _ _ _
      | exact laws_lkInts.mono _ _ _
      | exact LeO.none _
      | refine LeO.ite ?_ ?_
      | refine LeO.bind ?_ (fun _ => ?_)
theorem q15_0 {p : Prop} (h : p := by repeat (first | (with_reducible first | exact HB.out | apply below_alloc | apply pw_below_drewN | apply below_drew1 | refine below_set ?_ GE281.out) | exact HB.out)) : p := h
theorem q15_1 {p : Prop} (h : p := by repeat (first | (with_reducible first | exact HB.out | apply below_alloc | apply pw_below_drewN | apply below_drew1) | exact HB.out)) : p := h
theorem q15_2 {p : Prop} (h : p := by (with_reducible repeat (first | refine blk_drewN ?_ _ | refine blk_drew ?_ | refine blk_alloc ?_ _)); exact BK281.out) : p := h
theorem q15_3 {p : Prop} (h : p := by repeat (first | exact (Kd.C_below HR283_0.out HB.out) | (with_reducible refine Kd.C_alloc ?_ _) | (with_reducible refine Kd.C_drewN ?_ _) | (with_reducible refine Kd.C_drew ?_))) : p := h
theorem q15_4 {p : Prop} (h : p := by repeat (first | exact (Kd.C_below HR284_0.out HB.out) | (with_reducible refine Kd.C_alloc ?_ _) | (with_reducible refine Kd.C_drewN ?_ _) | (with_reducible refine Kd.C_drew ?_))) : p := h
theorem q15_5 {p : Prop} (h : p := by repeat (first | (with_reducible first | exact HB.out | apply below_alloc | apply pw_below_drewN | apply below_drew1 | refine below_set ?_ GE281.out | refine below_set ?_ GE282.out) | exact HB.out)) : p := h
theorem q15_6 {p : Prop} (h : p := by rw [hg]; exact Nat.ne_of_lt (blk_lt (g := gb281) (o := .cells #[.slice A0_0 l0_0.length c0_0] 25 (0, 0)) q15_2)) : p := h
theorem q15_7 {p : Prop} (h : p := by rw [hg]; exact Nat.ne_of_gt (blk_lt (g := gb281) (o := .cells #[.slice A0_0 l0_0.length c0_0] 25 (0, 0)) q15_2)) : p := h
theorem q15_8 {p : Prop} (h : p := by first | (go_simp; done) | (go_simp; rfl)) : p := h
theorem q15_9 {p : Prop} (h : p := by rw [hg]; exact (below_size q15_1)) : p := h
theorem q15_10 {p : Prop} (h : p := by rw [hg]; exact (below_size q15_0)) : p := h
theorem q15_11 {p : Prop} (h : p := by first | (with_reducible assumption) | assumption) : p := h
theorem q15_12 {p : Prop} (h : p := by first | rfl | (simp [errW_none, errW_some] <;> rfl) | (simp [*, errW_none, errW_some] <;> rfl)) : p := h
set_option maxHeartbeats 8000000 in
set_option maxRecDepth 100000 in
theorem laws_lkRough.calls (k : Nat) (A0_0 : Option Addr) (c0_0 : Nat) (l0_0 : List (List Int)) (A1_0 : Option Addr) (c1_0 : Nat) (l1_0 : List (List Int)) (r : Bool) (w : World) (hr0_0 : Kd.C (Kd.slice 3 (Kd.int .i64)) w A0_0 l0_0.length l0_0) (hc0_0 : l0_0.length ≤ c0_0) (hr1_0 : Kd.C (Kd.slice 3 (Kd.int .i64)) w A1_0 l1_0.length l1_0) (hc1_0 : l1_0.length ≤ c1_0) (h : laws_lkRough.f k l0_0 l1_0 = some r) :
    Calls Try.prog 15 #[.agg #[.slice A0_0 l0_0.length c0_0], .agg #[.slice A1_0 l1_0.length c1_0]] w fun e w' => e = .returned (.bool r) ∧ Below w.heap.size w w' := by
  have hu25 := Try.underlying25
  have HR0_0 := Aside0.mk hr0_0
  have HC0_0 := Aside0.mk hc0_0
  clear hr0_0 hc0_0
  have HR1_0 := Aside0.mk hr1_0
  have HC1_0 := Aside0.mk hc1_0
  clear hr1_0 hc1_0
  have HB := Aside0.mk (Below.refl w.heap.size w)
  have H : (if (l0_0.length : Int) = (l1_0.length : Int) then (laws_lkRough.l0 k 0 l0_0 l1_0) else (some false)) = some r := h
  clear h
  by_cases c3 : (l0_0.length : Int) = (l1_0.length : Int)
  · rw [if_pos c3] at H
    have c3b0 : ((l0_0.length : Int) == (l1_0.length : Int)) = true := beq_iff_eq.mpr c3
    have c3b1 : ((l0_0.length : Int) != (l1_0.length : Int)) = false := bne_eq_false_iff_eq.mpr c3
    have c3b2 : (l0_0.length == l1_0.length) = true := by first | simpa using c3 | (simp at c3 ⊢; omega)
    clear c3
    have H' := Aside0.mk H
    clear H
    go_enter Try.func15, Try.ntmps15
    go_wp2_with (first | ((with_reducible refine gate_dst (N := 2) rfl ?_); refine box_event ?hg (N := 2) ?hd (cs := #[.slice A0_0 l0_0.length c0_0]) (t := 25) ?hr ?_; (case hd => rfl); (case hg => rfl); (case hr => exact q15_8); intro gb281 hg w4 hbox hb; have n0_ := Aside0.mk (below_step q15_1 hb); have n1_ := Aside0.mk (hbox); have n2_ := Aside0.mk ((q15_9 : w.heap.size ≤ gb281)); have n3_ := Aside0.mk ((q15_9 : w.heap.size ≤ gb281)); clear HB; have HB := n0_; have BK281 := n1_; have GW281 := n2_; have GE281 := n3_; clear n0_ n1_ n2_ n3_; clear hb hbox hg) | ((with_reducible refine gate_dst (N := 3) rfl ?_); refine box_event ?hg (N := 3) ?hd (cs := #[.slice A1_0 l1_0.length c1_0]) (t := 25) ?hr ?_; (case hd => rfl); (case hg => rfl); (case hr => exact q15_8); intro gb282 hg w5 hbox hb; have n0_ := Aside0.mk (blk_below (g := gb281) (o := .cells #[.slice A0_0 l0_0.length c0_0] 25 (0, 0)) q15_2 hb); have n1_ := Aside0.mk (below_step q15_0 hb); have n2_ := Aside0.mk (hbox); have n3_ := Aside0.mk ((q15_10 : w.heap.size ≤ gb282)); have n4_ := Aside0.mk ((q15_10 : w.heap.size ≤ gb282)); have n5_ := Aside0.mk ((q15_6 : gb281 ≠ gb282)); have n6_ := Aside0.mk ((q15_7 : gb282 ≠ gb281)); clear BK281; clear HB; have BK281 := n0_; have HB := n1_; have BK282 := n2_; have GW282 := n3_; have GE282 := n4_; have NB281_282 := n5_; have NB282_281 := n6_; clear n0_ n1_ n2_ n3_ n4_ n5_ n6_; clear hb hbox hg; have hnb6 := NB281_282.out; have hnc6 := NB282_281.out; have hcz7_0 : w5.cell? ⟨gb281, 0, none⟩ = some (.slice A0_0 l0_0.length c0_0) := (blk_cell BK281.out 0).trans rfl; have hfz7_0 := blk_frozen BK281.out 0; have hcz8_0 : w5.cell? ⟨gb282, 0, none⟩ = some (.slice A1_0 l1_0.length c1_0) := (blk_cell BK282.out 0).trans rfl; have hfz8_0 := blk_frozen BK282.out 0))
    repeat (go_quiet (first | ((with_reducible refine gate_dst (N := 2) rfl ?_); refine box_event ?hg (N := 2) ?hd (cs := #[.slice A0_0 l0_0.length c0_0]) (t := 25) ?hr ?_; (case hd => rfl); (case hg => rfl); (case hr => exact q15_8); intro gb281 hg w4 hbox hb; have n0_ := Aside0.mk (below_step q15_1 hb); have n1_ := Aside0.mk (hbox); have n2_ := Aside0.mk ((q15_9 : w.heap.size ≤ gb281)); have n3_ := Aside0.mk ((q15_9 : w.heap.size ≤ gb281)); clear HB; have HB := n0_; have BK281 := n1_; have GW281 := n2_; have GE281 := n3_; clear n0_ n1_ n2_ n3_; clear hb hbox hg) | ((with_reducible refine gate_dst (N := 3) rfl ?_); refine box_event ?hg (N := 3) ?hd (cs := #[.slice A1_0 l1_0.length c1_0]) (t := 25) ?hr ?_; (case hd => rfl); (case hg => rfl); (case hr => exact q15_8); intro gb282 hg w5 hbox hb; have n0_ := Aside0.mk (blk_below (g := gb281) (o := .cells #[.slice A0_0 l0_0.length c0_0] 25 (0, 0)) q15_2 hb); have n1_ := Aside0.mk (below_step q15_0 hb); have n2_ := Aside0.mk (hbox); have n3_ := Aside0.mk ((q15_10 : w.heap.size ≤ gb282)); have n4_ := Aside0.mk ((q15_10 : w.heap.size ≤ gb282)); have n5_ := Aside0.mk ((q15_6 : gb281 ≠ gb282)); have n6_ := Aside0.mk ((q15_7 : gb282 ≠ gb281)); clear BK281; clear HB; have BK281 := n0_; have HB := n1_; have BK282 := n2_; have GW282 := n3_; have GE282 := n4_; have NB281_282 := n5_; have NB282_281 := n6_; clear n0_ n1_ n2_ n3_ n4_ n5_ n6_; clear hb hbox hg; have hnb6 := NB281_282.out; have hnc6 := NB282_281.out; have hcz7_0 : w5.cell? ⟨gb281, 0, none⟩ = some (.slice A0_0 l0_0.length c0_0) := (blk_cell BK281.out 0).trans rfl; have hfz7_0 := blk_frozen BK281.out 0; have hcz8_0 : w5.cell? ⟨gb282, 0, none⟩ = some (.slice A1_0 l1_0.length c1_0) := (blk_cell BK282.out 0).trans rfl; have hfz8_0 := blk_frozen BK282.out 0)); try go_wp2_with (first | ((with_reducible refine gate_dst (N := 2) rfl ?_); refine box_event ?hg (N := 2) ?hd (cs := #[.slice A0_0 l0_0.length c0_0]) (t := 25) ?hr ?_; (case hd => rfl); (case hg => rfl); (case hr => exact q15_8); intro gb281 hg w4 hbox hb; have n0_ := Aside0.mk (below_step q15_1 hb); have n1_ := Aside0.mk (hbox); have n2_ := Aside0.mk ((q15_9 : w.heap.size ≤ gb281)); have n3_ := Aside0.mk ((q15_9 : w.heap.size ≤ gb281)); clear HB; have HB := n0_; have BK281 := n1_; have GW281 := n2_; have GE281 := n3_; clear n0_ n1_ n2_ n3_; clear hb hbox hg) | ((with_reducible refine gate_dst (N := 3) rfl ?_); refine box_event ?hg (N := 3) ?hd (cs := #[.slice A1_0 l1_0.length c1_0]) (t := 25) ?hr ?_; (case hd => rfl); (case hg => rfl); (case hr => exact q15_8); intro gb282 hg w5 hbox hb; have n0_ := Aside0.mk (blk_below (g := gb281) (o := .cells #[.slice A0_0 l0_0.length c0_0] 25 (0, 0)) q15_2 hb); have n1_ := Aside0.mk (below_step q15_0 hb); have n2_ := Aside0.mk (hbox); have n3_ := Aside0.mk ((q15_10 : w.heap.size ≤ gb282)); have n4_ := Aside0.mk ((q15_10 : w.heap.size ≤ gb282)); have n5_ := Aside0.mk ((q15_6 : gb281 ≠ gb282)); have n6_ := Aside0.mk ((q15_7 : gb282 ≠ gb281)); clear BK281; clear HB; have BK281 := n0_; have HB := n1_; have BK282 := n2_; have GW282 := n3_; have GE282 := n4_; have NB281_282 := n5_; have NB282_281 := n6_; clear n0_ n1_ n2_ n3_ n4_ n5_ n6_; clear hb hbox hg; have hnb6 := NB281_282.out; have hnc6 := NB282_281.out; have hcz7_0 : w5.cell? ⟨gb281, 0, none⟩ = some (.slice A0_0 l0_0.length c0_0) := (blk_cell BK281.out 0).trans rfl; have hfz7_0 := blk_frozen BK281.out 0; have hcz8_0 : w5.cell? ⟨gb282, 0, none⟩ = some (.slice A1_0 l1_0.length c1_0) := (blk_cell BK282.out 0).trans rfl; have hfz8_0 := blk_frozen BK282.out 0)))
    go_loopg [5] k (fun kq v5 w' => ∃ (x5_1 : Int), v5 = .int .i64 x5_1 ∧ Aside0 (laws_lkRough.l0 kq x5_1 l0_0 l1_0 = some r) ∧ Aside0 (kq ≤ k) ∧ Aside0 (w'.heap[gb281]? = some (.cells #[(.slice A0_0 l0_0.length c0_0)] 25 (0, 0))) ∧ Aside0 (w'.heap[gb282]? = some (.cells #[(.slice A1_0 l1_0.length c1_0)] 25 (0, 0))) ∧ Aside0 (Below w.heap.size w w'))
    case atStart => exact ⟨(0), (by first | rfl | (simp; done) | (simp [*]; done)), H', ⟨Nat.le_refl _⟩, ⟨by (with_reducible repeat (first | refine blk_drewN ?_ _ | refine blk_drew ?_ | refine blk_alloc ?_ _)); exact BK281.out⟩, ⟨by (with_reducible repeat (first | refine blk_drewN ?_ _ | refine blk_drew ?_ | refine blk_alloc ?_ _)); exact BK282.out⟩, ⟨q15_5⟩⟩
    case round =>
      clear H'
      try clear c1
      try clear p2
      try clear c3
      try clear c3b0
      try clear c3b1
      try clear c3b2
      try clear c6
      try clear hcz7_0
      try clear hcz8_0
      try clear hfz7_0
      try clear hfz8_0
      obtain ⟨x5_1, rfl, HA, HK1, BK281, BK282, HB⟩ := hrel
      cases gk with
      | zero => exact absurd HA.out (by simp [laws_lkRough.l0])
      | succ k1 =>
        have H := HA.out
        clear HA
        simp only [laws_lkRough.l0] at H
        by_cases c9 : x5_1 < (l0_0.length : Int)
        · rw [if_pos c9] at H
          have c9b0 : decide (x5_1 < (l0_0.length : Int)) = true := decide_eq_true c9
          clear c9
          by_cases c10 : 0 ≤ x5_1
          · rw [if_pos c10] at H
            have c10b0 : decide (0 ≤ x5_1) = true := decide_eq_true c10
            clear c10
            by_cases c11 : x5_1 < (l1_0.length : Int)
            · rw [if_pos c11] at H
              have c11b0 : decide (x5_1 < (l1_0.length : Int)) = true := decide_eq_true c11
              clear c11
              replace H := Option.bind_eq_some_iff.mp H
              obtain ⟨t285, A120, H⟩ := H
              replace H : (if t285 = true then (laws_lkRough.l0 k1 (wrap64 (x5_1 + 1)) l0_0 l1_0) else (some false)) = some r := H
              have A12 := Aside0.mk A120
              clear A120
              by_cases c13 : t285 = true
              · subst c13
                have H1 : (laws_lkRough.l0 k1 (wrap64 (x5_1 + 1)) l0_0 l1_0) = some r := by rw [if_pos rfl] at H; exact H
                clear H
                have H := H1
                clear H1
                have H' := Aside0.mk H
                clear H
                have hnb14 := NB281_282.out
                have hnc14 := NB282_281.out
                have hcz15_0 : wr.cell? ⟨gb281, 0, none⟩ = some (.slice A0_0 l0_0.length c0_0) := (blk_cell BK281.out 0).trans rfl
                have hfz15_0 := blk_frozen BK281.out 0
                have p283 : 0 ≤ (x5_1 : Int) := of_decide_eq_true q15_11
                have q283 : x5_1 < (l0_0.length : Int) := of_decide_eq_true q15_11
                obtain ⟨ad283, A283_0, c283_0, e283, hx283_0, hl283_0, hi283_0⟩ := at_L2 HR0_0.out x5_1 p283 q283
                cases e283
                replace hx283_0 := (HB.out.cell (World.block_lt_of_cell? w _ hx283_0)).trans hx283_0
                have HR283_0 := Aside0.mk hi283_0
                have HC283_0 := Aside0.mk hl283_0
                clear hi283_0 hl283_0
                replace p283 := eq_true p283
                replace q283 := eq_true q283
                have hcz16_0 : wr.cell? ⟨gb282, 0, none⟩ = some (.slice A1_0 l1_0.length c1_0) := (blk_cell BK282.out 0).trans rfl
                have hfz16_0 := blk_frozen BK282.out 0
                have p284 : 0 ≤ (x5_1 : Int) := of_decide_eq_true q15_11
                have q284 : x5_1 < (l1_0.length : Int) := of_decide_eq_true q15_11
                obtain ⟨ad284, A284_0, c284_0, e284, hx284_0, hl284_0, hi284_0⟩ := at_L2 HR1_0.out x5_1 p284 q284
                cases e284
                replace hx284_0 := (HB.out.cell (World.block_lt_of_cell? w _ hx284_0)).trans hx284_0
                have HR284_0 := Aside0.mk hi284_0
                have HC284_0 := Aside0.mk hl284_0
                clear hi284_0 hl284_0
                replace p284 := eq_true p284
                replace q284 := eq_true q284
                go_wp2_with (first | (go_at_call 37; (with_reducible refine (laws_lkInts.calls k1 _ _ (rd_L2 l0_0 x5_1) _ _ (rd_L2 l1_0 x5_1) true _ ?side1 ?side2 ?side3 ?side4 A12.out).mono ?_); (case side1 => exact q15_3); (case side2 => exact HC283_0.out); (case side3 => exact q15_4); (case side4 => exact HC284_0.out); rintro e w' ⟨rfl, ⟨nd, rfl⟩⟩; (try first | exact ⟨rfl, _, World.drewN_drewN _ _ _⟩ | exact ⟨rfl, _, Eq.trans (World.drewN_drewN _ _ _) (congrArg (World.drewN _) (Nat.add_assoc _ _ _))⟩)))
                repeat (go_quiet (first | (go_at_call 37; (with_reducible refine (laws_lkInts.calls k1 _ _ (rd_L2 l0_0 x5_1) _ _ (rd_L2 l1_0 x5_1) true _ ?side1 ?side2 ?side3 ?side4 A12.out).mono ?_); (case side1 => exact q15_3); (case side2 => exact HC283_0.out); (case side3 => exact q15_4); (case side4 => exact HC284_0.out); rintro e w' ⟨rfl, ⟨nd, rfl⟩⟩; (try first | exact ⟨rfl, _, World.drewN_drewN _ _ _⟩ | exact ⟨rfl, _, Eq.trans (World.drewN_drewN _ _ _) (congrArg (World.drewN _) (Nat.add_assoc _ _ _))⟩))); try go_wp2_with (first | (go_at_call 37; (with_reducible refine (laws_lkInts.calls k1 _ _ (rd_L2 l0_0 x5_1) _ _ (rd_L2 l1_0 x5_1) true _ ?side1 ?side2 ?side3 ?side4 A12.out).mono ?_); (case side1 => exact q15_3); (case side2 => exact HC283_0.out); (case side3 => exact q15_4); (case side4 => exact HC284_0.out); rintro e w' ⟨rfl, ⟨nd, rfl⟩⟩; (try first | exact ⟨rfl, _, World.drewN_drewN _ _ _⟩ | exact ⟨rfl, _, Eq.trans (World.drewN_drewN _ _ _) (congrArg (World.drewN _) (Nat.add_assoc _ _ _))⟩))))
                go_roundg k1
                case measure => have := HK1.out; omega
                case rel => exact ⟨(wrap64 (x5_1 + 1)), (by first | rfl | (simp; done) | (simp [*]; done)), H', ⟨by have := HK1.out; omega⟩, ⟨by (with_reducible repeat (first | refine blk_drewN ?_ _ | refine blk_drew ?_ | refine blk_alloc ?_ _)); exact BK281.out⟩, ⟨by (with_reducible repeat (first | refine blk_drewN ?_ _ | refine blk_drew ?_ | refine blk_alloc ?_ _)); exact BK282.out⟩, ⟨q15_5⟩⟩
              · replace c13 := Bool.eq_false_iff.mpr c13
                subst c13
                have H1 : (some false) = some r := by rw [if_neg (show ¬ (false = true) by decide)] at H; exact H
                clear H
                have H := H1
                clear H1
                obtain rfl := Option.some.inj H
                have hnb17 := NB281_282.out
                have hnc17 := NB282_281.out
                have hcz18_0 : wr.cell? ⟨gb281, 0, none⟩ = some (.slice A0_0 l0_0.length c0_0) := (blk_cell BK281.out 0).trans rfl
                have hfz18_0 := blk_frozen BK281.out 0
                have p283 : 0 ≤ (x5_1 : Int) := of_decide_eq_true q15_11
                have q283 : x5_1 < (l0_0.length : Int) := of_decide_eq_true q15_11
                obtain ⟨ad283, A283_0, c283_0, e283, hx283_0, hl283_0, hi283_0⟩ := at_L2 HR0_0.out x5_1 p283 q283
                cases e283
                replace hx283_0 := (HB.out.cell (World.block_lt_of_cell? w _ hx283_0)).trans hx283_0
                have HR283_0 := Aside0.mk hi283_0
                have HC283_0 := Aside0.mk hl283_0
                clear hi283_0 hl283_0
                replace p283 := eq_true p283
                replace q283 := eq_true q283
                have hcz19_0 : wr.cell? ⟨gb282, 0, none⟩ = some (.slice A1_0 l1_0.length c1_0) := (blk_cell BK282.out 0).trans rfl
                have hfz19_0 := blk_frozen BK282.out 0
                have p284 : 0 ≤ (x5_1 : Int) := of_decide_eq_true q15_11
                have q284 : x5_1 < (l1_0.length : Int) := of_decide_eq_true q15_11
                obtain ⟨ad284, A284_0, c284_0, e284, hx284_0, hl284_0, hi284_0⟩ := at_L2 HR1_0.out x5_1 p284 q284
                cases e284
                replace hx284_0 := (HB.out.cell (World.block_lt_of_cell? w _ hx284_0)).trans hx284_0
                have HR284_0 := Aside0.mk hi284_0
                have HC284_0 := Aside0.mk hl284_0
                clear hi284_0 hl284_0
                replace p284 := eq_true p284
                replace q284 := eq_true q284
                go_wp2_with (first | (go_at_call 37; (with_reducible refine (laws_lkInts.calls k1 _ _ (rd_L2 l0_0 x5_1) _ _ (rd_L2 l1_0 x5_1) false _ ?side1 ?side2 ?side3 ?side4 A12.out).mono ?_); (case side1 => exact q15_3); (case side2 => exact HC283_0.out); (case side3 => exact q15_4); (case side4 => exact HC284_0.out); rintro e w' ⟨rfl, ⟨nd, rfl⟩⟩; (try first | exact ⟨rfl, _, World.drewN_drewN _ _ _⟩ | exact ⟨rfl, _, Eq.trans (World.drewN_drewN _ _ _) (congrArg (World.drewN _) (Nat.add_assoc _ _ _))⟩)))
                repeat (go_quiet (first | (go_at_call 37; (with_reducible refine (laws_lkInts.calls k1 _ _ (rd_L2 l0_0 x5_1) _ _ (rd_L2 l1_0 x5_1) false _ ?side1 ?side2 ?side3 ?side4 A12.out).mono ?_); (case side1 => exact q15_3); (case side2 => exact HC283_0.out); (case side3 => exact q15_4); (case side4 => exact HC284_0.out); rintro e w' ⟨rfl, ⟨nd, rfl⟩⟩; (try first | exact ⟨rfl, _, World.drewN_drewN _ _ _⟩ | exact ⟨rfl, _, Eq.trans (World.drewN_drewN _ _ _) (congrArg (World.drewN _) (Nat.add_assoc _ _ _))⟩))); try go_wp2_with (first | (go_at_call 37; (with_reducible refine (laws_lkInts.calls k1 _ _ (rd_L2 l0_0 x5_1) _ _ (rd_L2 l1_0 x5_1) false _ ?side1 ?side2 ?side3 ?side4 A12.out).mono ?_); (case side1 => exact q15_3); (case side2 => exact HC283_0.out); (case side3 => exact q15_4); (case side4 => exact HC284_0.out); rintro e w' ⟨rfl, ⟨nd, rfl⟩⟩; (try first | exact ⟨rfl, _, World.drewN_drewN _ _ _⟩ | exact ⟨rfl, _, Eq.trans (World.drewN_drewN _ _ _) (congrArg (World.drewN _) (Nat.add_assoc _ _ _))⟩))))
                go_ret
                exact ⟨q15_12, q15_5⟩
            · rw [if_neg c11] at H
              exact absurd H (by simp)
          · rw [if_neg c10] at H
            exact absurd H (by simp)
        · rw [if_neg c9] at H
          have c9b0 : decide (x5_1 < (l0_0.length : Int)) = false := decide_eq_false c9
          clear c9
          obtain rfl := Option.some.inj H
          have hnb20 := NB281_282.out
          have hnc20 := NB282_281.out
          have hcz21_0 : wr.cell? ⟨gb281, 0, none⟩ = some (.slice A0_0 l0_0.length c0_0) := (blk_cell BK281.out 0).trans rfl
          have hfz21_0 := blk_frozen BK281.out 0
          go_wp2
          repeat (go_quiet (fail); try go_wp2)
          go_ret
          exact ⟨q15_12, q15_5⟩
  · rw [if_neg c3] at H
    have c3b0 : ((l0_0.length : Int) == (l1_0.length : Int)) = false := beq_eq_false_iff_ne.mpr c3
    have c3b1 : ((l0_0.length : Int) != (l1_0.length : Int)) = true := bne_iff_ne.mpr c3
    have c3b2 : (l0_0.length == l1_0.length) = false := by first | simpa using c3 | (simp at c3 ⊢; omega)
    obtain rfl := Option.some.inj H
    go_enter Try.func15, Try.ntmps15
    go_wp2_with (first | ((with_reducible refine gate_dst (N := 2) rfl ?_); refine box_event ?hg (N := 2) ?hd (cs := #[.slice A0_0 l0_0.length c0_0]) (t := 25) ?hr ?_; (case hd => rfl); (case hg => rfl); (case hr => exact q15_8); intro gb281 hg w22 hbox hb; have n0_ := Aside0.mk (below_step q15_1 hb); have n1_ := Aside0.mk (hbox); have n2_ := Aside0.mk ((q15_9 : w.heap.size ≤ gb281)); have n3_ := Aside0.mk ((q15_9 : w.heap.size ≤ gb281)); clear HB; have HB := n0_; have BK281 := n1_; have GW281 := n2_; have GE281 := n3_; clear n0_ n1_ n2_ n3_; clear hb hbox hg) | ((with_reducible refine gate_dst (N := 3) rfl ?_); refine box_event ?hg (N := 3) ?hd (cs := #[.slice A1_0 l1_0.length c1_0]) (t := 25) ?hr ?_; (case hd => rfl); (case hg => rfl); (case hr => exact q15_8); intro gb282 hg w23 hbox hb; have n0_ := Aside0.mk (blk_below (g := gb281) (o := .cells #[.slice A0_0 l0_0.length c0_0] 25 (0, 0)) q15_2 hb); have n1_ := Aside0.mk (below_step q15_0 hb); have n2_ := Aside0.mk (hbox); have n3_ := Aside0.mk ((q15_10 : w.heap.size ≤ gb282)); have n4_ := Aside0.mk ((q15_10 : w.heap.size ≤ gb282)); have n5_ := Aside0.mk ((q15_6 : gb281 ≠ gb282)); have n6_ := Aside0.mk ((q15_7 : gb282 ≠ gb281)); clear BK281; clear HB; have BK281 := n0_; have HB := n1_; have BK282 := n2_; have GW282 := n3_; have GE282 := n4_; have NB281_282 := n5_; have NB282_281 := n6_; clear n0_ n1_ n2_ n3_ n4_ n5_ n6_; clear hb hbox hg; have hnb24 := NB281_282.out; have hnc24 := NB282_281.out; have hcz25_0 : w23.cell? ⟨gb281, 0, none⟩ = some (.slice A0_0 l0_0.length c0_0) := (blk_cell BK281.out 0).trans rfl; have hfz25_0 := blk_frozen BK281.out 0; have hcz26_0 : w23.cell? ⟨gb282, 0, none⟩ = some (.slice A1_0 l1_0.length c1_0) := (blk_cell BK282.out 0).trans rfl; have hfz26_0 := blk_frozen BK282.out 0))
    repeat (go_quiet (first | ((with_reducible refine gate_dst (N := 2) rfl ?_); refine box_event ?hg (N := 2) ?hd (cs := #[.slice A0_0 l0_0.length c0_0]) (t := 25) ?hr ?_; (case hd => rfl); (case hg => rfl); (case hr => exact q15_8); intro gb281 hg w22 hbox hb; have n0_ := Aside0.mk (below_step q15_1 hb); have n1_ := Aside0.mk (hbox); have n2_ := Aside0.mk ((q15_9 : w.heap.size ≤ gb281)); have n3_ := Aside0.mk ((q15_9 : w.heap.size ≤ gb281)); clear HB; have HB := n0_; have BK281 := n1_; have GW281 := n2_; have GE281 := n3_; clear n0_ n1_ n2_ n3_; clear hb hbox hg) | ((with_reducible refine gate_dst (N := 3) rfl ?_); refine box_event ?hg (N := 3) ?hd (cs := #[.slice A1_0 l1_0.length c1_0]) (t := 25) ?hr ?_; (case hd => rfl); (case hg => rfl); (case hr => exact q15_8); intro gb282 hg w23 hbox hb; have n0_ := Aside0.mk (blk_below (g := gb281) (o := .cells #[.slice A0_0 l0_0.length c0_0] 25 (0, 0)) q15_2 hb); have n1_ := Aside0.mk (below_step q15_0 hb); have n2_ := Aside0.mk (hbox); have n3_ := Aside0.mk ((q15_10 : w.heap.size ≤ gb282)); have n4_ := Aside0.mk ((q15_10 : w.heap.size ≤ gb282)); have n5_ := Aside0.mk ((q15_6 : gb281 ≠ gb282)); have n6_ := Aside0.mk ((q15_7 : gb282 ≠ gb281)); clear BK281; clear HB; have BK281 := n0_; have HB := n1_; have BK282 := n2_; have GW282 := n3_; have GE282 := n4_; have NB281_282 := n5_; have NB282_281 := n6_; clear n0_ n1_ n2_ n3_ n4_ n5_ n6_; clear hb hbox hg; have hnb24 := NB281_282.out; have hnc24 := NB282_281.out; have hcz25_0 : w23.cell? ⟨gb281, 0, none⟩ = some (.slice A0_0 l0_0.length c0_0) := (blk_cell BK281.out 0).trans rfl; have hfz25_0 := blk_frozen BK281.out 0; have hcz26_0 : w23.cell? ⟨gb282, 0, none⟩ = some (.slice A1_0 l1_0.length c1_0) := (blk_cell BK282.out 0).trans rfl; have hfz26_0 := blk_frozen BK282.out 0)); try go_wp2_with (first | ((with_reducible refine gate_dst (N := 2) rfl ?_); refine box_event ?hg (N := 2) ?hd (cs := #[.slice A0_0 l0_0.length c0_0]) (t := 25) ?hr ?_; (case hd => rfl); (case hg => rfl); (case hr => exact q15_8); intro gb281 hg w22 hbox hb; have n0_ := Aside0.mk (below_step q15_1 hb); have n1_ := Aside0.mk (hbox); have n2_ := Aside0.mk ((q15_9 : w.heap.size ≤ gb281)); have n3_ := Aside0.mk ((q15_9 : w.heap.size ≤ gb281)); clear HB; have HB := n0_; have BK281 := n1_; have GW281 := n2_; have GE281 := n3_; clear n0_ n1_ n2_ n3_; clear hb hbox hg) | ((with_reducible refine gate_dst (N := 3) rfl ?_); refine box_event ?hg (N := 3) ?hd (cs := #[.slice A1_0 l1_0.length c1_0]) (t := 25) ?hr ?_; (case hd => rfl); (case hg => rfl); (case hr => exact q15_8); intro gb282 hg w23 hbox hb; have n0_ := Aside0.mk (blk_below (g := gb281) (o := .cells #[.slice A0_0 l0_0.length c0_0] 25 (0, 0)) q15_2 hb); have n1_ := Aside0.mk (below_step q15_0 hb); have n2_ := Aside0.mk (hbox); have n3_ := Aside0.mk ((q15_10 : w.heap.size ≤ gb282)); have n4_ := Aside0.mk ((q15_10 : w.heap.size ≤ gb282)); have n5_ := Aside0.mk ((q15_6 : gb281 ≠ gb282)); have n6_ := Aside0.mk ((q15_7 : gb282 ≠ gb281)); clear BK281; clear HB; have BK281 := n0_; have HB := n1_; have BK282 := n2_; have GW282 := n3_; have GE282 := n4_; have NB281_282 := n5_; have NB282_281 := n6_; clear n0_ n1_ n2_ n3_ n4_ n5_ n6_; clear hb hbox hg; have hnb24 := NB281_282.out; have hnc24 := NB282_281.out; have hcz25_0 : w23.cell? ⟨gb281, 0, none⟩ = some (.slice A0_0 l0_0.length c0_0) := (blk_cell BK281.out 0).trans rfl; have hfz25_0 := blk_frozen BK281.out 0; have hcz26_0 : w23.cell? ⟨gb282, 0, none⟩ = some (.slice A1_0 l1_0.length c1_0) := (blk_cell BK282.out 0).trans rfl; have hfz26_0 := blk_frozen BK282.out 0)))
    go_ret
    exact ⟨q15_12, q15_5⟩

end Go.Proofs.Ytojhkhpgahhacaa.PA
