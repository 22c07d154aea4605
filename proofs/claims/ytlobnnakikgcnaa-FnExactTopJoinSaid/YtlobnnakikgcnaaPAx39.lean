-- Made by a program of this session (wip/tools/pr2.sh) out of the translation, by way of the printer: shared by the seat's laws.
import Derived.Test.YtlobnnakikgcnaaPAx0
import Derived.Test.YtlobnnakikgcnaaPAx18
import Derived.Test.YtlobnnakikgcnaaPAx38
namespace Go.Proofs.Ytlobnnakikgcnaa.PA
open Go.RowKit Go.Proofs.YtlobnnakikgcnaaW.PrintWords Go.Proofs.YtlobnnakikgcnaaW.PrintLast Go.Proofs.YtlobnnakikgcnaaW.PrintMore
attribute [local go_sem] max2_int min2_int max_two min_two max_three min_three max_four min_four   -- for this text's walks alone
set_option linter.unusedVariables false
set_option linter.unusedSimpArgs false

/-! ### impl_cutTop: function 40 -/
def impl_cutTop.l0 : Nat → Int → List (S54) → List (S54) → Int → Int → List (S54) → Int → Int → Option ((List (S54)) × Int × Int)
  | 0, _, _, _, _, _, _, _, _ => none
  | k + 1, x4, x5, x24, x25, x26, x243000, x243001, x243002 => if x26 < x25 then (if 0 ≤ x26 then (if x26 < (x24.length : Int) then (if ((rd_T54 x24 x26).f1) > x4 then (if x5.length < 8796093022208 then (impl_cutTop.l0 k x4 (x5 ++ [(⟨(rd_T54 x24 x26).f0, wrap64 (((rd_T54 x24 x26).f1) - x4)⟩ : S54)]) x24 x25 (wrap64 (x26 + 1)) x243000 x243001 x243002) else (none)) else (impl_cutTop.l0 k x4 x5 x24 x25 (wrap64 (x26 + 1)) x243000 x243001 x243002)) else (none)) else (none)) else (some (x5, wrap64 (x243001 + x4), x243002))
def impl_cutTop.f (k : Nat) (l0_0 : List (S54)) (a0_1 : Int) (a0_2 : Int) : Option ((List (S54)) × Int × Int) := if (l0_0.length : Int) ≤ 4 then (some (l0_0, a0_1, a0_2)) else ((impl_Pair_44.f l0_0).bind fun t244 => ((impl_sortPairs.f k t244 1).bind fun t247 => (if 4 < (t244.length : Int) then (impl_cutTop.l0 k ((rd_T54 t247 4).f1) (([] : List (S54))) l0_0 (l0_0.length : Int) 0 l0_0 a0_1 a0_2) else (none))))
theorem impl_cutTop.mono_l : ∀ k, (∀ y0 y1 y2 y3 y4 y5 y6 y7, LeO (impl_cutTop.l0 k y0 y1 y2 y3 y4 y5 y6 y7) (impl_cutTop.l0 (k + 1) y0 y1 y2 y3 y4 y5 y6 y7))
  | 0 => fun _ _ _ _ _ _ _ _ r h => by simp [impl_cutTop.l0] at h
  | k + 1 => by
    have ih0 := impl_cutTop.mono_l k
    · intro y0 y1 y2 y3 y4 y5 y6 y7
      unfold impl_cutTop.l0
      repeat' first
      | (with_reducible exact ih0 _ _ _ _ _ _ _ _)
      | (with_reducible exact impl_sortPairs.mono _ _ _)
      | (with_reducible exact LeO.refl _)
      | (with_reducible exact LeO.none _)
      | (with_reducible refine LeO.ite ?_ ?_)
      | (with_reducible refine LeO.bind ?_ (fun _ => ?_))
      | exact ih0 _ _ _ _ _ _ _ _
      | exact impl_sortPairs.mono _ _ _
      | exact LeO.none _
      | refine LeO.ite ?_ ?_
      | refine LeO.bind ?_ (fun _ => ?_)
theorem impl_cutTop.mono : ∀ a0 a1 a2 k, LeO (impl_cutTop.f k a0 a1 a2) (impl_cutTop.f (k + 1) a0 a1 a2) := by
  intro a0 a1 a2 k
  have ih0 := impl_cutTop.mono_l k
  unfold impl_cutTop.f
  repeat' first
      | (with_reducible exact ih0 _ _ _ _ _ _ _ _)
      | (with_reducible exact impl_sortPairs.mono _ _ _)
      | (with_reducible exact LeO.refl _)
      | (with_reducible exact LeO.none _)
      | (with_reducible refine LeO.ite ?_ ?_)
      | (with_reducible refine LeO.bind ?_ (fun _ => ?_))
      | exact ih0 _ _ _ _ _ _ _ _
      | exact impl_sortPairs.mono _ _ _
      | exact LeO.none _
      | refine LeO.ite ?_ ?_
      | refine LeO.bind ?_ (fun _ => ?_)
variable {p : Prop}
theorem q40_0 (h : p := by repeat (first | (with_reducible first | exact HK.out | apply Kept.alloc | apply Kept.drewN | apply Kept.drew | refine Kept.setCell ?_ (.inr GW242.out) _ | refine Kept.setCell ?_ (.inr GW243.out) _) | exact HK.out)) : p := h
theorem q40_1 (h : p := by repeat (first | (with_reducible first | exact HB.out | apply below_alloc | apply pw_below_drewN | apply below_drew1 | refine below_set ?_ GE242.out | refine below_set ?_ GE243.out) | exact HB.out)) : p := h
theorem q40_2 (h : p := by (with_reducible repeat (first | refine blk_drewN ?_ _ | refine blk_drew ?_ | refine blk_alloc ?_ _)); exact BK242.out) : p := h
theorem q40_3 (h : p := by (with_reducible repeat (first | refine blk_drewN ?_ _ | refine blk_drew ?_ | refine blk_alloc ?_ _)); exact BK243.out) : p := h
theorem q40_4 (h : p := by repeat (first | (with_reducible first | exact HK.out | apply Kept.alloc | apply Kept.drewN | apply Kept.drew | refine Kept.setCell ?_ (.inr GW242.out) _ | refine Kept.setCell ?_ (.inr GW243.out) _ | refine Kept.setCell ?_ (.inr GW253.out) _) | exact HK.out)) : p := h
theorem q40_5 (h : p := by (with_reducible repeat (first | apply Kd.R_alloc | apply Kd.R_drewN | apply Kd.R_drew)); exact HO0_0.out) : p := h
theorem q40_6 (h : p := by repeat (first | (with_reducible first | exact HB.out | apply below_alloc | apply pw_below_drewN | apply below_drew1 | refine below_set ?_ GE242.out | refine below_set ?_ GE243.out | refine below_set ?_ GE253.out) | exact HB.out)) : p := h
theorem q40_7 (h : p := by repeat (first | (with_reducible first | exact HK.out | apply Kept.alloc | apply Kept.drewN | apply Kept.drew | refine Kept.setCell ?_ (.inr GW242.out) _) | exact HK.out)) : p := h
theorem q40_8 (h : p := by repeat (first | (with_reducible first | exact HB.out | apply below_alloc | apply pw_below_drewN | apply below_drew1 | refine below_set ?_ GE242.out) | exact HB.out)) : p := h
theorem q40_9 (h : p := by (with_reducible repeat (first | refine blk_drewN ?_ _ | refine blk_drew ?_ | refine blk_alloc ?_ _)); refine blk_put (cs := #[.int .i64 ((rd_T54 l0_0 x26_1).f0), .int .i64 0]) ?_ 1 _ rfl; (with_reducible repeat (first | refine blk_drewN ?_ _ | refine blk_drew ?_ | refine blk_alloc ?_ _)); refine blk_put (cs := #[.int .i64 0, .int .i64 0]) ?_ 0 _ rfl; (with_reducible repeat (first | refine blk_drewN ?_ _ | refine blk_drew ?_ | refine blk_alloc ?_ _)); exact BK253.out) : p := h
theorem q40_10 (h : p := by repeat (first | (with_reducible first | exact HB.out | apply below_alloc | apply pw_below_drewN | apply below_drew1) | exact HB.out)) : p := h
theorem q40_11 (h : p := by repeat (first | (with_reducible first | exact HK.out | apply Kept.alloc | apply Kept.drewN | apply Kept.drew) | exact HK.out)) : p := h
theorem q40_12 (h : p := by first | (with_reducible assumption) | assumption) : p := h
theorem q40_13 (h : p := by first | exact HK.out.1 | exact (show Kept w _ (fun k_ => P0_0_ k_) from q40_0).1) : p := h
theorem q40_14 (h : p := by first | (go_simp; done) | (go_simp; rfl)) : p := h
theorem q40_15 (h : p := by rw [hg]; exact Nat.ne_of_lt (blk_lt (g := gb242) (o := .cells #[.slice (some ad252) l0_0.length co12, .int .i64 a0_1, .int .i64 a0_2] 25 (0, 0)) q40_2)) : p := h
theorem q40_16 (h : p := by rw [hg]; exact Nat.ne_of_gt (blk_lt (g := gb242) (o := .cells #[.slice (some ad252) l0_0.length co12, .int .i64 a0_1, .int .i64 a0_2] 25 (0, 0)) q40_2)) : p := h
theorem q40_17 (h : p := by (try simp only [List.map_toArray, List.map_cons, List.map_nil]); first | done | rfl | (simp only [List.length_drop, List.length_take]; rfl)) : p := h
theorem q40_18 (h : p := by rw [hg]; exact Nat.ne_of_lt (blk_lt (g := gb243) (o := .cells #[.slice none 0 0, .int .i64 0, .int .i64 0] 25 (0, 0)) q40_3)) : p := h
theorem q40_19 (h : p := by rw [hg]; exact Nat.ne_of_gt (blk_lt (g := gb243) (o := .cells #[.slice none 0 0, .int .i64 0, .int .i64 0] 25 (0, 0)) q40_3)) : p := h
theorem q40_20 (h : p := by (with_reducible repeat (first | apply Kd.R_alloc | apply Kd.R_drewN | apply Kd.R_drew)); exact HO_243000.out) : p := h
theorem q40_21 (h : p := by (with_reducible repeat (first | apply Kd.R_alloc | apply Kd.R_drewN | apply Kd.R_drew)); exact HO246.out) : p := h
theorem q40_22 (h : p := by (with_reducible repeat (first | apply Kd.R_alloc | apply Kd.R_drewN | apply Kd.R_drew)); exact HO_24.out) : p := h
theorem q40_23 (h : p := by (with_reducible repeat (first | apply Kd.R_alloc | apply Kd.R_drewN | apply Kd.R_drew)); exact HO_5.out) : p := h
theorem q40_24 (h : p := by rw [hg]; exact (by first | exact HK.out.1 | exact (show Kept w _ (fun k_ => P0_0_ k_) from q40_11).1)) : p := h
theorem q40_25 (h : p := by rw [hg]; exact (by first | exact HK.out.1 | exact (show Kept w _ (fun k_ => P0_0_ k_) from q40_7).1)) : p := h
set_option maxHeartbeats 8000000 in
set_option maxRecDepth 100000 in
theorem impl_cutTop.calls (k : Nat) (P0_0_ : Nat → Prop) (u9000_ : Value) (l0_0 : List (S54)) (a0_1 : Int) (a0_2 : Int) (r1 : List (S54)) (r2 : Int) (r3 : Int) (w0 w : World) (hB : Below w0.heap.size w0 w) (ho0_0 : Kd.R k54 54 w w0.heap.size P0_0_ u9000_ l0_0) (h : impl_cutTop.f k l0_0 a0_1 a0_2 = some (r1, r2, r3)) :
    Calls Try.prog 40 #[.agg #[u9000_, .int .i64 a0_1, .int .i64 a0_2]] w fun e w' => ∃ v0_ : Value, e = .returned (.agg #[v0_, .int .i64 r2, .int .i64 r3]) ∧ Kd.R k54 54 w' w0.heap.size (fun k_ => (P0_0_ k_ ∨ w.heap.size ≤ k_)) v0_ r1 ∧ Below w0.heap.size w0 w' ∧ Kept w w' (fun k_ => P0_0_ k_) := by
 have hu25 := Try.underlying25;have hu54 := Try.underlying54;have HO0_0 := Aside0.mk (show Kd.R k54 54 w w0.heap.size (fun k_ => (P0_0_ k_ ∨ w.heap.size ≤ k_)) u9000_ l0_0 from Kd.R_mono ho0_0 (fun k_ hk => (.inl hk)));have HK := Aside0.mk (Kept.refl w (fun k_ => P0_0_ k_));have HW0 := Aside0.mk hB.size;have HB := Aside0.mk hB;clear hB
 have H : (if (l0_0.length : Int) ≤ 4 then (some (l0_0, a0_1, a0_2)) else ((impl_Pair_44.f l0_0).bind fun t244 => ((impl_sortPairs.f k t244 1).bind fun t247 => (if 4 < (t244.length : Int) then (impl_cutTop.l0 k ((rd_T54 t247 4).f1) (([] : List (S54))) l0_0 (l0_0.length : Int) 0 l0_0 a0_1 a0_2) else (none))))) = some (r1, r2, r3) := h
 clear h
 by_cases c2 : (l0_0.length : Int) ≤ 4
 ·
  rw [if_pos c2] at H
  have c2b0 : decide ((l0_0.length : Int) ≤ 4) = true := decide_eq_true c2
  have c2b1 : decide (l0_0.length ≤ 4) = true := decide_eq_true (by omega)
  clear c2
  simp only [Option.some.injEq, Prod.mk.injEq] at H
  obtain ⟨rfl, rfl, rfl⟩ := H;obtain ⟨Ao3, co3, eo3⟩ := Kd.R_slice HO0_0.out;subst eo3
  go_enter Try.func40, Try.ntmps40
  go_wp2_with (first | ((with_reducible refine gate_dst (N := 1) rfl ?_); refine box_event ?hg (N := 1) ?hd (cs := #[.slice Ao3 l0_0.length co3, .int .i64 a0_1, .int .i64 a0_2]) (t := 25) ?hr ?_; (case hd => rfl); (case hg => rfl); (case hr => exact q40_14); intro gb242 hg w4 hbox hb; have n0_ := Aside0.mk (Kd.R_below q40_5 hb); have n1_ := Aside0.mk (Kept.below (S := (fun k_ => P0_0_ k_)) q40_11 hb); have n2_ := Aside0.mk (below_step q40_10 hb); have n3_ := Aside0.mk (hbox); have n4_ := Aside0.mk ((q40_24 : w.heap.size ≤ gb242)); have n5_ := Aside0.mk ((by rw [hg]; exact (below_size q40_10) : w0.heap.size ≤ gb242)); clear HO0_0; clear HK; clear HB; have HO0_0 := n0_; have HK := n1_; have HB := n2_; have BK242 := n3_; have GW242 := n4_; have GE242 := n5_; clear n0_ n1_ n2_ n3_ n4_ n5_; clear hb hbox hg) | ((with_reducible refine gate_dst (N := 2) rfl ?_); refine box_event ?hg (N := 2) ?hd (cs := #[.slice none 0 0, .int .i64 0, .int .i64 0]) (t := 25) ?hr ?_; (case hd => rfl); (case hg => rfl); (case hr => exact q40_14); intro gb243 hg w5 hbox hb; have n0_ := Aside0.mk (Kd.R_below q40_5 hb); have n1_ := Aside0.mk (blk_below (g := gb242) (o := .cells #[.slice Ao3 l0_0.length co3, .int .i64 a0_1, .int .i64 a0_2] 25 (0, 0)) q40_2 hb); have n2_ := Aside0.mk (Kept.below (S := (fun k_ => P0_0_ k_)) q40_7 hb); have n3_ := Aside0.mk (below_step q40_8 hb); have n4_ := Aside0.mk (hbox); have n5_ := Aside0.mk ((q40_25 : w.heap.size ≤ gb243)); have n6_ := Aside0.mk ((by rw [hg]; exact (below_size q40_8) : w0.heap.size ≤ gb243)); have n7_ := Aside0.mk ((by rw [hg]; exact Nat.ne_of_lt (blk_lt (g := gb242) (o := .cells #[.slice Ao3 l0_0.length co3, .int .i64 a0_1, .int .i64 a0_2] 25 (0, 0)) q40_2) : gb242 ≠ gb243)); have n8_ := Aside0.mk ((by rw [hg]; exact Nat.ne_of_gt (blk_lt (g := gb242) (o := .cells #[.slice Ao3 l0_0.length co3, .int .i64 a0_1, .int .i64 a0_2] 25 (0, 0)) q40_2) : gb243 ≠ gb242)); clear HO0_0; clear BK242; clear HK; clear HB; have HO0_0 := n0_; have BK242 := n1_; have HK := n2_; have HB := n3_; have BK243 := n4_; have GW243 := n5_; have GE243 := n6_; have NB242_243 := n7_; have NB243_242 := n8_; clear n0_ n1_ n2_ n3_ n4_ n5_ n6_ n7_ n8_; clear hb hbox hg; have hnb6 := NB242_243.out; have hnc6 := NB243_242.out; have hcz7_0 : w5.cell? ⟨gb242, 0, none⟩ = some (.slice Ao3 l0_0.length co3) := (blk_cell BK242.out 0).trans rfl; have hcz7_1 : w5.cell? ⟨gb242, 1, none⟩ = some (.int .i64 a0_1) := (blk_cell BK242.out 1).trans rfl; have hcz7_2 : w5.cell? ⟨gb242, 2, none⟩ = some (.int .i64 a0_2) := (blk_cell BK242.out 2).trans rfl; have hfz7_0 := blk_frozen BK242.out 0; have hfz7_1 := blk_frozen BK242.out 1; have hfz7_2 := blk_frozen BK242.out 2; have hcz8_0 : w5.cell? ⟨gb243, 0, none⟩ = some (.slice none 0 0) := (blk_cell BK243.out 0).trans rfl; have hcz8_1 : w5.cell? ⟨gb243, 1, none⟩ = some (.int .i64 0) := (blk_cell BK243.out 1).trans rfl; have hcz8_2 : w5.cell? ⟨gb243, 2, none⟩ = some (.int .i64 0) := (blk_cell BK243.out 2).trans rfl; have hfz8_0 := blk_frozen BK243.out 0; have hfz8_1 := blk_frozen BK243.out 1; have hfz8_2 := blk_frozen BK243.out 2))
  refine bodyPost_ret (results_cell_row rfl _ _ gb243 25 #[.slice Ao3 l0_0.length co3, .int .i64 a0_1, .int .i64 a0_2] (0, 0) _ rfl (by (with_reducible repeat (first | refine blk_drewN ?_ _ | refine blk_drew ?_ | refine blk_alloc ?_ _)); refine blk_put (cs := #[.slice Ao3 l0_0.length co3, .int .i64 a0_1, .int .i64 0]) ?_ 2 _ rfl; (with_reducible repeat (first | refine blk_drewN ?_ _ | refine blk_drew ?_ | refine blk_alloc ?_ _)); refine blk_put (cs := #[.slice Ao3 l0_0.length co3, .int .i64 0, .int .i64 0]) ?_ 1 _ rfl; (with_reducible repeat (first | refine blk_drewN ?_ _ | refine blk_drew ?_ | refine blk_alloc ?_ _)); refine blk_put (cs := #[.slice none 0 0, .int .i64 0, .int .i64 0]) ?_ 0 _ rfl; (with_reducible repeat (first | refine blk_drewN ?_ _ | refine blk_drew ?_ | refine blk_alloc ?_ _)); exact BK243.out) Try.underlying25 rfl (by kernel_rfl)) rfl ?_
  exact ⟨_, by first | rfl | (simp [errW_none, errW_some] <;> rfl) | (simp [*, errW_none, errW_some] <;> rfl), by (with_reducible repeat (first | apply Kd.R_alloc | apply Kd.R_drewN | apply Kd.R_drew)); exact Kd.R_mono (Kd.R_far (p := ⟨gb243, 2, none⟩) (Kd.R_far (p := ⟨gb243, 1, none⟩) (Kd.R_far (p := ⟨gb243, 0, none⟩) (Kd.R_types HO0_0.out BK243.out (by decide)) (fun _ hk => hk.2) (.slice Ao3 l0_0.length co3)) (fun _ hk => hk.2) (.int .i64 a0_1)) (fun _ hk => hk.2) (.int .i64 a0_2)) (fun _ hk => hk.1), q40_1, q40_0⟩
 ·
  rw [if_neg c2] at H
  have c2b0 : decide ((l0_0.length : Int) ≤ 4) = false := decide_eq_false c2
  have c2b1 : decide (l0_0.length ≤ 4) = false := decide_eq_false (by omega)
  clear c2
  replace H := Option.bind_eq_some_iff.mp H
  obtain ⟨t244, A90, H⟩ := H
  replace H : ((impl_sortPairs.f k t244 1).bind fun t247 => (if 4 < (t244.length : Int) then (impl_cutTop.l0 k ((rd_T54 t247 4).f1) (([] : List (S54))) l0_0 (l0_0.length : Int) 0 l0_0 a0_1 a0_2) else (none))) = some (r1, r2, r3) := H
  have A9 := Aside0.mk A90;clear A90
  replace H := Option.bind_eq_some_iff.mp H
  obtain ⟨t247, A100, H⟩ := H
  replace H : (if 4 < (t244.length : Int) then (impl_cutTop.l0 k ((rd_T54 t247 4).f1) (([] : List (S54))) l0_0 (l0_0.length : Int) 0 l0_0 a0_1 a0_2) else (none)) = some (r1, r2, r3) := H
  have A10 := Aside0.mk A100;clear A100
  by_cases c11 : 4 < (t244.length : Int)
  ·
   rw [if_pos c11] at H
   have c11b0 : decide (4 < (t244.length : Int)) = true := decide_eq_true c11
   have c11b1 : decide (4 < t244.length) = true := decide_eq_true (by omega)
   clear c11;obtain ⟨y249, hy249⟩ : ∃ y_ : List (S54), y_ = (([] : List (S54))) := ⟨_, rfl⟩
   replace H : (impl_cutTop.l0 k ((rd_T54 t247 4).f1) y249 l0_0 (l0_0.length : Int) 0 l0_0 a0_1 a0_2) = some (r1, r2, r3) := by first | (rw [hy249]; with_reducible exact H) | (have H2_ := (Option.bind_some _ _).symm.trans H; rw [hy249]; with_reducible exact H2_) | (have H2_ := (Option.bind_some _ _).symm.trans H; with_reducible exact H2_) | with_reducible exact H | (rw [hy249]; exact H) | exact H
   have Ny249 := Aside0.mk hy249;clear hy249
   have H' := Aside0.mk H
   clear H;obtain ⟨Ao12, co12, eo12⟩ := Kd.R_slice HO0_0.out;subst eo12
   go_enter Try.func40, Try.ntmps40
   go_wp2_with (first | ((with_reducible refine gate_dst (N := 1) rfl ?_); refine box_event ?hg (N := 1) ?hd (cs := #[.slice Ao12 l0_0.length co12, .int .i64 a0_1, .int .i64 a0_2]) (t := 25) ?hr ?_; (case hd => rfl); (case hg => rfl); (case hr => exact q40_14); intro gb242 hg w13 hbox hb; have n0_ := Aside0.mk (Kd.R_below q40_5 hb); have n1_ := Aside0.mk (Kept.below (S := (fun k_ => P0_0_ k_)) q40_11 hb); have n2_ := Aside0.mk (below_step q40_10 hb); have n3_ := Aside0.mk (hbox); have n4_ := Aside0.mk ((q40_24 : w.heap.size ≤ gb242)); have n5_ := Aside0.mk ((by rw [hg]; exact (below_size q40_10) : w0.heap.size ≤ gb242)); clear HO0_0; clear HK; clear HB; have HO0_0 := n0_; have HK := n1_; have HB := n2_; have BK242 := n3_; have GW242 := n4_; have GE242 := n5_; clear n0_ n1_ n2_ n3_ n4_ n5_; clear hb hbox hg) | ((with_reducible refine gate_dst (N := 2) rfl ?_); refine box_event ?hg (N := 2) ?hd (cs := #[.slice none 0 0, .int .i64 0, .int .i64 0]) (t := 25) ?hr ?_; (case hd => rfl); (case hg => rfl); (case hr => exact q40_14); intro gb243 hg w14 hbox hb; have n0_ := Aside0.mk (Kd.R_below q40_5 hb); have n1_ := Aside0.mk (blk_below (g := gb242) (o := .cells #[.slice Ao12 l0_0.length co12, .int .i64 a0_1, .int .i64 a0_2] 25 (0, 0)) q40_2 hb); have n2_ := Aside0.mk (Kept.below (S := (fun k_ => P0_0_ k_)) q40_7 hb); have n3_ := Aside0.mk (below_step q40_8 hb); have n4_ := Aside0.mk (hbox); have n5_ := Aside0.mk ((q40_25 : w.heap.size ≤ gb243)); have n6_ := Aside0.mk ((by rw [hg]; exact (below_size q40_8) : w0.heap.size ≤ gb243)); have n7_ := Aside0.mk ((by rw [hg]; exact Nat.ne_of_lt (blk_lt (g := gb242) (o := .cells #[.slice Ao12 l0_0.length co12, .int .i64 a0_1, .int .i64 a0_2] 25 (0, 0)) q40_2) : gb242 ≠ gb243)); have n8_ := Aside0.mk ((by rw [hg]; exact Nat.ne_of_gt (blk_lt (g := gb242) (o := .cells #[.slice Ao12 l0_0.length co12, .int .i64 a0_1, .int .i64 a0_2] 25 (0, 0)) q40_2) : gb243 ≠ gb242)); clear HO0_0; clear BK242; clear HK; clear HB; have HO0_0 := n0_; have BK242 := n1_; have HK := n2_; have HB := n3_; have BK243 := n4_; have GW243 := n5_; have GE243 := n6_; have NB242_243 := n7_; have NB243_242 := n8_; clear n0_ n1_ n2_ n3_ n4_ n5_ n6_ n7_ n8_; clear hb hbox hg; have hnb15 := NB242_243.out; have hnc15 := NB243_242.out; have hcz16_0 : w14.cell? ⟨gb242, 0, none⟩ = some (.slice Ao12 l0_0.length co12) := (blk_cell BK242.out 0).trans rfl; have hcz16_1 : w14.cell? ⟨gb242, 1, none⟩ = some (.int .i64 a0_1) := (blk_cell BK242.out 1).trans rfl; have hcz16_2 : w14.cell? ⟨gb242, 2, none⟩ = some (.int .i64 a0_2) := (blk_cell BK242.out 2).trans rfl; have hfz16_0 := blk_frozen BK242.out 0; have hfz16_1 := blk_frozen BK242.out 1; have hfz16_2 := blk_frozen BK242.out 2) | ((with_reducible refine gate_callee (f := 44) rfl ?_); refine goesL_ (some 15) rfl rfl Try.func44 (by kernel_rfl) rfl #[.slice Ao12 l0_0.length co12] rfl q40_17 ?_; (with_reducible refine (impl_Pair_44.calls _ _ l0_0 t244 _ ?side1 ?side2 A9.out).mono ?_); (case side1 => repeat (first | exact (Kd.R_reads' HO0_0.out).2.2 | (with_reducible refine Kd.C_alloc ?_ _) | (with_reducible refine Kd.C_drewN ?_ _) | (with_reducible refine Kd.C_drew ?_))); (case side2 => exact (Kd.R_reads' HO0_0.out).2.1); rintro e w17 ⟨v245, rfl, ho0, hb⟩; refine ⟨_, rfl, ?_⟩; have n0_ := Aside0.mk (Kd.R_elder' q40_5 (Kd.R_base ho0) hb); have n1_ := Aside0.mk (Kd.R_lower (Kd.R_new' (Kd.R_newM (M := fun k_ => (P0_0_ k_ ∨ w.heap.size ≤ k_)) ho0 q40_13 (fun k_ h_ => .inr h_)) (Kd.R_lt q40_5)) (below_size q40_1)); have n2_ := Aside0.mk (blk_below (g := gb242) (o := .cells #[.slice Ao12 l0_0.length co12, .int .i64 a0_1, .int .i64 a0_2] 25 (0, 0)) q40_2 hb); have n3_ := Aside0.mk (blk_below (g := gb243) (o := .cells #[.slice none 0 0, .int .i64 0, .int .i64 0] 25 (0, 0)) q40_3 hb); have n4_ := Aside0.mk (Kept.below (S := (fun k_ => P0_0_ k_)) q40_0 hb); have n5_ := Aside0.mk (below_step q40_1 hb); clear HO0_0; clear BK242; clear BK243; clear HK; clear HB; have HO0_0 := n0_; have HO246 := n1_; have BK242 := n2_; have BK243 := n3_; have HK := n4_; have HB := n5_; clear n0_ n1_ n2_ n3_ n4_ n5_; (try clear hb); (try clear hb2); (try clear hk); (try clear hi); (try clear ho0); obtain ⟨Ao18, co18, eo18⟩ := Kd.R_slice HO246.out; subst eo18) | ((with_reducible refine gate_callee (f := 45) rfl ?_); refine goesL_ (some 17) rfl rfl Try.func45 (by kernel_rfl) rfl #[.slice Ao18 t244.length co18, .int .i64 1] rfl q40_17 ?_; (with_reducible refine (impl_sortPairs.calls k (fun k_ => some k_ = (.slice Ao18 t244.length co18 : Value).ownBlock) (.slice Ao18 t244.length co18) t244 1 t247 w0 _ ?side1 ?side2 A10.out).mono ?_); (case side1 => exact q40_1); (case side2 => exact Kd.R_tight rfl HO246.out); rintro e w19 ⟨rfl, hy0, hb, hkp⟩; refine ⟨_, rfl, ?_⟩; have n0_ := Aside0.mk (Kd.R_mono (ok' := fun k_ => (P0_0_ k_ ∨ w.heap.size ≤ k_) ∧ some k_ ≠ (.slice Ao18 t244.length co18 : Value).ownBlock) (Kd.R_keptB (HO0_0.out) hkp (fun k_ hk_ hs_ => (hk_.2) hs_)) (fun k_ hk_ => ⟨hk_.1.1, hk_.1.2⟩)); have n1_ := Aside0.mk (blk_kept q40_2 hkp (fun hs_ => (fun e_ => (Kd.R_ne HO246.out BK242.out (by decide)) e_) hs_)); have n2_ := Aside0.mk (blk_kept q40_3 hkp (fun hs_ => (fun e_ => (Kd.R_ne HO246.out BK243.out (by decide)) e_) hs_)); have n3_ := Aside0.mk (Kd.R_reok rfl hy0 (fun k_ e_ => HO246.out.1 k_ e_)); have n4_ := Aside0.mk (Kept.then_ (S := (fun k_ => P0_0_ k_)) q40_0 hkp (fun k_ hs_ => (fun e_ => (HO246.out.1 k_ e_.symm).1.1) hs_)); have n5_ := Aside0.mk (hb); clear HO0_0; clear BK242; clear BK243; clear HO246; clear HK; clear HB; have HO0_0 := n0_; have BK242 := n1_; have BK243 := n2_; have HO246 := n3_; have HK := n4_; have HB := n5_; clear n0_ n1_ n2_ n3_ n4_ n5_; (try clear hb); (try clear hkp); (try clear hy0); have p248 : 0 ≤ (4 : Int) := (by omega); have q248 : 4 < (t247.length : Int) := (by have h_ : (4 : Int) < ((t244.length : Int) : Int) := of_decide_eq_true q40_12; have e_ := (Kd.R_reads' HO246.out).1; omega); have ql248 : ((4 : Int) < ((t244.length : Int) : Int)) = True := eq_true (of_decide_eq_true q40_12); (try have qn248 : (4 < t244.length) = True := eq_true (by have h_ : (4 : Int) < ((t244.length : Int) : Int) := of_decide_eq_true q40_12; omega)); obtain ⟨ad248, e248, hx248_0, hx248_1⟩ := at_T54 (Kd.R_reads' HO246.out).2.2 4 p248 q248; cases e248; (try simp only [show (4 : Int).toNat = 4 from rfl, Nat.reduceMul, Nat.reduceEqDiff, Go.Addr.add, ↓reduceIte] at hx248_0); (try simp only [show (4 : Int).toNat = 4 from rfl, Nat.reduceMul, Nat.reduceEqDiff, Go.Addr.add, ↓reduceIte] at hx248_1); have qi248 : (4 < t247.length) = True := eq_true (by omega); (try rw [show ((4 : Int)).toNat = 4 from rfl] at hx248_0); (try rw [show 4 * 2 = 8 from rfl] at hx248_0); (try rw [show ((4 : Int)).toNat = 4 from rfl] at hx248_1); (try rw [show 4 * 2 = 8 from rfl] at hx248_1); replace p248 := eq_true p248; replace q248 := eq_true q248) | ((with_reducible refine gate_dst (N := 22) rfl ?_); refine Go.Proofs.Ytlobnnakikgcnaa.H.R_make0 k54 _ 54 ?hg 23 (.const (.int .i64 0)) (.const (.int .i64 4)) rfl 4 rfl rfl Try.underlying23 (.agg #[(.int .i64 0), (.int .i64 0)]) 16 info54 rfl (by decide) (by omega) (ok := fun _ => True) trivial (by decide) (Below.refl _ _) (Nat.le_refl _) ?_; (case hg => rfl); intro v250 w20 ho21 hb hg_ hnew_; clear hg_ hnew_; (first | rw [← Ny249.out] at ho21 | (simp only [Int.reduceToNat] at ho21; rw [← Ny249.out] at ho21)); have n0_ := Aside0.mk (Kd.R_elder' q40_5 (Kd.R_base ho21) hb); have n1_ := Aside0.mk (Kd.R_elder' q40_21 (Kd.R_base ho21) hb); have n2_ := Aside0.mk (Kd.R_lower (Kd.R_new' (Kd.R_new' (Kd.R_newM (M := fun k_ => (P0_0_ k_ ∨ w.heap.size ≤ k_)) ho21 q40_13 (fun k_ h_ => .inr h_)) (Kd.R_lt q40_5)) (Kd.R_lt q40_21)) (below_size q40_1)); have n3_ := Aside0.mk (blk_below (g := gb242) (o := .cells #[.slice Ao12 l0_0.length co12, .int .i64 a0_1, .int .i64 a0_2] 25 (0, 0)) q40_2 hb); have n4_ := Aside0.mk (blk_below (g := gb243) (o := .cells #[.slice none 0 0, .int .i64 0, .int .i64 0] 25 (0, 0)) q40_3 hb); have n5_ := Aside0.mk (Kept.below (S := (fun k_ => P0_0_ k_)) q40_0 hb); have n6_ := Aside0.mk (below_step q40_1 hb); clear HO0_0; clear HO246; clear BK242; clear BK243; clear HK; clear HB; have HO0_0 := n0_; have HO246 := n1_; have HO251 := n2_; have BK242 := n3_; have BK243 := n4_; have HK := n5_; have HB := n6_; clear n0_ n1_ n2_ n3_ n4_ n5_ n6_; clear hb ho21; have hcz22_0 : w20.cell? ⟨gb242, 0, none⟩ = some (.slice Ao12 l0_0.length co12) := (blk_cell BK242.out 0).trans rfl; have hcz22_1 : w20.cell? ⟨gb242, 1, none⟩ = some (.int .i64 a0_1) := (blk_cell BK242.out 1).trans rfl; have hcz22_2 : w20.cell? ⟨gb242, 2, none⟩ = some (.int .i64 a0_2) := (blk_cell BK242.out 2).trans rfl; have hfz22_0 := blk_frozen BK242.out 0; have hfz22_1 := blk_frozen BK242.out 1; have hfz22_2 := blk_frozen BK242.out 2))
   go_loopg [5, 26] k (fun kq v5 v26 w' => ∃ (x5_1 : List (S54)) (x26_1 : Int), v26 = .int .i64 x26_1 ∧ Aside0 (impl_cutTop.l0 kq ((rd_T54 t247 4).f1) x5_1 l0_0 (l0_0.length : Int) x26_1 l0_0 a0_1 a0_2 = some (r1, r2, r3)) ∧ Aside0 (kq ≤ k) ∧ Aside0 (Kd.R k54 54 w' w0.heap.size (fun k_ => (P0_0_ k_ ∨ w.heap.size ≤ k_) ∧ some k_ ≠ ((.slice Ao12 l0_0.length co12) : Value).ownBlock ∧ some k_ ≠ ((.slice Ao12 l0_0.length co12) : Value).ownBlock) v5 x5_1) ∧ Aside0 (Kd.R k54 54 w' w0.heap.size (fun k_ => (P0_0_ k_ ∨ w.heap.size ≤ k_) ∧ some k_ ≠ (v5 : Value).ownBlock) (.slice Ao12 l0_0.length co12) l0_0) ∧ Aside0 (Kd.R k54 54 w' w0.heap.size (fun k_ => (P0_0_ k_ ∨ w.heap.size ≤ k_) ∧ some k_ ≠ (v5 : Value).ownBlock) (.slice Ao12 l0_0.length co12) l0_0) ∧ Aside0 (w'.heap[gb242]? = some (.cells #[(.slice Ao12 l0_0.length co12), .int .i64 a0_1, .int .i64 a0_2] 25 (0, 0))) ∧ Aside0 (w'.heap[gb243]? = some (.cells #[(.slice none 0 0), .int .i64 0, .int .i64 0] 25 (0, 0))) ∧ Aside0 (Kept w w' (fun k_ => P0_0_ k_)) ∧ Aside0 (Below w0.heap.size w0 w'))
   case atStart => exact ⟨(y249), (0), (by first | rfl | (simp; done) | (simp [*]; done)), H', ⟨Nat.le_refl _⟩, ⟨by (with_reducible repeat (first | apply Kd.R_alloc | apply Kd.R_drewN | apply Kd.R_drew)); exact Kd.R_mono HO251.out (fun _ hk => ⟨hk.1.1.1, ⟨hk.1.2, hk.1.2⟩⟩)⟩, ⟨by (with_reducible repeat (first | apply Kd.R_alloc | apply Kd.R_drewN | apply Kd.R_drew)); exact Kd.R_mono HO0_0.out (fun _ hk => ⟨hk.1.1, hk.2⟩)⟩, ⟨by (with_reducible repeat (first | apply Kd.R_alloc | apply Kd.R_drewN | apply Kd.R_drew)); exact Kd.R_mono HO0_0.out (fun _ hk => ⟨hk.1.1, hk.2⟩)⟩, ⟨by (with_reducible repeat (first | refine blk_drewN ?_ _ | refine blk_drew ?_ | refine blk_alloc ?_ _)); exact BK242.out⟩, ⟨by (with_reducible repeat (first | refine blk_drewN ?_ _ | refine blk_drew ?_ | refine blk_alloc ?_ _)); exact BK243.out⟩, ⟨q40_0⟩, ⟨q40_1⟩⟩
   case round =>
    clear H'
    try clear c1
    try clear c2
    try clear c2b0
    try clear c2b1
    try clear p2
    try clear q2
    try clear hx2
    try clear qi2
    try clear c4
    try clear c6
    try clear c11
    try clear c11b0
    try clear c11b1
    try clear c15
    try clear hcz16_0
    try clear hcz16_1
    try clear hcz16_2
    try clear hcz22_0
    try clear hcz22_1
    try clear hcz22_2
    try clear hcz7_0
    try clear hcz7_1
    try clear hcz7_2
    try clear hcz8_0
    try clear hcz8_1
    try clear hcz8_2
    try clear hfz16_0
    try clear hfz16_1
    try clear hfz16_2
    try clear hfz22_0
    try clear hfz22_1
    try clear hfz22_2
    try clear hfz7_0
    try clear hfz7_1
    try clear hfz7_2
    try clear hfz8_0
    try clear hfz8_1
    try clear hfz8_2
    try clear hx248_0
    try clear hx248_1
    try clear p248
    try clear q248
    obtain ⟨x5_1, x26_1, rfl, HA, HK1, HO_5, HO_24, HO_243000, BK242, BK243, HK, HB⟩ := hrel
    cases gk with
    | zero => exact absurd HA.out (by simp [impl_cutTop.l0])
    | succ k1 =>
     have H := HA.out;clear HA
     simp only [impl_cutTop.l0] at H
     by_cases c23 : x26_1 < (l0_0.length : Int)
     ·
      rw [if_pos c23] at H
      have c23b0 : decide (x26_1 < (l0_0.length : Int)) = true := decide_eq_true c23
      clear c23
      by_cases c24 : 0 ≤ x26_1
      ·
       rw [if_pos c24] at H
       have c24b0 : decide (0 ≤ x26_1) = true := decide_eq_true c24
       clear c24
       by_cases c25 : x26_1 < (l0_0.length : Int)
       ·
        rw [if_pos c25] at H
        have c25b0 : decide (x26_1 < (l0_0.length : Int)) = true := decide_eq_true c25
        clear c25
        by_cases c26 : ((rd_T54 l0_0 x26_1).f1) > ((rd_T54 t247 4).f1)
        ·
         rw [if_pos c26] at H
         have c26b0 : decide (((rd_T54 t247 4).f1) < ((rd_T54 l0_0 x26_1).f1)) = true := decide_eq_true c26
         clear c26
         by_cases c27 : x5_1.length < 8796093022208
         ·
          rw [if_pos c27] at H
          have LMc27 := Aside0.mk c27;clear c27;obtain ⟨y254, hy254⟩ : ∃ y_ : List (S54), y_ = (x5_1 ++ [(⟨(rd_T54 l0_0 x26_1).f0, wrap64 (((rd_T54 l0_0 x26_1).f1) - ((rd_T54 t247 4).f1))⟩ : S54)]) := ⟨_, rfl⟩
          replace H : (impl_cutTop.l0 k1 ((rd_T54 t247 4).f1) y254 l0_0 (l0_0.length : Int) (wrap64 (x26_1 + 1)) l0_0 a0_1 a0_2) = some (r1, r2, r3) := by first | (rw [hy254]; with_reducible exact H) | (have H2_ := (Option.bind_some _ _).symm.trans H; rw [hy254]; with_reducible exact H2_) | (have H2_ := (Option.bind_some _ _).symm.trans H; with_reducible exact H2_) | with_reducible exact H | (rw [hy254]; exact H) | exact H
          have Ny254 := Aside0.mk hy254;clear hy254
          have H' := Aside0.mk H
          clear H
          have p252 : 0 ≤ (x26_1 : Int) := of_decide_eq_true q40_12
          have q252 : x26_1 < (l0_0.length : Int) := of_decide_eq_true q40_12
          obtain ⟨ad252, e252, hx252_0, hx252_1⟩ := at_T54 (Kd.R_reads' HO_24.out).2.2 x26_1 p252 q252
          cases e252
          replace p252 := eq_true p252
          replace q252 := eq_true q252
          go_wp2_with (first | ((with_reducible refine gate_dst (N := 7) rfl ?_); refine box_event ?hg (N := 7) ?hd (cs := #[.int .i64 0, .int .i64 0]) (t := 54) ?hr ?_; (case hd => rfl); (case hg => rfl); (case hr => exact q40_14); intro gb253 hg w28 hbox hb; have n0_ := Aside0.mk (Kd.R_below (Kd.R_elderB q40_23 gb253 (Nat.le_of_eq hg.symm)) hb); have n1_ := Aside0.mk (Kd.R_below (Kd.R_elderB q40_22 gb253 (Nat.le_of_eq hg.symm)) hb); have n2_ := Aside0.mk (Kd.R_below (Kd.R_elderB q40_20 gb253 (Nat.le_of_eq hg.symm)) hb); have n3_ := Aside0.mk (blk_below (g := gb242) (o := .cells #[.slice (some ad252) l0_0.length co12, .int .i64 a0_1, .int .i64 a0_2] 25 (0, 0)) q40_2 hb); have n4_ := Aside0.mk (blk_below (g := gb243) (o := .cells #[.slice none 0 0, .int .i64 0, .int .i64 0] 25 (0, 0)) q40_3 hb); have n5_ := Aside0.mk (Kept.below (S := (fun k_ => P0_0_ k_)) q40_0 hb); have n6_ := Aside0.mk (below_step q40_1 hb); have n7_ := Aside0.mk (hbox); have n8_ := Aside0.mk ((by rw [hg]; exact q40_13 : w.heap.size ≤ gb253)); have n9_ := Aside0.mk ((by rw [hg]; exact (below_size q40_1) : w0.heap.size ≤ gb253)); have n10_ := Aside0.mk ((q40_15 : gb242 ≠ gb253)); have n11_ := Aside0.mk ((q40_16 : gb253 ≠ gb242)); have n12_ := Aside0.mk ((q40_18 : gb243 ≠ gb253)); have n13_ := Aside0.mk ((q40_19 : gb253 ≠ gb243)); clear HO_5; clear HO_24; clear HO_243000; clear BK242; clear BK243; clear HK; clear HB; have HO_5 := n0_; have HO_24 := n1_; have HO_243000 := n2_; have BK242 := n3_; have BK243 := n4_; have HK := n5_; have HB := n6_; have BK253 := n7_; have GW253 := n8_; have GE253 := n9_; have NB242_253 := n10_; have NB253_242 := n11_; have NB243_253 := n12_; have NB253_243 := n13_; clear n0_ n1_ n2_ n3_ n4_ n5_ n6_ n7_ n8_ n9_ n10_ n11_ n12_ n13_; clear hb hbox hg; have hnb29 := NB253_242.out; have hnc29 := NB242_253.out; have hnb30 := NB253_243.out; have hnc30 := NB243_253.out; have hcz31_0 : w28.cell? ⟨gb253, 0, none⟩ = some (.int .i64 0) := (blk_cell BK253.out 0).trans rfl; have hcz31_1 : w28.cell? ⟨gb253, 1, none⟩ = some (.int .i64 0) := (blk_cell BK253.out 1).trans rfl; have hfz31_0 := blk_frozen BK253.out 0; have hfz31_1 := blk_frozen BK253.out 1) | ((with_reducible refine gate_builtin (b := .append) (xs := #[.tmp 34, .tmp 42]) rfl ?_); at_builtin; refine Kd.R_append k54 (w0 := w0) w0.heap.size rfl (.tmp 34) (.tmp 42) 23 54 (.agg #[(.int .i64 0), (.int .i64 0)]) 16 rfl Try.underlying23 info54 rfl (by decide) (by omega) u5 x5_1 (⟨(rd_T54 l0_0 x26_1).f0, wrap64 (((rd_T54 l0_0 x26_1).f1) - ((rd_T54 t247 4).f1))⟩ : S54) [.int .i64 ((rd_T54 l0_0 x26_1).f0), .int .i64 (wrap64 (((rd_T54 l0_0 x26_1).f1) - ((rd_T54 t247 4).f1)))] (fun k_ => (P0_0_ k_ ∨ w.heap.size ≤ k_) ∧ some k_ ≠ (.slice (some ad252) l0_0.length co12 : Value).ownBlock ∧ some k_ ≠ (.slice (some ad252) l0_0.length co12 : Value).ownBlock ∧ k_ ≠ gb253) (fun _ => False) rfl q40_14 ?aP (fun _ hk => hk.elim) ?aF ?aO ?aB ?aS ?aL ?_; (case aP => exact k54_mkM _ _ _ (⟨(rd_T54 l0_0 x26_1).f0, wrap64 (((rd_T54 l0_0 x26_1).f1) - ((rd_T54 t247 4).f1))⟩ : S54)); (case aB => exact q40_6); (case aF => exact (fun k_ hk => ⟨(.inr (Nat.le_trans (show Kept w _ (fun k_ => P0_0_ k_) from q40_4).1 hk)), Kd.fresh' (Kd.R_lt (by (with_reducible repeat (first | apply Kd.R_alloc | apply Kd.R_drewN | apply Kd.R_drew)); exact (Kd.R_mono (Kd.R_far (p := ⟨gb253, 1, none⟩) (Kd.R_far (p := ⟨gb253, 0, none⟩) (Kd.R_mono HO_24.out (fun k_ hk => (⟨hk, hk.2⟩ : _ ∧ k_ ≠ gb253))) (fun _ hk => hk.2) (.int .i64 ((rd_T54 l0_0 x26_1).f0))) (fun _ hk => hk.2) (.int .i64 ((rd_T54 l0_0 x26_1).f1))) (fun _ h_ => h_.1)))) k_ hk, Kd.fresh' (Kd.R_lt (by (with_reducible repeat (first | apply Kd.R_alloc | apply Kd.R_drewN | apply Kd.R_drew)); exact (Kd.R_mono (Kd.R_far (p := ⟨gb253, 1, none⟩) (Kd.R_far (p := ⟨gb253, 0, none⟩) (Kd.R_mono HO_243000.out (fun k_ hk => (⟨hk, hk.2⟩ : _ ∧ k_ ≠ gb253))) (fun _ hk => hk.2) (.int .i64 ((rd_T54 l0_0 x26_1).f0))) (fun _ hk => hk.2) (.int .i64 ((rd_T54 l0_0 x26_1).f1))) (fun _ h_ => h_.1)))) k_ hk, Kd.freshB (g := gb253) (o := .cells #[.int .i64 ((rd_T54 l0_0 x26_1).f0), .int .i64 ((rd_T54 l0_0 x26_1).f1)] 54 (0, 0)) q40_9 k_ hk⟩)); (case aO => exact (by (with_reducible repeat (first | apply Kd.R_alloc | apply Kd.R_drewN | apply Kd.R_drew)); exact Kd.R_mono (Kd.R_far (p := ⟨gb253, 1, none⟩) (Kd.R_far (p := ⟨gb253, 0, none⟩) (Kd.R_mono HO_5.out (fun k_ hk => (⟨hk, hk.2⟩ : _ ∧ k_ ≠ gb253))) (fun _ hk => hk.2) (.int .i64 ((rd_T54 l0_0 x26_1).f0))) (fun _ hk => hk.2) (.int .i64 ((rd_T54 l0_0 x26_1).f1))) (fun _ hk => ⟨hk.1.1.1, ⟨hk.1.1.2.1, ⟨hk.1.1.2.2, hk.1.2⟩⟩⟩))); (case aS => exact (below_size q40_6)); (case aL => have := LMc27.out; omega); intro v255 w32 ho hb hg hat; rw [← Ny254.out] at ho; have n0_ := Aside0.mk (Kd.R_after (ok := (fun k_ => (P0_0_ k_ ∨ w.heap.size ≤ k_) ∧ k_ ≠ gb253)) (by (with_reducible repeat (first | apply Kd.R_alloc | apply Kd.R_drewN | apply Kd.R_drew)); exact Kd.R_mono (Kd.R_far (p := ⟨gb253, 1, none⟩) (Kd.R_far (p := ⟨gb253, 0, none⟩) (Kd.R_mono HO_24.out (fun k_ hk => (⟨hk, hk.2⟩ : _ ∧ k_ ≠ gb253))) (fun _ hk => hk.2) (.int .i64 ((rd_T54 l0_0 x26_1).f0))) (fun _ hk => hk.2) (.int .i64 ((rd_T54 l0_0 x26_1).f1))) (fun _ hk => ⟨⟨hk.1.1.1, hk.1.2⟩, hk.1.1.2⟩)) hg hat); have n1_ := Aside0.mk (Kd.R_after (ok := (fun k_ => (P0_0_ k_ ∨ w.heap.size ≤ k_) ∧ k_ ≠ gb253)) (by (with_reducible repeat (first | apply Kd.R_alloc | apply Kd.R_drewN | apply Kd.R_drew)); exact Kd.R_mono (Kd.R_far (p := ⟨gb253, 1, none⟩) (Kd.R_far (p := ⟨gb253, 0, none⟩) (Kd.R_mono HO_243000.out (fun k_ hk => (⟨hk, hk.2⟩ : _ ∧ k_ ≠ gb253))) (fun _ hk => hk.2) (.int .i64 ((rd_T54 l0_0 x26_1).f0))) (fun _ hk => hk.2) (.int .i64 ((rd_T54 l0_0 x26_1).f1))) (fun _ hk => ⟨⟨hk.1.1.1, hk.1.2⟩, hk.1.1.2⟩)) hg hat); have n2_ := Aside0.mk (blk_grown (g := gb242) (o := .cells #[.slice (some ad252) l0_0.length co12, .int .i64 a0_1, .int .i64 a0_2] 25 (0, 0)) (by (with_reducible repeat (first | refine blk_drewN ?_ _ | refine blk_drew ?_ | refine blk_alloc ?_ _)); refine blk_far ?_ NB242_253.out _; (with_reducible repeat (first | refine blk_drewN ?_ _ | refine blk_drew ?_ | refine blk_alloc ?_ _)); refine blk_far ?_ NB242_253.out _; (with_reducible repeat (first | refine blk_drewN ?_ _ | refine blk_drew ?_ | refine blk_alloc ?_ _)); exact BK242.out) hg (Kd.R_ne HO_5.out BK242.out (by decide))); have n3_ := Aside0.mk (blk_grown (g := gb243) (o := .cells #[.slice none 0 0, .int .i64 0, .int .i64 0] 25 (0, 0)) (by (with_reducible repeat (first | refine blk_drewN ?_ _ | refine blk_drew ?_ | refine blk_alloc ?_ _)); refine blk_far ?_ NB243_253.out _; (with_reducible repeat (first | refine blk_drewN ?_ _ | refine blk_drew ?_ | refine blk_alloc ?_ _)); refine blk_far ?_ NB243_253.out _; (with_reducible repeat (first | refine blk_drewN ?_ _ | refine blk_drew ?_ | refine blk_alloc ?_ _)); exact BK243.out) hg (Kd.R_ne HO_5.out BK243.out (by decide))); have n4_ := Aside0.mk (blk_grown (g := gb253) (o := .cells #[.int .i64 ((rd_T54 l0_0 x26_1).f0), .int .i64 ((rd_T54 l0_0 x26_1).f1)] 54 (0, 0)) q40_9 hg (Kd.R_away HO_5.out (fun _ hk => hk.2))); have n5_ := Aside0.mk (hb); have n6_ := Aside0.mk (Kept.of_grown (S := (fun k_ => P0_0_ k_)) hg q40_4 (fun k_ e_ => (HO_5.out.1 k_ e_).1.1)); have n7_ := Aside0.mk (ho); clear HO_24; clear HO_243000; clear BK242; clear BK243; clear BK253; clear HB; clear HK; clear HO_5; have HO_24 := n0_; have HO_243000 := n1_; have BK242 := n2_; have BK243 := n3_; have BK253 := n4_; have HB := n5_; have HK := n6_; have HO256 := n7_; clear n0_ n1_ n2_ n3_ n4_ n5_ n6_ n7_; clear ho hb hg hat))
          go_roundg k1
          case measure => have := HK1.out; omega
          case rel => exact ⟨(y254), (wrap64 (x26_1 + 1)), (by first | rfl | (simp; done) | (simp [*]; done)), H', ⟨by have := HK1.out; omega⟩, ⟨by (with_reducible repeat (first | apply Kd.R_alloc | apply Kd.R_drewN | apply Kd.R_drew)); exact Kd.R_mono HO256.out (fun _ hk => ⟨hk.1, ⟨hk.2.1, hk.2.2.1⟩⟩)⟩, ⟨by (with_reducible repeat (first | apply Kd.R_alloc | apply Kd.R_drewN | apply Kd.R_drew)); exact Kd.R_mono HO_24.out (fun _ hk => ⟨hk.1.1, hk.2⟩)⟩, ⟨by (with_reducible repeat (first | apply Kd.R_alloc | apply Kd.R_drewN | apply Kd.R_drew)); exact Kd.R_mono HO_243000.out (fun _ hk => ⟨hk.1.1, hk.2⟩)⟩, ⟨by (with_reducible repeat (first | refine blk_drewN ?_ _ | refine blk_drew ?_ | refine blk_alloc ?_ _)); exact BK242.out⟩, ⟨by (with_reducible repeat (first | refine blk_drewN ?_ _ | refine blk_drew ?_ | refine blk_alloc ?_ _)); exact BK243.out⟩, ⟨q40_4⟩, ⟨q40_6⟩⟩
         ·
          rw [if_neg c27] at H
          exact absurd H (by simp)
        ·
         rw [if_neg c26] at H
         have c26b0 : decide (((rd_T54 t247 4).f1) < ((rd_T54 l0_0 x26_1).f1)) = false := decide_eq_false c26
         clear c26
         have H' := Aside0.mk H
         clear H
         have p252 : 0 ≤ (x26_1 : Int) := of_decide_eq_true q40_12
         have q252 : x26_1 < (l0_0.length : Int) := of_decide_eq_true q40_12
         obtain ⟨ad252, e252, hx252_0, hx252_1⟩ := at_T54 (Kd.R_reads' HO_24.out).2.2 x26_1 p252 q252
         cases e252
         replace p252 := eq_true p252
         replace q252 := eq_true q252
         go_wp2_with (first | ((with_reducible refine gate_dst (N := 7) rfl ?_); refine box_event ?hg (N := 7) ?hd (cs := #[.int .i64 0, .int .i64 0]) (t := 54) ?hr ?_; (case hd => rfl); (case hg => rfl); (case hr => exact q40_14); intro gb253 hg w33 hbox hb; have n0_ := Aside0.mk (Kd.R_below (Kd.R_elderB q40_23 gb253 (Nat.le_of_eq hg.symm)) hb); have n1_ := Aside0.mk (Kd.R_below (Kd.R_elderB q40_22 gb253 (Nat.le_of_eq hg.symm)) hb); have n2_ := Aside0.mk (Kd.R_below (Kd.R_elderB q40_20 gb253 (Nat.le_of_eq hg.symm)) hb); have n3_ := Aside0.mk (blk_below (g := gb242) (o := .cells #[.slice (some ad252) l0_0.length co12, .int .i64 a0_1, .int .i64 a0_2] 25 (0, 0)) q40_2 hb); have n4_ := Aside0.mk (blk_below (g := gb243) (o := .cells #[.slice none 0 0, .int .i64 0, .int .i64 0] 25 (0, 0)) q40_3 hb); have n5_ := Aside0.mk (Kept.below (S := (fun k_ => P0_0_ k_)) q40_0 hb); have n6_ := Aside0.mk (below_step q40_1 hb); have n7_ := Aside0.mk (hbox); have n8_ := Aside0.mk ((by rw [hg]; exact q40_13 : w.heap.size ≤ gb253)); have n9_ := Aside0.mk ((by rw [hg]; exact (below_size q40_1) : w0.heap.size ≤ gb253)); have n10_ := Aside0.mk ((q40_15 : gb242 ≠ gb253)); have n11_ := Aside0.mk ((q40_16 : gb253 ≠ gb242)); have n12_ := Aside0.mk ((q40_18 : gb243 ≠ gb253)); have n13_ := Aside0.mk ((q40_19 : gb253 ≠ gb243)); clear HO_5; clear HO_24; clear HO_243000; clear BK242; clear BK243; clear HK; clear HB; have HO_5 := n0_; have HO_24 := n1_; have HO_243000 := n2_; have BK242 := n3_; have BK243 := n4_; have HK := n5_; have HB := n6_; have BK253 := n7_; have GW253 := n8_; have GE253 := n9_; have NB242_253 := n10_; have NB253_242 := n11_; have NB243_253 := n12_; have NB253_243 := n13_; clear n0_ n1_ n2_ n3_ n4_ n5_ n6_ n7_ n8_ n9_ n10_ n11_ n12_ n13_; clear hb hbox hg; have hnb34 := NB253_242.out; have hnc34 := NB242_253.out; have hnb35 := NB253_243.out; have hnc35 := NB243_253.out; have hcz36_0 : w33.cell? ⟨gb253, 0, none⟩ = some (.int .i64 0) := (blk_cell BK253.out 0).trans rfl; have hcz36_1 : w33.cell? ⟨gb253, 1, none⟩ = some (.int .i64 0) := (blk_cell BK253.out 1).trans rfl; have hfz36_0 := blk_frozen BK253.out 0; have hfz36_1 := blk_frozen BK253.out 1))
         go_roundg k1
         case measure => have := HK1.out; omega
         case rel => exact ⟨(x5_1), (wrap64 (x26_1 + 1)), (by first | rfl | (simp; done) | (simp [*]; done)), H', ⟨by have := HK1.out; omega⟩, ⟨by (with_reducible repeat (first | apply Kd.R_alloc | apply Kd.R_drewN | apply Kd.R_drew)); exact Kd.R_mono (Kd.R_far (p := ⟨gb253, 1, none⟩) (Kd.R_far (p := ⟨gb253, 0, none⟩) (Kd.R_mono HO_5.out (fun k_ hk => (⟨hk, hk.2⟩ : _ ∧ k_ ≠ gb253))) (fun _ hk => hk.2) (.int .i64 ((rd_T54 l0_0 x26_1).f0))) (fun _ hk => hk.2) (.int .i64 ((rd_T54 l0_0 x26_1).f1))) (fun _ hk => ⟨hk.1.1.1, ⟨hk.1.1.2.1, hk.1.1.2.2⟩⟩)⟩, ⟨by (with_reducible repeat (first | apply Kd.R_alloc | apply Kd.R_drewN | apply Kd.R_drew)); exact Kd.R_mono (Kd.R_far (p := ⟨gb253, 1, none⟩) (Kd.R_far (p := ⟨gb253, 0, none⟩) (Kd.R_mono HO_24.out (fun k_ hk => (⟨hk, hk.2⟩ : _ ∧ k_ ≠ gb253))) (fun _ hk => hk.2) (.int .i64 ((rd_T54 l0_0 x26_1).f0))) (fun _ hk => hk.2) (.int .i64 ((rd_T54 l0_0 x26_1).f1))) (fun _ hk => ⟨hk.1.1.1, hk.1.1.2⟩)⟩, ⟨by (with_reducible repeat (first | apply Kd.R_alloc | apply Kd.R_drewN | apply Kd.R_drew)); exact Kd.R_mono (Kd.R_far (p := ⟨gb253, 1, none⟩) (Kd.R_far (p := ⟨gb253, 0, none⟩) (Kd.R_mono HO_243000.out (fun k_ hk => (⟨hk, hk.2⟩ : _ ∧ k_ ≠ gb253))) (fun _ hk => hk.2) (.int .i64 ((rd_T54 l0_0 x26_1).f0))) (fun _ hk => hk.2) (.int .i64 ((rd_T54 l0_0 x26_1).f1))) (fun _ hk => ⟨hk.1.1.1, hk.1.1.2⟩)⟩, ⟨by (with_reducible repeat (first | refine blk_drewN ?_ _ | refine blk_drew ?_ | refine blk_alloc ?_ _)); refine blk_far ?_ NB242_253.out _; (with_reducible repeat (first | refine blk_drewN ?_ _ | refine blk_drew ?_ | refine blk_alloc ?_ _)); refine blk_far ?_ NB242_253.out _; (with_reducible repeat (first | refine blk_drewN ?_ _ | refine blk_drew ?_ | refine blk_alloc ?_ _)); exact BK242.out⟩, ⟨by (with_reducible repeat (first | refine blk_drewN ?_ _ | refine blk_drew ?_ | refine blk_alloc ?_ _)); refine blk_far ?_ NB243_253.out _; (with_reducible repeat (first | refine blk_drewN ?_ _ | refine blk_drew ?_ | refine blk_alloc ?_ _)); refine blk_far ?_ NB243_253.out _; (with_reducible repeat (first | refine blk_drewN ?_ _ | refine blk_drew ?_ | refine blk_alloc ?_ _)); exact BK243.out⟩, ⟨q40_4⟩, ⟨q40_6⟩⟩
       ·
        rw [if_neg c25] at H
        exact absurd H (by simp)
      ·
       rw [if_neg c24] at H
       exact absurd H (by simp)
     ·
      rw [if_neg c23] at H
      have c23b0 : decide (x26_1 < (l0_0.length : Int)) = false := decide_eq_false c23
      clear c23
      simp only [Option.some.injEq, Prod.mk.injEq] at H
      obtain ⟨rfl, rfl, rfl⟩ := H;have hnb37 := NB242_243.out;have hnc37 := NB243_242.out
      have hcz38_0 : wr.cell? ⟨gb242, 0, none⟩ = some (.slice Ao12 l0_0.length co12) := (blk_cell BK242.out 0).trans rfl
      have hcz38_1 : wr.cell? ⟨gb242, 1, none⟩ = some (.int .i64 a0_1) := (blk_cell BK242.out 1).trans rfl
      have hcz38_2 : wr.cell? ⟨gb242, 2, none⟩ = some (.int .i64 a0_2) := (blk_cell BK242.out 2).trans rfl
      have hfz38_0 := blk_frozen BK242.out 0;have hfz38_1 := blk_frozen BK242.out 1;have hfz38_2 := blk_frozen BK242.out 2;obtain ⟨Ao39, co39, eo39⟩ := Kd.R_slice HO_5.out;subst eo39
      have hcz40_0 : wr.cell? ⟨gb243, 0, none⟩ = some (.slice none 0 0) := (blk_cell BK243.out 0).trans rfl
      have hcz40_1 : wr.cell? ⟨gb243, 1, none⟩ = some (.int .i64 0) := (blk_cell BK243.out 1).trans rfl
      have hcz40_2 : wr.cell? ⟨gb243, 2, none⟩ = some (.int .i64 0) := (blk_cell BK243.out 2).trans rfl
      have hfz40_0 := blk_frozen BK243.out 0;have hfz40_1 := blk_frozen BK243.out 1;have hfz40_2 := blk_frozen BK243.out 2
      go_wp2
      refine bodyPost_ret (results_cell_row rfl _ _ gb243 25 #[.slice Ao39 x5_1.length co39, .int .i64 (wrap64 (a0_1 + ((rd_T54 t247 4).f1))), .int .i64 a0_2] (0, 0) _ rfl (by (with_reducible repeat (first | refine blk_drewN ?_ _ | refine blk_drew ?_ | refine blk_alloc ?_ _)); refine blk_put (cs := #[.slice Ao39 x5_1.length co39, .int .i64 (wrap64 (a0_1 + ((rd_T54 t247 4).f1))), .int .i64 0]) ?_ 2 _ rfl; (with_reducible repeat (first | refine blk_drewN ?_ _ | refine blk_drew ?_ | refine blk_alloc ?_ _)); refine blk_put (cs := #[.slice Ao39 x5_1.length co39, .int .i64 0, .int .i64 0]) ?_ 1 _ rfl; (with_reducible repeat (first | refine blk_drewN ?_ _ | refine blk_drew ?_ | refine blk_alloc ?_ _)); refine blk_put (cs := #[.slice none 0 0, .int .i64 0, .int .i64 0]) ?_ 0 _ rfl; (with_reducible repeat (first | refine blk_drewN ?_ _ | refine blk_drew ?_ | refine blk_alloc ?_ _)); exact BK243.out) Try.underlying25 rfl (by kernel_rfl)) rfl ?_
      exact ⟨_, by first | rfl | (simp [errW_none, errW_some] <;> rfl) | (simp [*, errW_none, errW_some] <;> rfl), by (with_reducible repeat (first | apply Kd.R_alloc | apply Kd.R_drewN | apply Kd.R_drew)); exact Kd.R_mono (Kd.R_far (p := ⟨gb243, 2, none⟩) (Kd.R_far (p := ⟨gb243, 1, none⟩) (Kd.R_far (p := ⟨gb243, 0, none⟩) (Kd.R_types HO_5.out BK243.out (by decide)) (fun _ hk => hk.2) (.slice Ao39 x5_1.length co39)) (fun _ hk => hk.2) (.int .i64 (wrap64 (a0_1 + ((rd_T54 t247 4).f1))))) (fun _ hk => hk.2) (.int .i64 a0_2)) (fun _ hk => hk.1.1), q40_1, q40_0⟩
  ·
   rw [if_neg c11] at H
   exact absurd H (by simp)

end Go.Proofs.Ytlobnnakikgcnaa.PA
