-- Made by a program of this session (wip/tools/pr2.sh) out of the translation, by way of the printer: shared by the seat's laws.
import Derived.Test.YtiaopahggjfggaaPAx0
import Derived.Test.YtiaopahggjfggaaPAx13
import Derived.Test.YtiaopahggjfggaaPAx40
import Derived.Test.YtiaopahggjfggaaPAx41
import Derived.Test.YtiaopahggjfggaaPAx49
namespace Go.Proofs.Ytiaopahggjfggaa.PA
open Go.RowKit Go.Proofs.YtiaopahggjfggaaW.PrintWords Go.Proofs.YtiaopahggjfggaaW.PrintLast Go.Proofs.YtiaopahggjfggaaW.PrintMore
attribute [local go_sem] max2_int min2_int max_two min_two max_three min_three max_four min_four   -- for this text's walks alone
set_option linter.unusedVariables false
set_option linter.unusedSimpArgs false

/-! ### laws_FnFewHasAll: function 12 -/
mutual
def laws_FnFewHasAll.j0 : Nat → Bool → Bool → Bool → Bool → Bool → List Int → Option (Bool)
  | 0, _, _, _, _, _, _ => none
  | k + 1, x5, x6, x7, x8, x45, x455000 => if x45 = true then (if (x7 == x5) = true then (some (x8 == x6)) else (some false)) else (laws_FnFewHasAll.l0 k x7 x8 0 0 x455000)
def laws_FnFewHasAll.l0 : Nat → Bool → Bool → Int → Int → List Int → Option (Bool)
  | 0, _, _, _, _, _ => none
  | k + 1, x7, x8, x9, x10, x455000 => if x10 < 64 then ((impl_FewHas.f k x455000 x10).bind fun bt460 => (if bt460.1 = true then (laws_FnFewHasAll.l0 k x7 x8 (wrap64 (x9 + 1)) (wrap64 (x10 + 1)) x455000) else (laws_FnFewHasAll.l0 k x7 x8 x9 (wrap64 (x10 + 1)) x455000))) else (if x9 = (x455000.length : Int) then (if x7 = true then (some x8) else (some true)) else (some false))
end
def laws_FnFewHasAll.f (k : Nat) (l0 : List Int) : Option (Bool) := if (l0.length : Int) > 1048576 then (some true) else ((spec_DrawFewHas.f k l0).bind fun bt450 => ((spec_FewHas.f k bt450.1 bt450.2).bind fun bt455 => ((impl_FewHas.f k bt450.1 bt450.2).bind fun bt457 => (if (bt457.1 != bt455.1) = true then (laws_FnFewHasAll.j0 k bt455.1 bt455.2 bt457.1 bt457.2 true bt450.1) else (if (bt457.2 != bt455.2) = true then (laws_FnFewHasAll.j0 k bt455.1 bt455.2 bt457.1 bt457.2 true bt450.1) else ((spec_FewOk.f k bt450.1).bind fun t459 => (laws_FnFewHasAll.j0 k bt455.1 bt455.2 bt457.1 bt457.2 (!t459) bt450.1)))))))
theorem laws_FnFewHasAll.mono_l : ∀ k, (∀ y0 y1 y2 y3 y4 y5, LeO (laws_FnFewHasAll.j0 k y0 y1 y2 y3 y4 y5) (laws_FnFewHasAll.j0 (k + 1) y0 y1 y2 y3 y4 y5)) ∧ (∀ y0 y1 y2 y3 y4, LeO (laws_FnFewHasAll.l0 k y0 y1 y2 y3 y4) (laws_FnFewHasAll.l0 (k + 1) y0 y1 y2 y3 y4))
  | 0 => ⟨fun _ _ _ _ _ _ r h => by simp [laws_FnFewHasAll.j0] at h, fun _ _ _ _ _ r h => by simp [laws_FnFewHasAll.l0] at h⟩
  | k + 1 => by
    obtain ⟨ih0, ih1⟩ := laws_FnFewHasAll.mono_l k
    refine ⟨?_, ?_⟩
    · intro y0 y1 y2 y3 y4 y5
      unfold laws_FnFewHasAll.j0
      repeat' first
      | (with_reducible exact ih0 _ _ _ _ _ _)
      | (with_reducible exact ih1 _ _ _ _ _)
      | (with_reducible exact impl_FewHas.mono _ _ _)
      | (with_reducible exact spec_DrawFewHas.mono _ _)
      | (with_reducible exact spec_FewHas.mono _ _ _)
      | (with_reducible exact spec_FewOk.mono _ _)
      | (with_reducible exact LeO.refl _)
      | (with_reducible exact LeO.none _)
      | (with_reducible refine LeO.ite ?_ ?_)
      | (with_reducible refine LeO.bind ?_ (fun _ => ?_))
      | exact ih0 _ _ _ _ _ _
      | exact ih1 _ _ _ _ _
      | exact impl_FewHas.mono _ _ _
      | exact spec_DrawFewHas.mono _ _
      | exact spec_FewHas.mono _ _ _
      | exact spec_FewOk.mono _ _
      | exact LeO.none _
      | refine LeO.ite ?_ ?_
      | refine LeO.bind ?_ (fun _ => ?_)
    · intro y0 y1 y2 y3 y4
      unfold laws_FnFewHasAll.l0
      repeat' first
      | (with_reducible exact ih0 _ _ _ _ _ _)
      | (with_reducible exact ih1 _ _ _ _ _)
      | (with_reducible exact impl_FewHas.mono _ _ _)
      | (with_reducible exact spec_DrawFewHas.mono _ _)
      | (with_reducible exact spec_FewHas.mono _ _ _)
      | (with_reducible exact spec_FewOk.mono _ _)
      | (with_reducible exact LeO.refl _)
      | (with_reducible exact LeO.none _)
      | (with_reducible refine LeO.ite ?_ ?_)
      | (with_reducible refine LeO.bind ?_ (fun _ => ?_))
      | exact ih0 _ _ _ _ _ _
      | exact ih1 _ _ _ _ _
      | exact impl_FewHas.mono _ _ _
      | exact spec_DrawFewHas.mono _ _
      | exact spec_FewHas.mono _ _ _
      | exact spec_FewOk.mono _ _
      | exact LeO.none _
      | refine LeO.ite ?_ ?_
      | refine LeO.bind ?_ (fun _ => ?_)
theorem laws_FnFewHasAll.mono : ∀ a0 k, LeO (laws_FnFewHasAll.f k a0) (laws_FnFewHasAll.f (k + 1) a0) := by
  intro a0 k
  obtain ⟨ih0, ih1⟩ := laws_FnFewHasAll.mono_l k
  unfold laws_FnFewHasAll.f
  repeat' first
      | (with_reducible exact ih0 _ _ _ _ _ _)
      | (with_reducible exact ih1 _ _ _ _ _)
      | (with_reducible exact impl_FewHas.mono _ _ _)
      | (with_reducible exact spec_DrawFewHas.mono _ _)
      | (with_reducible exact spec_FewHas.mono _ _ _)
      | (with_reducible exact spec_FewOk.mono _ _)
      | (with_reducible exact LeO.refl _)
      | (with_reducible exact LeO.none _)
      | (with_reducible refine LeO.ite ?_ ?_)
      | (with_reducible refine LeO.bind ?_ (fun _ => ?_))
      | exact ih0 _ _ _ _ _ _
      | exact ih1 _ _ _ _ _
      | exact impl_FewHas.mono _ _ _
      | exact spec_DrawFewHas.mono _ _
      | exact spec_FewHas.mono _ _ _
      | exact spec_FewOk.mono _ _
      | exact LeO.none _
      | refine LeO.ite ?_ ?_
      | refine LeO.bind ?_ (fun _ => ?_)
set_option maxHeartbeats 8000000 in
set_option maxRecDepth 100000 in
theorem laws_FnFewHasAll.calls (k : Nat) (A0 : Option Addr) (c0 : Nat) (l0 : List Int) (r : Bool) (w : World) (hr0 : Kd.C (Kd.int .u8) w A0 l0.length l0) (hc0 : l0.length ≤ c0) (h : laws_FnFewHasAll.f k l0 = some r) :
    Calls Try.prog 12 #[.slice A0 l0.length c0] w fun e w' => e = .returned (.bool r) ∧ Below w.heap.size w w' := by
  have hu32 := Try.underlying32
  have HR0 := Aside0.mk hr0
  have HC0 := Aside0.mk hc0
  clear hr0 hc0
  have HB := Aside0.mk (Below.refl w.heap.size w)
  have H : (if (l0.length : Int) > 1048576 then (some true) else ((spec_DrawFewHas.f k l0).bind fun bt450 => ((spec_FewHas.f k bt450.1 bt450.2).bind fun bt455 => ((impl_FewHas.f k bt450.1 bt450.2).bind fun bt457 => (if (bt457.1 != bt455.1) = true then (laws_FnFewHasAll.j0 k bt455.1 bt455.2 bt457.1 bt457.2 true bt450.1) else (if (bt457.2 != bt455.2) = true then (laws_FnFewHasAll.j0 k bt455.1 bt455.2 bt457.1 bt457.2 true bt450.1) else ((spec_FewOk.f k bt450.1).bind fun t459 => (laws_FnFewHasAll.j0 k bt455.1 bt455.2 bt457.1 bt457.2 (!t459) bt450.1)))))))) = some r := h
  clear h
  by_cases c2 : (l0.length : Int) > 1048576
  · rw [if_pos c2] at H
    have c2b0 : decide (1048576 < (l0.length : Int)) = true := decide_eq_true c2
    have c2b1 : decide (1048576 < l0.length) = true := decide_eq_true (by omega)
    clear c2
    obtain rfl := Option.some.inj H
    go_enter Try.func12, Try.ntmps12
    go_wp2
    go_ret
    exact ⟨by first | rfl | (simp [errW_none, errW_some] <;> rfl) | (simp [*, errW_none, errW_some] <;> rfl), by repeat (first | (with_reducible first | exact HB.out | apply below_alloc | apply pw_below_drewN | apply below_drew1) | exact HB.out)⟩
  · rw [if_neg c2] at H
    have c2b0 : decide (1048576 < (l0.length : Int)) = false := decide_eq_false c2
    have c2b1 : decide (1048576 < l0.length) = false := decide_eq_false (by omega)
    clear c2
    replace H := Option.bind_eq_some_iff.mp H
    obtain ⟨⟨t450, t453⟩, A30, H⟩ := H
    replace H : ((spec_FewHas.f k t450 t453).bind fun bt455 => ((impl_FewHas.f k t450 t453).bind fun bt457 => (if (bt457.1 != bt455.1) = true then (laws_FnFewHasAll.j0 k bt455.1 bt455.2 bt457.1 bt457.2 true t450) else (if (bt457.2 != bt455.2) = true then (laws_FnFewHasAll.j0 k bt455.1 bt455.2 bt457.1 bt457.2 true t450) else ((spec_FewOk.f k t450).bind fun t459 => (laws_FnFewHasAll.j0 k bt455.1 bt455.2 bt457.1 bt457.2 (!t459) t450)))))) = some r := H
    have A3 := Aside0.mk A30
    clear A30
    replace H := Option.bind_eq_some_iff.mp H
    obtain ⟨⟨t455, t456⟩, A40, H⟩ := H
    replace H : ((impl_FewHas.f k t450 t453).bind fun bt457 => (if (bt457.1 != t455) = true then (laws_FnFewHasAll.j0 k t455 t456 bt457.1 bt457.2 true t450) else (if (bt457.2 != t456) = true then (laws_FnFewHasAll.j0 k t455 t456 bt457.1 bt457.2 true t450) else ((spec_FewOk.f k t450).bind fun t459 => (laws_FnFewHasAll.j0 k t455 t456 bt457.1 bt457.2 (!t459) t450))))) = some r := H
    have A4 := Aside0.mk A40
    clear A40
    replace H := Option.bind_eq_some_iff.mp H
    obtain ⟨⟨t457, t458⟩, A50, H⟩ := H
    replace H : (if (t457 != t455) = true then (laws_FnFewHasAll.j0 k t455 t456 t457 t458 true t450) else (if (t458 != t456) = true then (laws_FnFewHasAll.j0 k t455 t456 t457 t458 true t450) else ((spec_FewOk.f k t450).bind fun t459 => (laws_FnFewHasAll.j0 k t455 t456 t457 t458 (!t459) t450)))) = some r := H
    have A5 := Aside0.mk A50
    clear A50
    have HC6 := Aside0.mk H
    clear H
    go_enter Try.func12, Try.ntmps12
    go_upto_region 6 with (first | ((with_reducible refine gate_callee (f := 36) rfl ?_); refine goesL_ (some 18) rfl rfl Try.func36 (by kernel_rfl) rfl #[.slice A0 l0.length c0] rfl (by (try simp only [List.map_toArray, List.map_cons, List.map_nil]); first | done | rfl | (simp only [List.length_drop, List.length_take]; rfl)) ?_; (with_reducible refine (spec_DrawFewHas.calls k _ _ l0 t450 t453 _ ?side1 ?side2 A3.out).mono ?_); (case side1 => repeat (first | exact HR0.out | (with_reducible refine Kd.C_alloc ?_ _) | (with_reducible refine Kd.C_drewN ?_ _) | (with_reducible refine Kd.C_drew ?_))); (case side2 => exact HC0.out); rintro e w7 ⟨v451, rfl, ho0, hb⟩; refine ⟨_, rfl, ?_⟩; have n0_ := Aside0.mk (Kd.R_lower ho0 (below_size (by repeat (first | (with_reducible first | exact HB.out | apply below_alloc | apply pw_below_drewN | apply below_drew1) | exact HB.out)))); have n1_ := Aside0.mk (below_step (by repeat (first | (with_reducible first | exact HB.out | apply below_alloc | apply pw_below_drewN | apply below_drew1) | exact HB.out)) hb); clear HB; have HO452 := n0_; have HB := n1_; clear n0_ n1_; (try clear hb); (try clear hb2); (try clear hk); (try clear hi); (try clear ho0)) | ((with_reducible refine gate_dst (N := 3) rfl ?_); refine box_event ?hg (N := 3) ?hd (cs := #[.slice none 0 0]) (t := 32) ?hr ?_; (case hd => rfl); (case hg => rfl); (case hr => first | (go_simp; done) | (go_simp; rfl)); intro gb454 hg w8 hbox hb; have n0_ := Aside0.mk (Kd.R_below (by (with_reducible repeat (first | apply Kd.R_alloc | apply Kd.R_drewN | apply Kd.R_drew)); exact HO452.out) hb); have n1_ := Aside0.mk (below_step (by repeat (first | (with_reducible first | exact HB.out | apply below_alloc | apply pw_below_drewN | apply below_drew1) | exact HB.out)) hb); have n2_ := Aside0.mk (hbox); have n3_ := Aside0.mk ((by rw [hg]; exact (below_size (by repeat (first | (with_reducible first | exact HB.out | apply below_alloc | apply pw_below_drewN | apply below_drew1) | exact HB.out))) : w.heap.size ≤ gb454)); have n4_ := Aside0.mk ((by rw [hg]; exact (below_size (by repeat (first | (with_reducible first | exact HB.out | apply below_alloc | apply pw_below_drewN | apply below_drew1) | exact HB.out))) : w.heap.size ≤ gb454)); clear HO452; clear HB; have HO452 := n0_; have HB := n1_; have BK454 := n2_; have GW454 := n3_; have GE454 := n4_; clear n0_ n1_ n2_ n3_ n4_; clear hb hbox hg; obtain ⟨Ao9, co9, eo9⟩ := Kd.R_slice HO452.out; subst eo9; have hcz10_0 : w8.cell? ⟨gb454, 0, none⟩ = some (.slice none 0 0) := (blk_cell BK454.out 0).trans rfl; have hfz10_0 := blk_frozen BK454.out 0) | ((with_reducible refine gate_callee (f := 31) rfl ?_); refine goesL_ (some 24) rfl rfl Try.func31 (by kernel_rfl) rfl #[.agg #[.slice Ao9 t450.length co9], .int .i64 t453] rfl (by (try simp only [List.map_toArray, List.map_cons, List.map_nil]); first | done | rfl | (simp only [List.length_drop, List.length_take]; rfl)) ?_; (with_reducible refine (spec_FewHas.calls k _ _ t450 t453 t455 t456 _ ?side1 ?side2 A4.out).mono ?_); (case side1 => refine (Kd.R_reads' (e := 3) (base := w.heap.size) (ok := fun k_ => True) (n := t450.length) (c := co9) ?_).2.2; exact (by (with_reducible repeat (first | apply Kd.R_alloc | apply Kd.R_drewN | apply Kd.R_drew)); exact (Kd.R_mono (Kd.R_far (p := ⟨gb454, 0, none⟩) (Kd.R_types HO452.out BK454.out (by decide)) (fun _ hk => hk.2) (.slice Ao9 t450.length co9)) (fun _ h_ => h_.1)))); (case side2 => exact (Kd.R_reads' HO452.out).2.1); rintro e w11 ⟨rfl, hb⟩; refine ⟨_, rfl, ?_⟩; have n0_ := Aside0.mk (Kd.R_below (by (with_reducible repeat (first | apply Kd.R_alloc | apply Kd.R_drewN | apply Kd.R_drew)); exact (Kd.R_mono (Kd.R_far (p := ⟨gb454, 0, none⟩) (Kd.R_types HO452.out BK454.out (by decide)) (fun _ hk => hk.2) (.slice Ao9 t450.length co9)) (fun _ h_ => h_.1))) hb); have n1_ := Aside0.mk (blk_below (g := gb454) (o := .cells #[.slice Ao9 t450.length co9] 32 (0, 0)) (by (with_reducible repeat (first | refine blk_drewN ?_ _ | refine blk_drew ?_ | refine blk_alloc ?_ _)); refine blk_put (cs := #[.slice none 0 0]) ?_ 0 _ rfl; (with_reducible repeat (first | refine blk_drewN ?_ _ | refine blk_drew ?_ | refine blk_alloc ?_ _)); exact BK454.out) hb); have n2_ := Aside0.mk (below_step (by repeat (first | (with_reducible first | exact HB.out | apply below_alloc | apply pw_below_drewN | apply below_drew1 | refine below_set ?_ GE454.out) | exact HB.out)) hb); clear HO452; clear BK454; clear HB; have HO452 := n0_; have BK454 := n1_; have HB := n2_; clear n0_ n1_ n2_; (try clear hb); (try clear hb2); (try clear hk); (try clear hi); have hcz12_0 : w11.cell? ⟨gb454, 0, none⟩ = some (.slice Ao9 t450.length co9) := (blk_cell BK454.out 0).trans rfl; have hfz12_0 := blk_frozen BK454.out 0) | ((with_reducible refine gate_callee (f := 32) rfl ?_); refine goesL_ (some 30) rfl rfl Try.func32 (by kernel_rfl) rfl #[.agg #[.slice Ao9 t450.length co9], .int .i64 t453] rfl (by (try simp only [List.map_toArray, List.map_cons, List.map_nil]); first | done | rfl | (simp only [List.length_drop, List.length_take]; rfl)) ?_; (with_reducible refine (impl_FewHas.calls k _ _ t450 t453 t457 t458 _ ?side1 ?side2 A5.out).mono ?_); (case side1 => repeat (first | exact (Kd.R_reads' HO452.out).2.2 | (with_reducible refine Kd.C_alloc ?_ _) | (with_reducible refine Kd.C_drewN ?_ _) | (with_reducible refine Kd.C_drew ?_))); (case side2 => exact (Kd.R_reads' HO452.out).2.1); rintro e w13 ⟨rfl, hb⟩; refine ⟨_, rfl, ?_⟩; have n0_ := Aside0.mk (Kd.R_below (by (with_reducible repeat (first | apply Kd.R_alloc | apply Kd.R_drewN | apply Kd.R_drew)); exact HO452.out) hb); have n1_ := Aside0.mk (blk_below (g := gb454) (o := .cells #[.slice Ao9 t450.length co9] 32 (0, 0)) (by (with_reducible repeat (first | refine blk_drewN ?_ _ | refine blk_drew ?_ | refine blk_alloc ?_ _)); exact BK454.out) hb); have n2_ := Aside0.mk (below_step (by repeat (first | (with_reducible first | exact HB.out | apply below_alloc | apply pw_below_drewN | apply below_drew1 | refine below_set ?_ GE454.out) | exact HB.out)) hb); clear HO452; clear BK454; clear HB; have HO452 := n0_; have BK454 := n1_; have HB := n2_; clear n0_ n1_ n2_; (try clear hb); (try clear hb2); (try clear hk); (try clear hi)))
    (try simp only [Act.put, List.setIfInBounds_toArray, List.set_cons_zero, List.set_cons_succ])
    go_cut [45] (fun v45 wc => ∃ (kq : Nat) (x45_5 : Bool), v45 = .bool x45_5 ∧ Aside0 (laws_FnFewHasAll.j0 kq t455 t456 t457 t458 x45_5 t450 = some r) ∧ Aside0 (kq ≤ k) ∧ Aside0 (Kd.R (Kd.int .i64) 3 wc w.heap.size (fun _ => True) (.slice Ao9 t450.length co9) t450) ∧ Aside0 (wc.heap[gb454]? = some (.cells #[(.slice Ao9 t450.length co9)] 32 (0, 0))) ∧ Aside0 (Below w.heap.size w wc))
    case first =>
      have H := HC6.out
      clear HC6
      by_cases c14 : (t457 != t455) = true
      · rw [if_pos c14] at H
        have c14b0 : (t457 != t455) = true := c14
        (try (have c14b1 : decide (t457 = t455) = false := by simpa using c14))
        (try (have c14b2 : (t457 == t455) = false := by simpa using c14))
        (try (have c14b3 : ¬ (t457 = t455) := by simpa using c14))
        clear c14
        (first | rw [c14b0] | (simp only [i64_w, i32_w]; rw [c14b0]) | skip)
        have H' := Aside0.mk H
        clear H
        go_wp2
        go_meet
        case rel => exact ⟨_, (true), (by first | rfl | (simp; done) | (simp [*]; done)), H', ⟨by first | omega | exact Nat.le_refl _⟩, ⟨by (with_reducible repeat (first | apply Kd.R_alloc | apply Kd.R_drewN | apply Kd.R_drew)); exact HO452.out⟩, ⟨by (with_reducible repeat (first | refine blk_drewN ?_ _ | refine blk_drew ?_ | refine blk_alloc ?_ _)); exact BK454.out⟩, ⟨by repeat (first | (with_reducible first | exact HB.out | apply below_alloc | apply pw_below_drewN | apply below_drew1 | refine below_set ?_ GE454.out) | exact HB.out)⟩⟩
      · rw [if_neg c14] at H
        have c14b0 : (t457 != t455) = false := by simpa using c14
        (try (have c14b1 : decide (t457 = t455) = true := by simpa using c14))
        (try (have c14b2 : (t457 == t455) = true := by simpa using c14))
        clear c14
        (first | rw [c14b0] | (simp only [i64_w, i32_w]; rw [c14b0]) | skip)
        by_cases c15 : (t458 != t456) = true
        · rw [if_pos c15] at H
          have c15b0 : (t458 != t456) = true := c15
          (try (have c15b1 : decide (t458 = t456) = false := by simpa using c15))
          (try (have c15b2 : (t458 == t456) = false := by simpa using c15))
          (try (have c15b3 : ¬ (t458 = t456) := by simpa using c15))
          clear c15
          have H' := Aside0.mk H
          clear H
          go_wp2
          go_meet
          case rel => exact ⟨_, (true), (by first | rfl | (simp; done) | (simp [*]; done)), H', ⟨by first | omega | exact Nat.le_refl _⟩, ⟨by (with_reducible repeat (first | apply Kd.R_alloc | apply Kd.R_drewN | apply Kd.R_drew)); exact HO452.out⟩, ⟨by (with_reducible repeat (first | refine blk_drewN ?_ _ | refine blk_drew ?_ | refine blk_alloc ?_ _)); exact BK454.out⟩, ⟨by repeat (first | (with_reducible first | exact HB.out | apply below_alloc | apply pw_below_drewN | apply below_drew1 | refine below_set ?_ GE454.out) | exact HB.out)⟩⟩
        · rw [if_neg c15] at H
          have c15b0 : (t458 != t456) = false := by simpa using c15
          (try (have c15b1 : decide (t458 = t456) = true := by simpa using c15))
          (try (have c15b2 : (t458 == t456) = true := by simpa using c15))
          clear c15
          replace H := Option.bind_eq_some_iff.mp H
          obtain ⟨t459, A160, H⟩ := H
          replace H : (laws_FnFewHasAll.j0 k t455 t456 t457 t458 (!t459) t450) = some r := H
          have A16 := Aside0.mk A160
          clear A160
          have H' := Aside0.mk H
          clear H
          have hcz17_0 : w13.cell? ⟨gb454, 0, none⟩ = some (.slice Ao9 t450.length co9) := (blk_cell BK454.out 0).trans rfl
          have hfz17_0 := blk_frozen BK454.out 0
          go_wp2_with (first | (go_at_call 19; (with_reducible refine (spec_FewOk.calls k _ _ t450 t459 _ ?side1 ?side2 A16.out).mono ?_); (case side1 => repeat (first | exact (Kd.R_reads' HO452.out).2.2 | (with_reducible refine Kd.C_alloc ?_ _) | (with_reducible refine Kd.C_drewN ?_ _) | (with_reducible refine Kd.C_drew ?_))); (case side2 => exact (Kd.R_reads' HO452.out).2.1); rintro e w18 ⟨rfl, hb⟩; have n0_ := Aside0.mk (Kd.R_below (by (with_reducible repeat (first | apply Kd.R_alloc | apply Kd.R_drewN | apply Kd.R_drew)); exact HO452.out) hb); have n1_ := Aside0.mk (blk_below (g := gb454) (o := .cells #[.slice Ao9 t450.length co9] 32 (0, 0)) (by (with_reducible repeat (first | refine blk_drewN ?_ _ | refine blk_drew ?_ | refine blk_alloc ?_ _)); exact BK454.out) hb); have n2_ := Aside0.mk (below_step (by repeat (first | (with_reducible first | exact HB.out | apply below_alloc | apply pw_below_drewN | apply below_drew1 | refine below_set ?_ GE454.out) | exact HB.out)) hb); clear HO452; clear BK454; clear HB; have HO452 := n0_; have BK454 := n1_; have HB := n2_; clear n0_ n1_ n2_; (try clear hb); (try clear hb2); (try clear hk); (try clear hi)))
          go_meet
          case rel => exact ⟨_, (!t459), (by first | rfl | (simp; done) | (simp [*]; done)), H', ⟨by first | omega | exact Nat.le_refl _⟩, ⟨by (with_reducible repeat (first | apply Kd.R_alloc | apply Kd.R_drewN | apply Kd.R_drew)); exact HO452.out⟩, ⟨by (with_reducible repeat (first | refine blk_drewN ?_ _ | refine blk_drew ?_ | refine blk_alloc ?_ _)); exact BK454.out⟩, ⟨by repeat (first | (with_reducible first | exact HB.out | apply below_alloc | apply pw_below_drewN | apply below_drew1 | refine below_set ?_ GE454.out) | exact HB.out)⟩⟩
    case rest =>
      clear HC6
      try clear c1
      try clear c2
      try clear c2b0
      try clear c2b1
      try clear p2
      try clear c3
      try clear c12
      try clear c14
      try clear c14b0
      try clear c14b1
      try clear c14b2
      try clear c15
      try clear c15b0
      try clear c15b1
      try clear c15b2
      try clear hcz10_0
      try clear hcz12_0
      try clear hcz17_0
      try clear hfz10_0
      try clear hfz12_0
      try clear hfz17_0
      obtain ⟨kq, x45_5, rfl, HA, HJ5, HO_455000, BK454, HB⟩ := hcut
      cases kq with
      | zero => exact absurd HA.out (by simp [laws_FnFewHasAll.j0])
      | succ kj5 =>
        have H := HA.out
        clear HA
        simp only [laws_FnFewHasAll.j0] at H
        by_cases c19 : x45_5 = true
        · subst c19
          have H1 : (if (t457 == t455) = true then (some (t458 == t456)) else (some false)) = some r := by rw [if_pos rfl] at H; exact H
          clear H
          have H := H1
          clear H1
          by_cases c20 : (t457 == t455) = true
          · rw [if_pos c20] at H
            have c20b0 : (t457 == t455) = true := c20
            (try (have c20b1 : decide (t457 = t455) = true := by simpa using c20))
            (try (have c20b2 : (t457 == t455) = true := by simpa using c20))
            clear c20
            obtain rfl := Option.some.inj H
            go_wp2
            go_ret
            exact ⟨by first | rfl | (simp [errW_none, errW_some] <;> rfl) | (simp [*, errW_none, errW_some] <;> rfl), by repeat (first | (with_reducible first | exact HB.out | apply below_alloc | apply pw_below_drewN | apply below_drew1 | refine below_set ?_ GE454.out) | exact HB.out)⟩
          · rw [if_neg c20] at H
            have c20b0 : (t457 == t455) = false := by simpa using c20
            (try (have c20b1 : decide (t457 = t455) = false := by simpa using c20))
            (try (have c20b2 : (t457 == t455) = false := by simpa using c20))
            (try (have c20b3 : ¬ (t457 = t455) := by simpa using c20))
            clear c20
            obtain rfl := Option.some.inj H
            go_wp2
            go_ret
            exact ⟨by first | rfl | (simp [errW_none, errW_some] <;> rfl) | (simp [*, errW_none, errW_some] <;> rfl), by repeat (first | (with_reducible first | exact HB.out | apply below_alloc | apply pw_below_drewN | apply below_drew1 | refine below_set ?_ GE454.out) | exact HB.out)⟩
        · replace c19 := Bool.eq_false_iff.mpr c19
          subst c19
          have H1 : (laws_FnFewHasAll.l0 kj5 t457 t458 0 0 t450) = some r := by rw [if_neg (show ¬ (false = true) by decide)] at H; exact H
          clear H
          have H := H1
          clear H1
          have H' := Aside0.mk H
          clear H
          go_wp2
          go_loopg [9, 10] kj5 (fun kq v9 v10 w' => ∃ (x9_2 : Int) (x10_2 : Int), v9 = .int .i64 x9_2 ∧ v10 = .int .i64 x10_2 ∧ Aside0 (laws_FnFewHasAll.l0 kq t457 t458 x9_2 x10_2 t450 = some r) ∧ Aside0 (kq ≤ kj5) ∧ Aside0 (Kd.R (Kd.int .i64) 3 w' w.heap.size (fun _ => True) (.slice Ao9 t450.length co9) t450) ∧ Aside0 (w'.heap[gb454]? = some (.cells #[(.slice Ao9 t450.length co9)] 32 (0, 0))) ∧ Aside0 (Below w.heap.size w w'))
          case atStart => exact ⟨(0), (0), (by first | rfl | (simp; done) | (simp [*]; done)), (by first | rfl | (simp; done) | (simp [*]; done)), H', ⟨Nat.le_refl _⟩, ⟨by (with_reducible repeat (first | apply Kd.R_alloc | apply Kd.R_drewN | apply Kd.R_drew)); exact HO_455000.out⟩, ⟨by (with_reducible repeat (first | refine blk_drewN ?_ _ | refine blk_drew ?_ | refine blk_alloc ?_ _)); exact BK454.out⟩, ⟨by repeat (first | (with_reducible first | exact HB.out | apply below_alloc | apply pw_below_drewN | apply below_drew1 | refine below_set ?_ GE454.out) | exact HB.out)⟩⟩
          case round =>
            clear H'
            try clear c1
            try clear c2
            try clear c2b0
            try clear c2b1
            try clear p2
            try clear c3
            try clear c12
            try clear c14
            try clear c14b0
            try clear c14b1
            try clear c14b2
            try clear c15
            try clear c15b0
            try clear c15b1
            try clear c15b2
            try clear c19
            try clear c20
            try clear c20b0
            try clear c20b1
            try clear c20b2
            try clear hcz10_0
            try clear hcz12_0
            try clear hcz17_0
            try clear hfz10_0
            try clear hfz12_0
            try clear hfz17_0
            try clear p2
            obtain ⟨x9_2, x10_2, rfl, rfl, HA, HK2, HO_455000, BK454, HB⟩ := hrel
            cases gk with
            | zero => exact absurd HA.out (by simp [laws_FnFewHasAll.l0])
            | succ k2 =>
              have H := HA.out
              clear HA
              simp only [laws_FnFewHasAll.l0] at H
              by_cases c21 : x10_2 < 64
              · rw [if_pos c21] at H
                have c21b0 : decide (x10_2 < 64) = true := decide_eq_true c21
                clear c21
                replace H := Option.bind_eq_some_iff.mp H
                obtain ⟨⟨t460, t461⟩, A220, H⟩ := H
                replace H : (if t460 = true then (laws_FnFewHasAll.l0 k2 t457 t458 (wrap64 (x9_2 + 1)) (wrap64 (x10_2 + 1)) t450) else (laws_FnFewHasAll.l0 k2 t457 t458 x9_2 (wrap64 (x10_2 + 1)) t450)) = some r := H
                have A22 := Aside0.mk A220
                clear A220
                by_cases c23 : t460 = true
                · subst c23
                  have H1 : (laws_FnFewHasAll.l0 k2 t457 t458 (wrap64 (x9_2 + 1)) (wrap64 (x10_2 + 1)) t450) = some r := by rw [if_pos rfl] at H; exact H
                  clear H
                  have H := H1
                  clear H1
                  have H' := Aside0.mk H
                  clear H
                  have hcz24_0 : wr.cell? ⟨gb454, 0, none⟩ = some (.slice Ao9 t450.length co9) := (blk_cell BK454.out 0).trans rfl
                  have hfz24_0 := blk_frozen BK454.out 0
                  go_wp2_with (first | ((with_reducible refine gate_callee (f := 32) rfl ?_); refine goesL_ (some 61) rfl rfl Try.func32 (by kernel_rfl) rfl #[.agg #[.slice Ao9 t450.length co9], .int .i64 x10_2] rfl (by (try simp only [List.map_toArray, List.map_cons, List.map_nil]); first | done | rfl | (simp only [List.length_drop, List.length_take]; rfl)) ?_; (with_reducible refine (impl_FewHas.calls k2 _ _ t450 x10_2 true t461 _ ?side1 ?side2 A22.out).mono ?_); (case side1 => repeat (first | exact (Kd.R_reads' HO_455000.out).2.2 | (with_reducible refine Kd.C_alloc ?_ _) | (with_reducible refine Kd.C_drewN ?_ _) | (with_reducible refine Kd.C_drew ?_))); (case side2 => exact (Kd.R_reads' HO_455000.out).2.1); rintro e w25 ⟨rfl, hb⟩; refine ⟨_, rfl, ?_⟩; have n0_ := Aside0.mk (Kd.R_below (by (with_reducible repeat (first | apply Kd.R_alloc | apply Kd.R_drewN | apply Kd.R_drew)); exact HO_455000.out) hb); have n1_ := Aside0.mk (blk_below (g := gb454) (o := .cells #[.slice Ao9 t450.length co9] 32 (0, 0)) (by (with_reducible repeat (first | refine blk_drewN ?_ _ | refine blk_drew ?_ | refine blk_alloc ?_ _)); exact BK454.out) hb); have n2_ := Aside0.mk (below_step (by repeat (first | (with_reducible first | exact HB.out | apply below_alloc | apply pw_below_drewN | apply below_drew1 | refine below_set ?_ GE454.out) | exact HB.out)) hb); clear HO_455000; clear BK454; clear HB; have HO_455000 := n0_; have BK454 := n1_; have HB := n2_; clear n0_ n1_ n2_; (try clear hb); (try clear hb2); (try clear hk); (try clear hi)))
                  go_roundg k2
                  case measure => have := HJ5.out; have := HK2.out; omega
                  case rel => exact ⟨(wrap64 (x9_2 + 1)), (wrap64 (x10_2 + 1)), (by first | rfl | (simp; done) | (simp [*]; done)), (by first | rfl | (simp; done) | (simp [*]; done)), H', ⟨by have := HJ5.out; have := HK2.out; omega⟩, ⟨by (with_reducible repeat (first | apply Kd.R_alloc | apply Kd.R_drewN | apply Kd.R_drew)); exact HO_455000.out⟩, ⟨by (with_reducible repeat (first | refine blk_drewN ?_ _ | refine blk_drew ?_ | refine blk_alloc ?_ _)); exact BK454.out⟩, ⟨by repeat (first | (with_reducible first | exact HB.out | apply below_alloc | apply pw_below_drewN | apply below_drew1 | refine below_set ?_ GE454.out) | exact HB.out)⟩⟩
                · replace c23 := Bool.eq_false_iff.mpr c23
                  subst c23
                  have H1 : (laws_FnFewHasAll.l0 k2 t457 t458 x9_2 (wrap64 (x10_2 + 1)) t450) = some r := by rw [if_neg (show ¬ (false = true) by decide)] at H; exact H
                  clear H
                  have H := H1
                  clear H1
                  have H' := Aside0.mk H
                  clear H
                  have hcz26_0 : wr.cell? ⟨gb454, 0, none⟩ = some (.slice Ao9 t450.length co9) := (blk_cell BK454.out 0).trans rfl
                  have hfz26_0 := blk_frozen BK454.out 0
                  go_wp2_with (first | ((with_reducible refine gate_callee (f := 32) rfl ?_); refine goesL_ (some 61) rfl rfl Try.func32 (by kernel_rfl) rfl #[.agg #[.slice Ao9 t450.length co9], .int .i64 x10_2] rfl (by (try simp only [List.map_toArray, List.map_cons, List.map_nil]); first | done | rfl | (simp only [List.length_drop, List.length_take]; rfl)) ?_; (with_reducible refine (impl_FewHas.calls k2 _ _ t450 x10_2 false t461 _ ?side1 ?side2 A22.out).mono ?_); (case side1 => repeat (first | exact (Kd.R_reads' HO_455000.out).2.2 | (with_reducible refine Kd.C_alloc ?_ _) | (with_reducible refine Kd.C_drewN ?_ _) | (with_reducible refine Kd.C_drew ?_))); (case side2 => exact (Kd.R_reads' HO_455000.out).2.1); rintro e w27 ⟨rfl, hb⟩; refine ⟨_, rfl, ?_⟩; have n0_ := Aside0.mk (Kd.R_below (by (with_reducible repeat (first | apply Kd.R_alloc | apply Kd.R_drewN | apply Kd.R_drew)); exact HO_455000.out) hb); have n1_ := Aside0.mk (blk_below (g := gb454) (o := .cells #[.slice Ao9 t450.length co9] 32 (0, 0)) (by (with_reducible repeat (first | refine blk_drewN ?_ _ | refine blk_drew ?_ | refine blk_alloc ?_ _)); exact BK454.out) hb); have n2_ := Aside0.mk (below_step (by repeat (first | (with_reducible first | exact HB.out | apply below_alloc | apply pw_below_drewN | apply below_drew1 | refine below_set ?_ GE454.out) | exact HB.out)) hb); clear HO_455000; clear BK454; clear HB; have HO_455000 := n0_; have BK454 := n1_; have HB := n2_; clear n0_ n1_ n2_; (try clear hb); (try clear hb2); (try clear hk); (try clear hi)))
                  go_roundg k2
                  case measure => have := HJ5.out; have := HK2.out; omega
                  case rel => exact ⟨(x9_2), (wrap64 (x10_2 + 1)), (by first | rfl | (simp; done) | (simp [*]; done)), (by first | rfl | (simp; done) | (simp [*]; done)), H', ⟨by have := HJ5.out; have := HK2.out; omega⟩, ⟨by (with_reducible repeat (first | apply Kd.R_alloc | apply Kd.R_drewN | apply Kd.R_drew)); exact HO_455000.out⟩, ⟨by (with_reducible repeat (first | refine blk_drewN ?_ _ | refine blk_drew ?_ | refine blk_alloc ?_ _)); exact BK454.out⟩, ⟨by repeat (first | (with_reducible first | exact HB.out | apply below_alloc | apply pw_below_drewN | apply below_drew1 | refine below_set ?_ GE454.out) | exact HB.out)⟩⟩
              · rw [if_neg c21] at H
                have c21b0 : decide (x10_2 < 64) = false := decide_eq_false c21
                clear c21
                by_cases c28 : x9_2 = (t450.length : Int)
                · rw [if_pos c28] at H
                  have c28b0 : (x9_2 == (t450.length : Int)) = true := beq_iff_eq.mpr c28
                  have c28b1 : (x9_2 != (t450.length : Int)) = false := bne_eq_false_iff_eq.mpr c28
                  clear c28
                  by_cases c29 : t457 = true
                  · subst c29
                    have H1 : (some t458) = some r := by rw [if_pos rfl] at H; exact H
                    clear H
                    have H := H1
                    clear H1
                    obtain rfl := Option.some.inj H
                    have hcz30_0 : wr.cell? ⟨gb454, 0, none⟩ = some (.slice Ao9 t450.length co9) := (blk_cell BK454.out 0).trans rfl
                    have hfz30_0 := blk_frozen BK454.out 0
                    go_wp2
                    go_ret
                    exact ⟨by first | rfl | (simp [errW_none, errW_some] <;> rfl) | (simp [*, errW_none, errW_some] <;> rfl), by repeat (first | (with_reducible first | exact HB.out | apply below_alloc | apply pw_below_drewN | apply below_drew1 | refine below_set ?_ GE454.out) | exact HB.out)⟩
                  · replace c29 := Bool.eq_false_iff.mpr c29
                    subst c29
                    have H1 : (some true) = some r := by rw [if_neg (show ¬ (false = true) by decide)] at H; exact H
                    clear H
                    have H := H1
                    clear H1
                    obtain rfl := Option.some.inj H
                    have hcz31_0 : wr.cell? ⟨gb454, 0, none⟩ = some (.slice Ao9 t450.length co9) := (blk_cell BK454.out 0).trans rfl
                    have hfz31_0 := blk_frozen BK454.out 0
                    go_wp2
                    go_ret
                    exact ⟨by first | rfl | (simp [errW_none, errW_some] <;> rfl) | (simp [*, errW_none, errW_some] <;> rfl), by repeat (first | (with_reducible first | exact HB.out | apply below_alloc | apply pw_below_drewN | apply below_drew1 | refine below_set ?_ GE454.out) | exact HB.out)⟩
                · rw [if_neg c28] at H
                  have c28b0 : (x9_2 == (t450.length : Int)) = false := beq_eq_false_iff_ne.mpr c28
                  have c28b1 : (x9_2 != (t450.length : Int)) = true := bne_iff_ne.mpr c28
                  obtain rfl := Option.some.inj H
                  have hcz32_0 : wr.cell? ⟨gb454, 0, none⟩ = some (.slice Ao9 t450.length co9) := (blk_cell BK454.out 0).trans rfl
                  have hfz32_0 := blk_frozen BK454.out 0
                  go_wp2
                  go_ret
                  exact ⟨by first | rfl | (simp [errW_none, errW_some] <;> rfl) | (simp [*, errW_none, errW_some] <;> rfl), by repeat (first | (with_reducible first | exact HB.out | apply below_alloc | apply pw_below_drewN | apply below_drew1 | refine below_set ?_ GE454.out) | exact HB.out)⟩

/-- THE ONE PURE STATEMENT of laws_FnFewHasAll: yours. -/
def laws_FnFewHasAll.Pure : Prop := ∀ (l0 : List Int), l0.length ≤ maxLen → l0.length * 1 ≤ 140737488351232 → (∀ x ∈ l0, (Lit.int .u8 x).wf = true) → ∃ k, laws_FnFewHasAll.f k l0 = some true
theorem laws_FnFewHasAll.walk (P : laws_FnFewHasAll.Pure) (a0 : Option Addr) (len0 cap0 : Nat) (z0 : List Int) (w : World) (w0 : (a0 = none ∧ len0 = 0 ∧ cap0 = 0 ∧ z0 = []) ∨ ∃ x, a0 = some x ∧ len0 ≤ cap0 ∧ cap0 ≤ maxLen ∧ z0.length = cap0 ∧ (∀ i, i < z0.length → w.cell? (x.add i) = some (.int .u8 (z0.getD i 0))) ∧ ∀ n ∈ z0, (Lit.int .u8 n).wf = true) (y0 : len0 * 1 ≤ 140737488351232) :
    Calls Try.prog 12 #[.slice a0 len0 cap0] w fun e w' => e = .returned (.bool true) ∧ Below w.heap.size w w' := by
  obtain ⟨l0, rfl, hr0, hm0, hw0, hc0⟩ := ReadsInt.ofRowC w0
  obtain ⟨k, h⟩ := P l0 hm0 y0 hw0
  refine (laws_FnFewHasAll.calls k _ _ l0 true w (Kd.C_of_reads (d := (0 : Int)) (h1 := fun _ => rfl) hr0) hc0 h).mono ?_
  rintro e w' ⟨rfl, hd⟩
  exact ⟨rfl, hd⟩

end Go.Proofs.Ytiaopahggjfggaa.PA
