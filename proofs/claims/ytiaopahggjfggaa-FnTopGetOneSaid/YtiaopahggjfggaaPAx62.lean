-- Made by a program of this session (wip/tools/pr2.sh) out of the translation, by way of the printer: shared by the seat's laws.
import Derived.Test.YtiaopahggjfggaaPAx0
import Derived.Test.YtiaopahggjfggaaPAx45
import Derived.Test.YtiaopahggjfggaaPAx46
import Derived.Test.YtiaopahggjfggaaPAx61
namespace Go.Proofs.Ytiaopahggjfggaa.PA
open Go.RowKit Go.Proofs.YtiaopahggjfggaaW.PrintWords Go.Proofs.YtiaopahggjfggaaW.PrintLast Go.Proofs.YtiaopahggjfggaaW.PrintMore
attribute [local go_sem] max2_int min2_int max_two min_two max_three min_three max_four min_four   -- for this text's walks alone
set_option linter.unusedVariables false
set_option linter.unusedSimpArgs false

/-! ### laws_FnTopGetOne: function 14 -/
mutual
def laws_FnTopGetOne.j0 : Nat → Int → Int → Int → Int → Int → Bool → List (S61) → Int → Int → Option (Bool)
  | 0, _, _, _, _, _, _, _, _, _ => none
  | k + 1, x4, x5, x6, x7, x8, x42, x607000, x607001, x607002 => if x42 = true then (if x7 = x5 then (some (x8 == x6)) else (some false)) else (laws_FnTopGetOne.l0 k x4 x7 x8 0 0 x607000 x607001 x607002)
def laws_FnTopGetOne.l0 : Nat → Int → Int → Int → Int → Int → List (S61) → Int → Int → Option (Bool)
  | 0, _, _, _, _, _, _, _, _ => none
  | k + 1, x4, x7, x8, x9, x10, x607000, x607001, x607002 => if x10 < (x607000.length : Int) then (if 0 ≤ x10 then (if ((rd_T61 x607000 x10).f0) = x4 then (laws_FnTopGetOne.l0 k x4 x7 x8 ((rd_T61 x607000 x10).f1) (wrap64 (x10 + 1)) x607000 x607001 x607002) else (laws_FnTopGetOne.l0 k x4 x7 x8 x9 (wrap64 (x10 + 1)) x607000 x607001 x607002)) else (none)) else (if x7 = x9 then (some (x8 == (wrap64 (x9 + x607001)))) else (some false))
end
def laws_FnTopGetOne.f (k : Nat) (l0 : List Int) : Option (Bool) := if (l0.length : Int) > 1048576 then (some true) else ((spec_DrawTopGet.f k l0).bind fun bt600 => ((spec_TopGet.f k bt600.1 bt600.2.1 bt600.2.2.1 bt600.2.2.2).bind fun bt607 => ((impl_TopGet.f k bt600.1 bt600.2.1 bt600.2.2.1 bt600.2.2.2).bind fun bt609 => (if bt609.1 = bt607.1 then (if bt609.2 = bt607.2 then (laws_FnTopGetOne.j0 k bt600.2.2.2 bt607.1 bt607.2 bt609.1 bt609.2 (decide (bt609.1 < 0)) bt600.1 bt600.2.1 bt600.2.2.1) else (laws_FnTopGetOne.j0 k bt600.2.2.2 bt607.1 bt607.2 bt609.1 bt609.2 true bt600.1 bt600.2.1 bt600.2.2.1)) else (laws_FnTopGetOne.j0 k bt600.2.2.2 bt607.1 bt607.2 bt609.1 bt609.2 true bt600.1 bt600.2.1 bt600.2.2.1)))))
theorem laws_FnTopGetOne.mono_l : ∀ k, (∀ y0 y1 y2 y3 y4 y5 y6 y7 y8, LeO (laws_FnTopGetOne.j0 k y0 y1 y2 y3 y4 y5 y6 y7 y8) (laws_FnTopGetOne.j0 (k + 1) y0 y1 y2 y3 y4 y5 y6 y7 y8)) ∧ (∀ y0 y1 y2 y3 y4 y5 y6 y7, LeO (laws_FnTopGetOne.l0 k y0 y1 y2 y3 y4 y5 y6 y7) (laws_FnTopGetOne.l0 (k + 1) y0 y1 y2 y3 y4 y5 y6 y7))
  | 0 => ⟨fun _ _ _ _ _ _ _ _ _ r h => by simp [laws_FnTopGetOne.j0] at h, fun _ _ _ _ _ _ _ _ r h => by simp [laws_FnTopGetOne.l0] at h⟩
  | k + 1 => by
    obtain ⟨ih0, ih1⟩ := laws_FnTopGetOne.mono_l k
    refine ⟨?_, ?_⟩
    · intro y0 y1 y2 y3 y4 y5 y6 y7 y8
      unfold laws_FnTopGetOne.j0
      repeat' first
      | (with_reducible exact ih0 _ _ _ _ _ _ _ _ _)
      | (with_reducible exact ih1 _ _ _ _ _ _ _ _)
      | (with_reducible exact impl_TopGet.mono _ _ _ _ _)
      | (with_reducible exact spec_DrawTopGet.mono _ _)
      | (with_reducible exact spec_TopGet.mono _ _ _ _ _)
      | (with_reducible exact LeO.refl _)
      | (with_reducible exact LeO.none _)
      | (with_reducible refine LeO.ite ?_ ?_)
      | (with_reducible refine LeO.bind ?_ (fun _ => ?_))
      | exact ih0 _ _ _ _ _ _ _ _ _
      | exact ih1 _ _ _ _ _ _ _ _
      | exact impl_TopGet.mono _ _ _ _ _
      | exact spec_DrawTopGet.mono _ _
      | exact spec_TopGet.mono _ _ _ _ _
      | exact LeO.none _
      | refine LeO.ite ?_ ?_
      | refine LeO.bind ?_ (fun _ => ?_)
    · intro y0 y1 y2 y3 y4 y5 y6 y7
      unfold laws_FnTopGetOne.l0
      repeat' first
      | (with_reducible exact ih0 _ _ _ _ _ _ _ _ _)
      | (with_reducible exact ih1 _ _ _ _ _ _ _ _)
      | (with_reducible exact impl_TopGet.mono _ _ _ _ _)
      | (with_reducible exact spec_DrawTopGet.mono _ _)
      | (with_reducible exact spec_TopGet.mono _ _ _ _ _)
      | (with_reducible exact LeO.refl _)
      | (with_reducible exact LeO.none _)
      | (with_reducible refine LeO.ite ?_ ?_)
      | (with_reducible refine LeO.bind ?_ (fun _ => ?_))
      | exact ih0 _ _ _ _ _ _ _ _ _
      | exact ih1 _ _ _ _ _ _ _ _
      | exact impl_TopGet.mono _ _ _ _ _
      | exact spec_DrawTopGet.mono _ _
      | exact spec_TopGet.mono _ _ _ _ _
      | exact LeO.none _
      | refine LeO.ite ?_ ?_
      | refine LeO.bind ?_ (fun _ => ?_)
theorem laws_FnTopGetOne.mono : ∀ a0 k, LeO (laws_FnTopGetOne.f k a0) (laws_FnTopGetOne.f (k + 1) a0) := by
  intro a0 k
  obtain ⟨ih0, ih1⟩ := laws_FnTopGetOne.mono_l k
  unfold laws_FnTopGetOne.f
  repeat' first
      | (with_reducible exact ih0 _ _ _ _ _ _ _ _ _)
      | (with_reducible exact ih1 _ _ _ _ _ _ _ _)
      | (with_reducible exact impl_TopGet.mono _ _ _ _ _)
      | (with_reducible exact spec_DrawTopGet.mono _ _)
      | (with_reducible exact spec_TopGet.mono _ _ _ _ _)
      | (with_reducible exact LeO.refl _)
      | (with_reducible exact LeO.none _)
      | (with_reducible refine LeO.ite ?_ ?_)
      | (with_reducible refine LeO.bind ?_ (fun _ => ?_))
      | exact ih0 _ _ _ _ _ _ _ _ _
      | exact ih1 _ _ _ _ _ _ _ _
      | exact impl_TopGet.mono _ _ _ _ _
      | exact spec_DrawTopGet.mono _ _
      | exact spec_TopGet.mono _ _ _ _ _
      | exact LeO.none _
      | refine LeO.ite ?_ ?_
      | refine LeO.bind ?_ (fun _ => ?_)
set_option maxHeartbeats 8000000 in
set_option maxRecDepth 100000 in
theorem laws_FnTopGetOne.calls (k : Nat) (A0 : Option Addr) (c0 : Nat) (l0 : List Int) (r : Bool) (w : World) (hr0 : Kd.C (Kd.int .u8) w A0 l0.length l0) (hc0 : l0.length ≤ c0) (h : laws_FnTopGetOne.f k l0 = some r) :
    Calls Try.prog 14 #[.slice A0 l0.length c0] w fun e w' => e = .returned (.bool r) ∧ Below w.heap.size w w' := by
  have hu47 := Try.underlying47
  have HR0 := Aside0.mk hr0
  have HC0 := Aside0.mk hc0
  clear hr0 hc0
  have HB := Aside0.mk (Below.refl w.heap.size w)
  have H : (if (l0.length : Int) > 1048576 then (some true) else ((spec_DrawTopGet.f k l0).bind fun bt600 => ((spec_TopGet.f k bt600.1 bt600.2.1 bt600.2.2.1 bt600.2.2.2).bind fun bt607 => ((impl_TopGet.f k bt600.1 bt600.2.1 bt600.2.2.1 bt600.2.2.2).bind fun bt609 => (if bt609.1 = bt607.1 then (if bt609.2 = bt607.2 then (laws_FnTopGetOne.j0 k bt600.2.2.2 bt607.1 bt607.2 bt609.1 bt609.2 (decide (bt609.1 < 0)) bt600.1 bt600.2.1 bt600.2.2.1) else (laws_FnTopGetOne.j0 k bt600.2.2.2 bt607.1 bt607.2 bt609.1 bt609.2 true bt600.1 bt600.2.1 bt600.2.2.1)) else (laws_FnTopGetOne.j0 k bt600.2.2.2 bt607.1 bt607.2 bt609.1 bt609.2 true bt600.1 bt600.2.1 bt600.2.2.1)))))) = some r := h
  clear h
  by_cases c2 : (l0.length : Int) > 1048576
  · rw [if_pos c2] at H
    have c2b0 : decide (1048576 < (l0.length : Int)) = true := decide_eq_true c2
    have c2b1 : decide (1048576 < l0.length) = true := decide_eq_true (by omega)
    clear c2
    obtain rfl := Option.some.inj H
    go_enter Try.func14, Try.ntmps14
    go_wp2
    go_ret
    exact ⟨by first | rfl | (simp [errW_none, errW_some] <;> rfl) | (simp [*, errW_none, errW_some] <;> rfl), by repeat (first | (with_reducible first | exact HB.out | apply below_alloc | apply pw_below_drewN | apply below_drew1) | exact HB.out)⟩
  · rw [if_neg c2] at H
    have c2b0 : decide (1048576 < (l0.length : Int)) = false := decide_eq_false c2
    have c2b1 : decide (1048576 < l0.length) = false := decide_eq_false (by omega)
    clear c2
    replace H := Option.bind_eq_some_iff.mp H
    obtain ⟨⟨t600, t603, t604, t605⟩, A30, H⟩ := H
    replace H : ((spec_TopGet.f k t600 t603 t604 t605).bind fun bt607 => ((impl_TopGet.f k t600 t603 t604 t605).bind fun bt609 => (if bt609.1 = bt607.1 then (if bt609.2 = bt607.2 then (laws_FnTopGetOne.j0 k t605 bt607.1 bt607.2 bt609.1 bt609.2 (decide (bt609.1 < 0)) t600 t603 t604) else (laws_FnTopGetOne.j0 k t605 bt607.1 bt607.2 bt609.1 bt609.2 true t600 t603 t604)) else (laws_FnTopGetOne.j0 k t605 bt607.1 bt607.2 bt609.1 bt609.2 true t600 t603 t604)))) = some r := H
    have A3 := Aside0.mk A30
    clear A30
    replace H := Option.bind_eq_some_iff.mp H
    obtain ⟨⟨t607, t608⟩, A40, H⟩ := H
    replace H : ((impl_TopGet.f k t600 t603 t604 t605).bind fun bt609 => (if bt609.1 = t607 then (if bt609.2 = t608 then (laws_FnTopGetOne.j0 k t605 t607 t608 bt609.1 bt609.2 (decide (bt609.1 < 0)) t600 t603 t604) else (laws_FnTopGetOne.j0 k t605 t607 t608 bt609.1 bt609.2 true t600 t603 t604)) else (laws_FnTopGetOne.j0 k t605 t607 t608 bt609.1 bt609.2 true t600 t603 t604))) = some r := H
    have A4 := Aside0.mk A40
    clear A40
    replace H := Option.bind_eq_some_iff.mp H
    obtain ⟨⟨t609, t610⟩, A50, H⟩ := H
    replace H : (if t609 = t607 then (if t610 = t608 then (laws_FnTopGetOne.j0 k t605 t607 t608 t609 t610 (decide (t609 < 0)) t600 t603 t604) else (laws_FnTopGetOne.j0 k t605 t607 t608 t609 t610 true t600 t603 t604)) else (laws_FnTopGetOne.j0 k t605 t607 t608 t609 t610 true t600 t603 t604)) = some r := H
    have A5 := Aside0.mk A50
    clear A50
    have HC6 := Aside0.mk H
    clear H
    go_enter Try.func14, Try.ntmps14
    go_upto_region 6 with (first | ((with_reducible refine gate_callee (f := 38) rfl ?_); refine goesL_ (some 16) rfl rfl Try.func38 (by kernel_rfl) rfl #[.slice A0 l0.length c0] rfl (by (try simp only [List.map_toArray, List.map_cons, List.map_nil]); first | done | rfl | (simp only [List.length_drop, List.length_take]; rfl)) ?_; (with_reducible refine (spec_DrawTopGet.calls k _ _ l0 t600 t603 t604 t605 _ ?side1 ?side2 A3.out).mono ?_); (case side1 => repeat (first | exact HR0.out | (with_reducible refine Kd.C_alloc ?_ _) | (with_reducible refine Kd.C_drewN ?_ _) | (with_reducible refine Kd.C_drew ?_))); (case side2 => exact HC0.out); rintro e w7 ⟨v601, rfl, ho0, hb⟩; refine ⟨_, rfl, ?_⟩; have n0_ := Aside0.mk (Kd.R_lower ho0 (below_size (by repeat (first | (with_reducible first | exact HB.out | apply below_alloc | apply pw_below_drewN | apply below_drew1) | exact HB.out)))); have n1_ := Aside0.mk (below_step (by repeat (first | (with_reducible first | exact HB.out | apply below_alloc | apply pw_below_drewN | apply below_drew1) | exact HB.out)) hb); clear HB; have HO602 := n0_; have HB := n1_; clear n0_ n1_; (try clear hb); (try clear hb2); (try clear hk); (try clear hi); (try clear ho0)) | ((with_reducible refine gate_dst (N := 3) rfl ?_); refine box_event ?hg (N := 3) ?hd (cs := #[.slice none 0 0, .int .i64 0, .int .i64 0]) (t := 47) ?hr ?_; (case hd => rfl); (case hg => rfl); (case hr => first | (go_simp; done) | (go_simp; rfl)); intro gb606 hg w8 hbox hb; have n0_ := Aside0.mk (Kd.R_below (by (with_reducible repeat (first | apply Kd.R_alloc | apply Kd.R_drewN | apply Kd.R_drew)); exact HO602.out) hb); have n1_ := Aside0.mk (below_step (by repeat (first | (with_reducible first | exact HB.out | apply below_alloc | apply pw_below_drewN | apply below_drew1) | exact HB.out)) hb); have n2_ := Aside0.mk (hbox); have n3_ := Aside0.mk ((by rw [hg]; exact (below_size (by repeat (first | (with_reducible first | exact HB.out | apply below_alloc | apply pw_below_drewN | apply below_drew1) | exact HB.out))) : w.heap.size ≤ gb606)); have n4_ := Aside0.mk ((by rw [hg]; exact (below_size (by repeat (first | (with_reducible first | exact HB.out | apply below_alloc | apply pw_below_drewN | apply below_drew1) | exact HB.out))) : w.heap.size ≤ gb606)); clear HO602; clear HB; have HO602 := n0_; have HB := n1_; have BK606 := n2_; have GW606 := n3_; have GE606 := n4_; clear n0_ n1_ n2_ n3_ n4_; clear hb hbox hg; obtain ⟨Ao9, co9, eo9⟩ := Kd.R_slice HO602.out; subst eo9; have hcz10_0 : w8.cell? ⟨gb606, 0, none⟩ = some (.slice none 0 0) := (blk_cell BK606.out 0).trans rfl; have hcz10_1 : w8.cell? ⟨gb606, 1, none⟩ = some (.int .i64 0) := (blk_cell BK606.out 1).trans rfl; have hcz10_2 : w8.cell? ⟨gb606, 2, none⟩ = some (.int .i64 0) := (blk_cell BK606.out 2).trans rfl; have hfz10_0 := blk_frozen BK606.out 0; have hfz10_1 := blk_frozen BK606.out 1; have hfz10_2 := blk_frozen BK606.out 2) | ((with_reducible refine gate_callee (f := 34) rfl ?_); refine goesL_ (some 22) rfl rfl Try.func34 (by kernel_rfl) rfl #[.agg #[.slice Ao9 t600.length co9, .int .i64 t603, .int .i64 t604], .int .i64 t605] rfl (by (try simp only [List.map_toArray, List.map_cons, List.map_nil]); first | done | rfl | (simp only [List.length_drop, List.length_take]; rfl)) ?_; (with_reducible refine (spec_TopGet.calls k _ _ t600 t603 t604 t605 t607 t608 _ ?side1 ?side2 A4.out).mono ?_); (case side1 => refine (Kd.R_reads' (e := 61) (base := w.heap.size) (ok := fun k_ => True) (n := t600.length) (c := co9) ?_).2.2; exact (by (with_reducible repeat (first | apply Kd.R_alloc | apply Kd.R_drewN | apply Kd.R_drew)); exact (Kd.R_mono (Kd.R_far (p := ⟨gb606, 2, none⟩) (Kd.R_far (p := ⟨gb606, 1, none⟩) (Kd.R_far (p := ⟨gb606, 0, none⟩) (Kd.R_types HO602.out BK606.out (by decide)) (fun _ hk => hk.2) (.slice Ao9 t600.length co9)) (fun _ hk => hk.2) (.int .i64 t603)) (fun _ hk => hk.2) (.int .i64 t604)) (fun _ h_ => h_.1)))); (case side2 => exact (Kd.R_reads' HO602.out).2.1); rintro e w11 ⟨rfl, hb⟩; refine ⟨_, rfl, ?_⟩; have n0_ := Aside0.mk (Kd.R_below (by (with_reducible repeat (first | apply Kd.R_alloc | apply Kd.R_drewN | apply Kd.R_drew)); exact (Kd.R_mono (Kd.R_far (p := ⟨gb606, 2, none⟩) (Kd.R_far (p := ⟨gb606, 1, none⟩) (Kd.R_far (p := ⟨gb606, 0, none⟩) (Kd.R_types HO602.out BK606.out (by decide)) (fun _ hk => hk.2) (.slice Ao9 t600.length co9)) (fun _ hk => hk.2) (.int .i64 t603)) (fun _ hk => hk.2) (.int .i64 t604)) (fun _ h_ => h_.1))) hb); have n1_ := Aside0.mk (blk_below (g := gb606) (o := .cells #[.slice Ao9 t600.length co9, .int .i64 t603, .int .i64 t604] 47 (0, 0)) (by (with_reducible repeat (first | refine blk_drewN ?_ _ | refine blk_drew ?_ | refine blk_alloc ?_ _)); refine blk_put (cs := #[.slice Ao9 t600.length co9, .int .i64 t603, .int .i64 0]) ?_ 2 _ rfl; (with_reducible repeat (first | refine blk_drewN ?_ _ | refine blk_drew ?_ | refine blk_alloc ?_ _)); refine blk_put (cs := #[.slice Ao9 t600.length co9, .int .i64 0, .int .i64 0]) ?_ 1 _ rfl; (with_reducible repeat (first | refine blk_drewN ?_ _ | refine blk_drew ?_ | refine blk_alloc ?_ _)); refine blk_put (cs := #[.slice none 0 0, .int .i64 0, .int .i64 0]) ?_ 0 _ rfl; (with_reducible repeat (first | refine blk_drewN ?_ _ | refine blk_drew ?_ | refine blk_alloc ?_ _)); exact BK606.out) hb); have n2_ := Aside0.mk (below_step (by repeat (first | (with_reducible first | exact HB.out | apply below_alloc | apply pw_below_drewN | apply below_drew1 | refine below_set ?_ GE606.out) | exact HB.out)) hb); clear HO602; clear BK606; clear HB; have HO602 := n0_; have BK606 := n1_; have HB := n2_; clear n0_ n1_ n2_; (try clear hb); (try clear hb2); (try clear hk); (try clear hi); have hcz12_0 : w11.cell? ⟨gb606, 0, none⟩ = some (.slice Ao9 t600.length co9) := (blk_cell BK606.out 0).trans rfl; have hcz12_1 : w11.cell? ⟨gb606, 1, none⟩ = some (.int .i64 t603) := (blk_cell BK606.out 1).trans rfl; have hcz12_2 : w11.cell? ⟨gb606, 2, none⟩ = some (.int .i64 t604) := (blk_cell BK606.out 2).trans rfl; have hfz12_0 := blk_frozen BK606.out 0; have hfz12_1 := blk_frozen BK606.out 1; have hfz12_2 := blk_frozen BK606.out 2) | ((with_reducible refine gate_callee (f := 35) rfl ?_); refine goesL_ (some 28) rfl rfl Try.func35 (by kernel_rfl) rfl #[.agg #[.slice Ao9 t600.length co9, .int .i64 t603, .int .i64 t604], .int .i64 t605] rfl (by (try simp only [List.map_toArray, List.map_cons, List.map_nil]); first | done | rfl | (simp only [List.length_drop, List.length_take]; rfl)) ?_; (with_reducible refine (impl_TopGet.calls k _ _ t600 t603 t604 t605 t609 t610 _ ?side1 ?side2 A5.out).mono ?_); (case side1 => repeat (first | exact (Kd.R_reads' HO602.out).2.2 | (with_reducible refine Kd.C_alloc ?_ _) | (with_reducible refine Kd.C_drewN ?_ _) | (with_reducible refine Kd.C_drew ?_))); (case side2 => exact (Kd.R_reads' HO602.out).2.1); rintro e w13 ⟨rfl, hb⟩; refine ⟨_, rfl, ?_⟩; have n0_ := Aside0.mk (Kd.R_below (by (with_reducible repeat (first | apply Kd.R_alloc | apply Kd.R_drewN | apply Kd.R_drew)); exact HO602.out) hb); have n1_ := Aside0.mk (blk_below (g := gb606) (o := .cells #[.slice Ao9 t600.length co9, .int .i64 t603, .int .i64 t604] 47 (0, 0)) (by (with_reducible repeat (first | refine blk_drewN ?_ _ | refine blk_drew ?_ | refine blk_alloc ?_ _)); exact BK606.out) hb); have n2_ := Aside0.mk (below_step (by repeat (first | (with_reducible first | exact HB.out | apply below_alloc | apply pw_below_drewN | apply below_drew1 | refine below_set ?_ GE606.out) | exact HB.out)) hb); clear HO602; clear BK606; clear HB; have HO602 := n0_; have BK606 := n1_; have HB := n2_; clear n0_ n1_ n2_; (try clear hb); (try clear hb2); (try clear hk); (try clear hi)))
    (try simp only [Act.put, List.setIfInBounds_toArray, List.set_cons_zero, List.set_cons_succ])
    go_cut [42] (fun v42 wc => ∃ (kq : Nat) (x42_5 : Bool), v42 = .bool x42_5 ∧ Aside0 (laws_FnTopGetOne.j0 kq t605 t607 t608 t609 t610 x42_5 t600 t603 t604 = some r) ∧ Aside0 (kq ≤ k) ∧ Aside0 (Kd.R k61 61 wc w.heap.size (fun _ => True) (.slice Ao9 t600.length co9) t600) ∧ Aside0 (wc.heap[gb606]? = some (.cells #[(.slice Ao9 t600.length co9), .int .i64 t603, .int .i64 t604] 47 (0, 0))) ∧ Aside0 (Below w.heap.size w wc))
    case first =>
      have H := HC6.out
      clear HC6
      by_cases c14 : t609 = t607
      · rw [if_pos c14] at H
        have c14b0 : (t609 == t607) = true := beq_iff_eq.mpr c14
        have c14b1 : (t609 != t607) = false := bne_eq_false_iff_eq.mpr c14
        clear c14
        (first | rw [c14b0] | (simp only [i64_w, i32_w]; rw [c14b0]) | skip)
        by_cases c15 : t610 = t608
        · rw [if_pos c15] at H
          have c15b0 : (t610 == t608) = true := beq_iff_eq.mpr c15
          have c15b1 : (t610 != t608) = false := bne_eq_false_iff_eq.mpr c15
          clear c15
          have H' := Aside0.mk H
          clear H
          go_wp2
          go_meet
          case rel => exact ⟨_, (decide (t609 < 0)), (by first | rfl | (simp; done) | (simp [*]; done)), H', ⟨by first | omega | exact Nat.le_refl _⟩, ⟨by (with_reducible repeat (first | apply Kd.R_alloc | apply Kd.R_drewN | apply Kd.R_drew)); exact HO602.out⟩, ⟨by (with_reducible repeat (first | refine blk_drewN ?_ _ | refine blk_drew ?_ | refine blk_alloc ?_ _)); exact BK606.out⟩, ⟨by repeat (first | (with_reducible first | exact HB.out | apply below_alloc | apply pw_below_drewN | apply below_drew1 | refine below_set ?_ GE606.out) | exact HB.out)⟩⟩
        · rw [if_neg c15] at H
          have c15b0 : (t610 == t608) = false := beq_eq_false_iff_ne.mpr c15
          have c15b1 : (t610 != t608) = true := bne_iff_ne.mpr c15
          have H' := Aside0.mk H
          clear H
          go_wp2
          go_meet
          case rel => exact ⟨_, (true), (by first | rfl | (simp; done) | (simp [*]; done)), H', ⟨by first | omega | exact Nat.le_refl _⟩, ⟨by (with_reducible repeat (first | apply Kd.R_alloc | apply Kd.R_drewN | apply Kd.R_drew)); exact HO602.out⟩, ⟨by (with_reducible repeat (first | refine blk_drewN ?_ _ | refine blk_drew ?_ | refine blk_alloc ?_ _)); exact BK606.out⟩, ⟨by repeat (first | (with_reducible first | exact HB.out | apply below_alloc | apply pw_below_drewN | apply below_drew1 | refine below_set ?_ GE606.out) | exact HB.out)⟩⟩
      · rw [if_neg c14] at H
        have c14b0 : (t609 == t607) = false := beq_eq_false_iff_ne.mpr c14
        have c14b1 : (t609 != t607) = true := bne_iff_ne.mpr c14
        (first | rw [c14b0] | (simp only [i64_w, i32_w]; rw [c14b0]) | skip)
        have H' := Aside0.mk H
        clear H
        go_wp2
        go_meet
        case rel => exact ⟨_, (true), (by first | rfl | (simp; done) | (simp [*]; done)), H', ⟨by first | omega | exact Nat.le_refl _⟩, ⟨by (with_reducible repeat (first | apply Kd.R_alloc | apply Kd.R_drewN | apply Kd.R_drew)); exact HO602.out⟩, ⟨by (with_reducible repeat (first | refine blk_drewN ?_ _ | refine blk_drew ?_ | refine blk_alloc ?_ _)); exact BK606.out⟩, ⟨by repeat (first | (with_reducible first | exact HB.out | apply below_alloc | apply pw_below_drewN | apply below_drew1 | refine below_set ?_ GE606.out) | exact HB.out)⟩⟩
    case rest =>
      clear HC6
      try clear c1
      try clear c2
      try clear c2b0
      try clear c2b1
      try clear p2
      try clear c3
      try clear c14
      try clear c14b0
      try clear c14b1
      try clear c15
      try clear c15b0
      try clear c15b1
      try clear hcz10_0
      try clear hcz10_1
      try clear hcz10_2
      try clear hcz12_0
      try clear hcz12_1
      try clear hcz12_2
      try clear hfz10_0
      try clear hfz10_1
      try clear hfz10_2
      try clear hfz12_0
      try clear hfz12_1
      try clear hfz12_2
      obtain ⟨kq, x42_5, rfl, HA, HJ5, HO_607000, BK606, HB⟩ := hcut
      cases kq with
      | zero => exact absurd HA.out (by simp [laws_FnTopGetOne.j0])
      | succ kj5 =>
        have H := HA.out
        clear HA
        simp only [laws_FnTopGetOne.j0] at H
        by_cases c16 : x42_5 = true
        · subst c16
          have H1 : (if t609 = t607 then (some (t610 == t608)) else (some false)) = some r := by rw [if_pos rfl] at H; exact H
          clear H
          have H := H1
          clear H1
          by_cases c17 : t609 = t607
          · rw [if_pos c17] at H
            have c17b0 : (t609 == t607) = true := beq_iff_eq.mpr c17
            have c17b1 : (t609 != t607) = false := bne_eq_false_iff_eq.mpr c17
            clear c17
            obtain rfl := Option.some.inj H
            go_wp2
            go_ret
            exact ⟨by first | rfl | (simp [errW_none, errW_some] <;> rfl) | (simp [*, errW_none, errW_some] <;> rfl), by repeat (first | (with_reducible first | exact HB.out | apply below_alloc | apply pw_below_drewN | apply below_drew1 | refine below_set ?_ GE606.out) | exact HB.out)⟩
          · rw [if_neg c17] at H
            have c17b0 : (t609 == t607) = false := beq_eq_false_iff_ne.mpr c17
            have c17b1 : (t609 != t607) = true := bne_iff_ne.mpr c17
            obtain rfl := Option.some.inj H
            go_wp2
            go_ret
            exact ⟨by first | rfl | (simp [errW_none, errW_some] <;> rfl) | (simp [*, errW_none, errW_some] <;> rfl), by repeat (first | (with_reducible first | exact HB.out | apply below_alloc | apply pw_below_drewN | apply below_drew1 | refine below_set ?_ GE606.out) | exact HB.out)⟩
        · replace c16 := Bool.eq_false_iff.mpr c16
          subst c16
          have H1 : (laws_FnTopGetOne.l0 kj5 t605 t609 t610 0 0 t600 t603 t604) = some r := by rw [if_neg (show ¬ (false = true) by decide)] at H; exact H
          clear H
          have H := H1
          clear H1
          have H' := Aside0.mk H
          clear H
          go_wp2
          go_loopg [9, 10] kj5 (fun kq v9 v10 w' => ∃ (x9_2 : Int) (x10_2 : Int), v9 = .int .i64 x9_2 ∧ v10 = .int .i64 x10_2 ∧ Aside0 (laws_FnTopGetOne.l0 kq t605 t609 t610 x9_2 x10_2 t600 t603 t604 = some r) ∧ Aside0 (kq ≤ kj5) ∧ Aside0 (Kd.R k61 61 w' w.heap.size (fun _ => True) (.slice Ao9 t600.length co9) t600) ∧ Aside0 (w'.heap[gb606]? = some (.cells #[(.slice Ao9 t600.length co9), .int .i64 t603, .int .i64 t604] 47 (0, 0))) ∧ Aside0 (Below w.heap.size w w'))
          case atStart => exact ⟨(0), (0), (by first | rfl | (simp; done) | (simp [*]; done)), (by first | rfl | (simp; done) | (simp [*]; done)), H', ⟨Nat.le_refl _⟩, ⟨by (with_reducible repeat (first | apply Kd.R_alloc | apply Kd.R_drewN | apply Kd.R_drew)); exact HO_607000.out⟩, ⟨by (with_reducible repeat (first | refine blk_drewN ?_ _ | refine blk_drew ?_ | refine blk_alloc ?_ _)); exact BK606.out⟩, ⟨by repeat (first | (with_reducible first | exact HB.out | apply below_alloc | apply pw_below_drewN | apply below_drew1 | refine below_set ?_ GE606.out) | exact HB.out)⟩⟩
          case round =>
            clear H'
            try clear c1
            try clear c2
            try clear c2b0
            try clear c2b1
            try clear p2
            try clear c3
            try clear c14
            try clear c14b0
            try clear c14b1
            try clear c15
            try clear c15b0
            try clear c15b1
            try clear c16
            try clear c17
            try clear c17b0
            try clear c17b1
            try clear hcz10_0
            try clear hcz10_1
            try clear hcz10_2
            try clear hcz12_0
            try clear hcz12_1
            try clear hcz12_2
            try clear hfz10_0
            try clear hfz10_1
            try clear hfz10_2
            try clear hfz12_0
            try clear hfz12_1
            try clear hfz12_2
            try clear p2
            obtain ⟨x9_2, x10_2, rfl, rfl, HA, HK2, HO_607000, BK606, HB⟩ := hrel
            cases gk with
            | zero => exact absurd HA.out (by simp [laws_FnTopGetOne.l0])
            | succ k2 =>
              have H := HA.out
              clear HA
              simp only [laws_FnTopGetOne.l0] at H
              by_cases c18 : x10_2 < (t600.length : Int)
              · rw [if_pos c18] at H
                have c18b0 : decide (x10_2 < (t600.length : Int)) = true := decide_eq_true c18
                clear c18
                by_cases c19 : 0 ≤ x10_2
                · rw [if_pos c19] at H
                  have c19b0 : decide (0 ≤ x10_2) = true := decide_eq_true c19
                  clear c19
                  by_cases c20 : ((rd_T61 t600 x10_2).f0) = t605
                  · rw [if_pos c20] at H
                    have c20b0 : (((rd_T61 t600 x10_2).f0) == t605) = true := beq_iff_eq.mpr c20
                    have c20b1 : (((rd_T61 t600 x10_2).f0) != t605) = false := bne_eq_false_iff_eq.mpr c20
                    clear c20
                    have H' := Aside0.mk H
                    clear H
                    have hcz21_0 : wr.cell? ⟨gb606, 0, none⟩ = some (.slice Ao9 t600.length co9) := (blk_cell BK606.out 0).trans rfl
                    have hcz21_1 : wr.cell? ⟨gb606, 1, none⟩ = some (.int .i64 t603) := (blk_cell BK606.out 1).trans rfl
                    have hcz21_2 : wr.cell? ⟨gb606, 2, none⟩ = some (.int .i64 t604) := (blk_cell BK606.out 2).trans rfl
                    have hfz21_0 := blk_frozen BK606.out 0
                    have hfz21_1 := blk_frozen BK606.out 1
                    have hfz21_2 := blk_frozen BK606.out 2
                    have p611 : 0 ≤ (x10_2 : Int) := of_decide_eq_true (by first | (with_reducible assumption) | assumption)
                    have q611 : x10_2 < (t600.length : Int) := of_decide_eq_true (by first | (with_reducible assumption) | assumption)
                    obtain ⟨ad611, e611, hx611_0, hx611_1⟩ := at_T61 (Kd.R_reads' HO_607000.out).2.2 x10_2 p611 q611
                    cases e611
                    replace p611 := eq_true p611
                    replace q611 := eq_true q611
                    have p612 : 0 ≤ (x10_2 : Int) := of_decide_eq_true (by first | (with_reducible assumption) | assumption)
                    have q612 : x10_2 < (t600.length : Int) := of_decide_eq_true (by first | (with_reducible assumption) | assumption)
                    obtain ⟨ad612, e612, hx612_0, hx612_1⟩ := at_T61 (Kd.R_reads' HO_607000.out).2.2 x10_2 p612 q612
                    obtain rfl : ad611 = ad612 := (by injection e612)
                    replace p612 := eq_true p612
                    replace q612 := eq_true q612
                    go_wp2
                    go_roundg k2
                    case measure => have := HJ5.out; have := HK2.out; omega
                    case rel => exact ⟨((rd_T61 t600 x10_2).f1), (wrap64 (x10_2 + 1)), (by first | rfl | (simp; done) | (simp [*]; done)), (by first | rfl | (simp; done) | (simp [*]; done)), H', ⟨by have := HJ5.out; have := HK2.out; omega⟩, ⟨by (with_reducible repeat (first | apply Kd.R_alloc | apply Kd.R_drewN | apply Kd.R_drew)); exact HO_607000.out⟩, ⟨by (with_reducible repeat (first | refine blk_drewN ?_ _ | refine blk_drew ?_ | refine blk_alloc ?_ _)); exact BK606.out⟩, ⟨by repeat (first | (with_reducible first | exact HB.out | apply below_alloc | apply pw_below_drewN | apply below_drew1 | refine below_set ?_ GE606.out) | exact HB.out)⟩⟩
                  · rw [if_neg c20] at H
                    have c20b0 : (((rd_T61 t600 x10_2).f0) == t605) = false := beq_eq_false_iff_ne.mpr c20
                    have c20b1 : (((rd_T61 t600 x10_2).f0) != t605) = true := bne_iff_ne.mpr c20
                    have H' := Aside0.mk H
                    clear H
                    have hcz22_0 : wr.cell? ⟨gb606, 0, none⟩ = some (.slice Ao9 t600.length co9) := (blk_cell BK606.out 0).trans rfl
                    have hcz22_1 : wr.cell? ⟨gb606, 1, none⟩ = some (.int .i64 t603) := (blk_cell BK606.out 1).trans rfl
                    have hcz22_2 : wr.cell? ⟨gb606, 2, none⟩ = some (.int .i64 t604) := (blk_cell BK606.out 2).trans rfl
                    have hfz22_0 := blk_frozen BK606.out 0
                    have hfz22_1 := blk_frozen BK606.out 1
                    have hfz22_2 := blk_frozen BK606.out 2
                    have p611 : 0 ≤ (x10_2 : Int) := of_decide_eq_true (by first | (with_reducible assumption) | assumption)
                    have q611 : x10_2 < (t600.length : Int) := of_decide_eq_true (by first | (with_reducible assumption) | assumption)
                    obtain ⟨ad611, e611, hx611_0, hx611_1⟩ := at_T61 (Kd.R_reads' HO_607000.out).2.2 x10_2 p611 q611
                    cases e611
                    replace p611 := eq_true p611
                    replace q611 := eq_true q611
                    go_wp2
                    go_roundg k2
                    case measure => have := HJ5.out; have := HK2.out; omega
                    case rel => exact ⟨(x9_2), (wrap64 (x10_2 + 1)), (by first | rfl | (simp; done) | (simp [*]; done)), (by first | rfl | (simp; done) | (simp [*]; done)), H', ⟨by have := HJ5.out; have := HK2.out; omega⟩, ⟨by (with_reducible repeat (first | apply Kd.R_alloc | apply Kd.R_drewN | apply Kd.R_drew)); exact HO_607000.out⟩, ⟨by (with_reducible repeat (first | refine blk_drewN ?_ _ | refine blk_drew ?_ | refine blk_alloc ?_ _)); exact BK606.out⟩, ⟨by repeat (first | (with_reducible first | exact HB.out | apply below_alloc | apply pw_below_drewN | apply below_drew1 | refine below_set ?_ GE606.out) | exact HB.out)⟩⟩
                · rw [if_neg c19] at H
                  exact absurd H (by simp)
              · rw [if_neg c18] at H
                have c18b0 : decide (x10_2 < (t600.length : Int)) = false := decide_eq_false c18
                clear c18
                by_cases c23 : t609 = x9_2
                · rw [if_pos c23] at H
                  have c23b0 : (t609 == x9_2) = true := beq_iff_eq.mpr c23
                  have c23b1 : (t609 != x9_2) = false := bne_eq_false_iff_eq.mpr c23
                  clear c23
                  obtain rfl := Option.some.inj H
                  have hcz24_0 : wr.cell? ⟨gb606, 0, none⟩ = some (.slice Ao9 t600.length co9) := (blk_cell BK606.out 0).trans rfl
                  have hcz24_1 : wr.cell? ⟨gb606, 1, none⟩ = some (.int .i64 t603) := (blk_cell BK606.out 1).trans rfl
                  have hcz24_2 : wr.cell? ⟨gb606, 2, none⟩ = some (.int .i64 t604) := (blk_cell BK606.out 2).trans rfl
                  have hfz24_0 := blk_frozen BK606.out 0
                  have hfz24_1 := blk_frozen BK606.out 1
                  have hfz24_2 := blk_frozen BK606.out 2
                  go_wp2
                  go_ret
                  exact ⟨by first | rfl | (simp [errW_none, errW_some] <;> rfl) | (simp [*, errW_none, errW_some] <;> rfl), by repeat (first | (with_reducible first | exact HB.out | apply below_alloc | apply pw_below_drewN | apply below_drew1 | refine below_set ?_ GE606.out) | exact HB.out)⟩
                · rw [if_neg c23] at H
                  have c23b0 : (t609 == x9_2) = false := beq_eq_false_iff_ne.mpr c23
                  have c23b1 : (t609 != x9_2) = true := bne_iff_ne.mpr c23
                  obtain rfl := Option.some.inj H
                  have hcz25_0 : wr.cell? ⟨gb606, 0, none⟩ = some (.slice Ao9 t600.length co9) := (blk_cell BK606.out 0).trans rfl
                  have hcz25_1 : wr.cell? ⟨gb606, 1, none⟩ = some (.int .i64 t603) := (blk_cell BK606.out 1).trans rfl
                  have hcz25_2 : wr.cell? ⟨gb606, 2, none⟩ = some (.int .i64 t604) := (blk_cell BK606.out 2).trans rfl
                  have hfz25_0 := blk_frozen BK606.out 0
                  have hfz25_1 := blk_frozen BK606.out 1
                  have hfz25_2 := blk_frozen BK606.out 2
                  go_wp2
                  go_ret
                  exact ⟨by first | rfl | (simp [errW_none, errW_some] <;> rfl) | (simp [*, errW_none, errW_some] <;> rfl), by repeat (first | (with_reducible first | exact HB.out | apply below_alloc | apply pw_below_drewN | apply below_drew1 | refine below_set ?_ GE606.out) | exact HB.out)⟩

/-- THE ONE PURE STATEMENT of laws_FnTopGetOne: yours. -/
def laws_FnTopGetOne.Pure : Prop := ∀ (l0 : List Int), l0.length ≤ maxLen → l0.length * 1 ≤ 140737488351232 → (∀ x ∈ l0, (Lit.int .u8 x).wf = true) → ∃ k, laws_FnTopGetOne.f k l0 = some true
theorem laws_FnTopGetOne.walk (P : laws_FnTopGetOne.Pure) (a0 : Option Addr) (len0 cap0 : Nat) (z0 : List Int) (w : World) (w0 : (a0 = none ∧ len0 = 0 ∧ cap0 = 0 ∧ z0 = []) ∨ ∃ x, a0 = some x ∧ len0 ≤ cap0 ∧ cap0 ≤ maxLen ∧ z0.length = cap0 ∧ (∀ i, i < z0.length → w.cell? (x.add i) = some (.int .u8 (z0.getD i 0))) ∧ ∀ n ∈ z0, (Lit.int .u8 n).wf = true) (y0 : len0 * 1 ≤ 140737488351232) :
    Calls Try.prog 14 #[.slice a0 len0 cap0] w fun e w' => e = .returned (.bool true) ∧ Below w.heap.size w w' := by
  obtain ⟨l0, rfl, hr0, hm0, hw0, hc0⟩ := ReadsInt.ofRowC w0
  obtain ⟨k, h⟩ := P l0 hm0 y0 hw0
  refine (laws_FnTopGetOne.calls k _ _ l0 true w (Kd.C_of_reads (d := (0 : Int)) (h1 := fun _ => rfl) hr0) hc0 h).mono ?_
  rintro e w' ⟨rfl, hd⟩
  exact ⟨rfl, hd⟩

end Go.Proofs.Ytiaopahggjfggaa.PA
