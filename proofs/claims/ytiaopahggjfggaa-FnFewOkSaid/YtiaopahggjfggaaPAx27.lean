-- Made by a program of this session (wip/tools/pr2.sh) out of the translation, by way of the printer: shared by the seat's laws.
import Derived.Test.YtiaopahggjfggaaPAx0
import Derived.Test.YtiaopahggjfggaaPAx13
import Derived.Test.YtiaopahggjfggaaPAx16
import Derived.Test.YtiaopahggjfggaaPAx26
namespace Go.Proofs.Ytiaopahggjfggaa.PA
open Go.RowKit Go.Proofs.YtiaopahggjfggaaW.PrintWords Go.Proofs.YtiaopahggjfggaaW.PrintLast Go.Proofs.YtiaopahggjfggaaW.PrintMore
attribute [local go_sem] max2_int min2_int max_two min_two max_three min_three max_four min_four   -- for this text's walks alone
set_option linter.unusedVariables false
set_option linter.unusedSimpArgs false

/-! ### laws_FnFewOk: function 7 -/
mutual
def laws_FnFewOk.j0 : Nat → Bool → Bool → List Int → Option (Bool)
  | 0, _, _, _ => none
  | k + 1, x4, x20, x281000 => if x20 = true then ((spec_FewOk.f k x281000).bind fun t283 => (some (x4 == t283))) else (laws_FnFewOk.l0 k 0 x281000)
def laws_FnFewOk.l0 : Nat → Int → List Int → Option (Bool)
  | 0, _, _ => none
  | k + 1, x5, x281000 => if x5 < (x281000.length : Int) then (if 0 ≤ x5 then (if x5 ≤ (x281000.length : Int) then ((impl_FewOk.f k (x281000.drop (x5 : Int).toNat)).bind fun t288 => (if t288 = true then ((impl_FewOk.f k (x281000.take (x5 : Int).toNat)).bind fun t293 => (if t293 = true then (laws_FnFewOk.l0 k (wrap64 (x5 + 1)) x281000) else (some false))) else (some false))) else (none)) else (none)) else (some (decide ((x281000.length : Int) ≤ 6)))
end
def laws_FnFewOk.f (k : Nat) (l0 : List Int) : Option (Bool) := if (l0.length : Int) > 1048576 then (some true) else ((spec_DrawFewOk.f k l0).bind fun t277 => ((impl_FewOk.f k t277).bind fun t281 => ((spec_FewOk.f k t277).bind fun t282 => (if (t281 != t282) = true then (laws_FnFewOk.j0 k t281 true t277) else (laws_FnFewOk.j0 k t281 (!t281) t277)))))
theorem laws_FnFewOk.mono_l : ∀ k, (∀ y0 y1 y2, LeO (laws_FnFewOk.j0 k y0 y1 y2) (laws_FnFewOk.j0 (k + 1) y0 y1 y2)) ∧ (∀ y0 y1, LeO (laws_FnFewOk.l0 k y0 y1) (laws_FnFewOk.l0 (k + 1) y0 y1))
  | 0 => ⟨fun _ _ _ r h => by simp [laws_FnFewOk.j0] at h, fun _ _ r h => by simp [laws_FnFewOk.l0] at h⟩
  | k + 1 => by
    obtain ⟨ih0, ih1⟩ := laws_FnFewOk.mono_l k
    refine ⟨?_, ?_⟩
    · intro y0 y1 y2
      unfold laws_FnFewOk.j0
      repeat' first
      | (with_reducible exact ih0 _ _ _)
      | (with_reducible exact ih1 _ _)
      | (with_reducible exact impl_FewOk.mono _ _)
      | (with_reducible exact spec_DrawFewOk.mono _ _)
      | (with_reducible exact spec_FewOk.mono _ _)
      | (with_reducible exact LeO.refl _)
      | (with_reducible exact LeO.none _)
      | (with_reducible refine LeO.ite ?_ ?_)
      | (with_reducible refine LeO.bind ?_ (fun _ => ?_))
      | exact ih0 _ _ _
      | exact ih1 _ _
      | exact impl_FewOk.mono _ _
      | exact spec_DrawFewOk.mono _ _
      | exact spec_FewOk.mono _ _
      | exact LeO.none _
      | refine LeO.ite ?_ ?_
      | refine LeO.bind ?_ (fun _ => ?_)
    · intro y0 y1
      unfold laws_FnFewOk.l0
      repeat' first
      | (with_reducible exact ih0 _ _ _)
      | (with_reducible exact ih1 _ _)
      | (with_reducible exact impl_FewOk.mono _ _)
      | (with_reducible exact spec_DrawFewOk.mono _ _)
      | (with_reducible exact spec_FewOk.mono _ _)
      | (with_reducible exact LeO.refl _)
      | (with_reducible exact LeO.none _)
      | (with_reducible refine LeO.ite ?_ ?_)
      | (with_reducible refine LeO.bind ?_ (fun _ => ?_))
      | exact ih0 _ _ _
      | exact ih1 _ _
      | exact impl_FewOk.mono _ _
      | exact spec_DrawFewOk.mono _ _
      | exact spec_FewOk.mono _ _
      | exact LeO.none _
      | refine LeO.ite ?_ ?_
      | refine LeO.bind ?_ (fun _ => ?_)
theorem laws_FnFewOk.mono : ∀ a0 k, LeO (laws_FnFewOk.f k a0) (laws_FnFewOk.f (k + 1) a0) := by
  intro a0 k
  obtain ⟨ih0, ih1⟩ := laws_FnFewOk.mono_l k
  unfold laws_FnFewOk.f
  repeat' first
      | (with_reducible exact ih0 _ _ _)
      | (with_reducible exact ih1 _ _)
      | (with_reducible exact impl_FewOk.mono _ _)
      | (with_reducible exact spec_DrawFewOk.mono _ _)
      | (with_reducible exact spec_FewOk.mono _ _)
      | (with_reducible exact LeO.refl _)
      | (with_reducible exact LeO.none _)
      | (with_reducible refine LeO.ite ?_ ?_)
      | (with_reducible refine LeO.bind ?_ (fun _ => ?_))
      | exact ih0 _ _ _
      | exact ih1 _ _
      | exact impl_FewOk.mono _ _
      | exact spec_DrawFewOk.mono _ _
      | exact spec_FewOk.mono _ _
      | exact LeO.none _
      | refine LeO.ite ?_ ?_
      | refine LeO.bind ?_ (fun _ => ?_)
set_option maxHeartbeats 8000000 in
set_option maxRecDepth 100000 in
theorem laws_FnFewOk.calls (k : Nat) (A0 : Option Addr) (c0 : Nat) (l0 : List Int) (r : Bool) (w : World) (hr0 : Kd.C (Kd.int .u8) w A0 l0.length l0) (hc0 : l0.length ≤ c0) (h : laws_FnFewOk.f k l0 = some r) :
    Calls Try.prog 7 #[.slice A0 l0.length c0] w fun e w' => e = .returned (.bool r) ∧ Below w.heap.size w w' := by
  have hu32 := Try.underlying32
  have HR0 := Aside0.mk hr0
  have HC0 := Aside0.mk hc0
  clear hr0 hc0
  have HB := Aside0.mk (Below.refl w.heap.size w)
  have H : (if (l0.length : Int) > 1048576 then (some true) else ((spec_DrawFewOk.f k l0).bind fun t277 => ((impl_FewOk.f k t277).bind fun t281 => ((spec_FewOk.f k t277).bind fun t282 => (if (t281 != t282) = true then (laws_FnFewOk.j0 k t281 true t277) else (laws_FnFewOk.j0 k t281 (!t281) t277)))))) = some r := h
  clear h
  by_cases c2 : (l0.length : Int) > 1048576
  · rw [if_pos c2] at H
    have c2b0 : decide (1048576 < (l0.length : Int)) = true := decide_eq_true c2
    have c2b1 : decide (1048576 < l0.length) = true := decide_eq_true (by omega)
    clear c2
    obtain rfl := Option.some.inj H
    go_enter Try.func7, Try.ntmps7
    go_wp2
    go_ret
    exact ⟨by first | rfl | (simp [errW_none, errW_some] <;> rfl) | (simp [*, errW_none, errW_some] <;> rfl), by repeat (first | (with_reducible first | exact HB.out | apply below_alloc | apply pw_below_drewN | apply below_drew1) | exact HB.out)⟩
  · rw [if_neg c2] at H
    have c2b0 : decide (1048576 < (l0.length : Int)) = false := decide_eq_false c2
    have c2b1 : decide (1048576 < l0.length) = false := decide_eq_false (by omega)
    clear c2
    replace H := Option.bind_eq_some_iff.mp H
    obtain ⟨t277, A30, H⟩ := H
    replace H : ((impl_FewOk.f k t277).bind fun t281 => ((spec_FewOk.f k t277).bind fun t282 => (if (t281 != t282) = true then (laws_FnFewOk.j0 k t281 true t277) else (laws_FnFewOk.j0 k t281 (!t281) t277)))) = some r := H
    have A3 := Aside0.mk A30
    clear A30
    replace H := Option.bind_eq_some_iff.mp H
    obtain ⟨t281, A40, H⟩ := H
    replace H : ((spec_FewOk.f k t277).bind fun t282 => (if (t281 != t282) = true then (laws_FnFewOk.j0 k t281 true t277) else (laws_FnFewOk.j0 k t281 (!t281) t277))) = some r := H
    have A4 := Aside0.mk A40
    clear A40
    have HC5 := Aside0.mk H
    clear H
    go_enter Try.func7, Try.ntmps7
    go_upto_region 5 with (first | ((with_reducible refine gate_callee (f := 25) rfl ?_); refine goesL_ (some 10) rfl rfl Try.func25 (by kernel_rfl) rfl #[.slice A0 l0.length c0] rfl (by (try simp only [List.map_toArray, List.map_cons, List.map_nil]); first | done | rfl | (simp only [List.length_drop, List.length_take]; rfl)) ?_; (with_reducible refine (spec_DrawFewOk.calls k _ _ l0 t277 _ ?side1 ?side2 A3.out).mono ?_); (case side1 => repeat (first | exact HR0.out | (with_reducible refine Kd.C_alloc ?_ _) | (with_reducible refine Kd.C_drewN ?_ _) | (with_reducible refine Kd.C_drew ?_))); (case side2 => exact HC0.out); rintro e w6 ⟨v278, rfl, ho0, hb⟩; refine ⟨_, rfl, ?_⟩; have n0_ := Aside0.mk (Kd.R_lower ho0 (below_size (by repeat (first | (with_reducible first | exact HB.out | apply below_alloc | apply pw_below_drewN | apply below_drew1) | exact HB.out)))); have n1_ := Aside0.mk (below_step (by repeat (first | (with_reducible first | exact HB.out | apply below_alloc | apply pw_below_drewN | apply below_drew1) | exact HB.out)) hb); clear HB; have HO279 := n0_; have HB := n1_; clear n0_ n1_; (try clear hb); (try clear hb2); (try clear hk); (try clear hi); (try clear ho0)) | ((with_reducible refine gate_dst (N := 3) rfl ?_); refine box_event ?hg (N := 3) ?hd (cs := #[.slice none 0 0]) (t := 32) ?hr ?_; (case hd => rfl); (case hg => rfl); (case hr => first | (go_simp; done) | (go_simp; rfl)); intro gb280 hg w7 hbox hb; have n0_ := Aside0.mk (Kd.R_below (by (with_reducible repeat (first | apply Kd.R_alloc | apply Kd.R_drewN | apply Kd.R_drew)); exact HO279.out) hb); have n1_ := Aside0.mk (below_step (by repeat (first | (with_reducible first | exact HB.out | apply below_alloc | apply pw_below_drewN | apply below_drew1) | exact HB.out)) hb); have n2_ := Aside0.mk (hbox); have n3_ := Aside0.mk ((by rw [hg]; exact (below_size (by repeat (first | (with_reducible first | exact HB.out | apply below_alloc | apply pw_below_drewN | apply below_drew1) | exact HB.out))) : w.heap.size ≤ gb280)); have n4_ := Aside0.mk ((by rw [hg]; exact (below_size (by repeat (first | (with_reducible first | exact HB.out | apply below_alloc | apply pw_below_drewN | apply below_drew1) | exact HB.out))) : w.heap.size ≤ gb280)); clear HO279; clear HB; have HO279 := n0_; have HB := n1_; have BK280 := n2_; have GW280 := n3_; have GE280 := n4_; clear n0_ n1_ n2_ n3_ n4_; clear hb hbox hg; obtain ⟨Ao8, co8, eo8⟩ := Kd.R_slice HO279.out; subst eo8; have hcz9_0 : w7.cell? ⟨gb280, 0, none⟩ = some (.slice none 0 0) := (blk_cell BK280.out 0).trans rfl; have hfz9_0 := blk_frozen BK280.out 0) | ((with_reducible refine gate_callee (f := 21) rfl ?_); refine goesL_ (some 12) rfl rfl Try.func21 (by kernel_rfl) rfl #[.agg #[.slice Ao8 t277.length co8]] rfl (by (try simp only [List.map_toArray, List.map_cons, List.map_nil]); first | done | rfl | (simp only [List.length_drop, List.length_take]; rfl)) ?_; (with_reducible refine (impl_FewOk.calls k _ _ t277 t281 _ ?side1 ?side2 A4.out).mono ?_); (case side1 => refine (Kd.R_reads' (e := 3) (base := w.heap.size) (ok := fun k_ => True) (n := t277.length) (c := co8) ?_).2.2; exact (by (with_reducible repeat (first | apply Kd.R_alloc | apply Kd.R_drewN | apply Kd.R_drew)); exact (Kd.R_mono (Kd.R_far (p := ⟨gb280, 0, none⟩) (Kd.R_types HO279.out BK280.out (by decide)) (fun _ hk => hk.2) (.slice Ao8 t277.length co8)) (fun _ h_ => h_.1)))); (case side2 => exact (Kd.R_reads' HO279.out).2.1); rintro e w10 ⟨rfl, hb⟩; refine ⟨_, rfl, ?_⟩; have n0_ := Aside0.mk (Kd.R_below (by (with_reducible repeat (first | apply Kd.R_alloc | apply Kd.R_drewN | apply Kd.R_drew)); exact (Kd.R_mono (Kd.R_far (p := ⟨gb280, 0, none⟩) (Kd.R_types HO279.out BK280.out (by decide)) (fun _ hk => hk.2) (.slice Ao8 t277.length co8)) (fun _ h_ => h_.1))) hb); have n1_ := Aside0.mk (blk_below (g := gb280) (o := .cells #[.slice Ao8 t277.length co8] 32 (0, 0)) (by (with_reducible repeat (first | refine blk_drewN ?_ _ | refine blk_drew ?_ | refine blk_alloc ?_ _)); refine blk_put (cs := #[.slice none 0 0]) ?_ 0 _ rfl; (with_reducible repeat (first | refine blk_drewN ?_ _ | refine blk_drew ?_ | refine blk_alloc ?_ _)); exact BK280.out) hb); have n2_ := Aside0.mk (below_step (by repeat (first | (with_reducible first | exact HB.out | apply below_alloc | apply pw_below_drewN | apply below_drew1 | refine below_set ?_ GE280.out) | exact HB.out)) hb); clear HO279; clear BK280; clear HB; have HO279 := n0_; have BK280 := n1_; have HB := n2_; clear n0_ n1_ n2_; (try clear hb); (try clear hb2); (try clear hk); (try clear hi)))
    (try simp only [Act.put, List.setIfInBounds_toArray, List.set_cons_zero, List.set_cons_succ])
    go_cut [20] (fun v20 wc => ∃ (kq : Nat) (x20_4 : Bool), v20 = .bool x20_4 ∧ Aside0 (laws_FnFewOk.j0 kq t281 x20_4 t277 = some r) ∧ Aside0 (kq ≤ k) ∧ Aside0 (Kd.R (Kd.int .i64) 3 wc w.heap.size (fun _ => True) (.slice Ao8 t277.length co8) t277) ∧ Aside0 (wc.heap[gb280]? = some (.cells #[(.slice Ao8 t277.length co8)] 32 (0, 0))) ∧ Aside0 (Below w.heap.size w wc))
    case first =>
      have H := HC5.out
      clear HC5
      replace H := Option.bind_eq_some_iff.mp H
      obtain ⟨t282, A110, H⟩ := H
      replace H : (if (t281 != t282) = true then (laws_FnFewOk.j0 k t281 true t277) else (laws_FnFewOk.j0 k t281 (!t281) t277)) = some r := H
      have A11 := Aside0.mk A110
      clear A110
      by_cases c12 : (t281 != t282) = true
      · rw [if_pos c12] at H
        have c12b0 : (t281 != t282) = true := c12
        (try (have c12b1 : decide (t281 = t282) = false := by simpa using c12))
        (try (have c12b2 : (t281 == t282) = false := by simpa using c12))
        (try (have c12b3 : ¬ (t281 = t282) := by simpa using c12))
        clear c12
        (first | rw [c12b0] | (simp only [i64_w, i32_w]; rw [c12b0]) | skip)
        have H' := Aside0.mk H
        clear H
        have hcz13_0 : w10.cell? ⟨gb280, 0, none⟩ = some (.slice Ao8 t277.length co8) := (blk_cell BK280.out 0).trans rfl
        have hfz13_0 := blk_frozen BK280.out 0
        go_wp2_with (first | ((with_reducible refine gate_callee (f := 19) rfl ?_); refine goesL_ (some 15) rfl rfl Try.func19 (by kernel_rfl) rfl #[.agg #[.slice Ao8 t277.length co8]] rfl (by (try simp only [List.map_toArray, List.map_cons, List.map_nil]); first | done | rfl | (simp only [List.length_drop, List.length_take]; rfl)) ?_; (with_reducible refine (spec_FewOk.calls k _ _ t277 t282 _ ?side1 ?side2 A11.out).mono ?_); (case side1 => repeat (first | exact (Kd.R_reads' HO279.out).2.2 | (with_reducible refine Kd.C_alloc ?_ _) | (with_reducible refine Kd.C_drewN ?_ _) | (with_reducible refine Kd.C_drew ?_))); (case side2 => exact (Kd.R_reads' HO279.out).2.1); rintro e w14 ⟨rfl, hb⟩; refine ⟨_, rfl, ?_⟩; have n0_ := Aside0.mk (Kd.R_below (by (with_reducible repeat (first | apply Kd.R_alloc | apply Kd.R_drewN | apply Kd.R_drew)); exact HO279.out) hb); have n1_ := Aside0.mk (blk_below (g := gb280) (o := .cells #[.slice Ao8 t277.length co8] 32 (0, 0)) (by (with_reducible repeat (first | refine blk_drewN ?_ _ | refine blk_drew ?_ | refine blk_alloc ?_ _)); exact BK280.out) hb); have n2_ := Aside0.mk (below_step (by repeat (first | (with_reducible first | exact HB.out | apply below_alloc | apply pw_below_drewN | apply below_drew1 | refine below_set ?_ GE280.out) | exact HB.out)) hb); clear HO279; clear BK280; clear HB; have HO279 := n0_; have BK280 := n1_; have HB := n2_; clear n0_ n1_ n2_; (try clear hb); (try clear hb2); (try clear hk); (try clear hi)))
        go_meet
        case rel => exact ⟨_, (true), (by first | rfl | (simp; done) | (simp [*]; done)), H', ⟨by first | omega | exact Nat.le_refl _⟩, ⟨by (with_reducible repeat (first | apply Kd.R_alloc | apply Kd.R_drewN | apply Kd.R_drew)); exact HO279.out⟩, ⟨by (with_reducible repeat (first | refine blk_drewN ?_ _ | refine blk_drew ?_ | refine blk_alloc ?_ _)); exact BK280.out⟩, ⟨by repeat (first | (with_reducible first | exact HB.out | apply below_alloc | apply pw_below_drewN | apply below_drew1 | refine below_set ?_ GE280.out) | exact HB.out)⟩⟩
      · rw [if_neg c12] at H
        have c12b0 : (t281 != t282) = false := by simpa using c12
        (try (have c12b1 : decide (t281 = t282) = true := by simpa using c12))
        (try (have c12b2 : (t281 == t282) = true := by simpa using c12))
        clear c12
        (first | rw [c12b0] | (simp only [i64_w, i32_w]; rw [c12b0]) | skip)
        have H' := Aside0.mk H
        clear H
        have hcz15_0 : w10.cell? ⟨gb280, 0, none⟩ = some (.slice Ao8 t277.length co8) := (blk_cell BK280.out 0).trans rfl
        have hfz15_0 := blk_frozen BK280.out 0
        go_wp2_with (first | ((with_reducible refine gate_callee (f := 19) rfl ?_); refine goesL_ (some 15) rfl rfl Try.func19 (by kernel_rfl) rfl #[.agg #[.slice Ao8 t277.length co8]] rfl (by (try simp only [List.map_toArray, List.map_cons, List.map_nil]); first | done | rfl | (simp only [List.length_drop, List.length_take]; rfl)) ?_; (with_reducible refine (spec_FewOk.calls k _ _ t277 t282 _ ?side1 ?side2 A11.out).mono ?_); (case side1 => repeat (first | exact (Kd.R_reads' HO279.out).2.2 | (with_reducible refine Kd.C_alloc ?_ _) | (with_reducible refine Kd.C_drewN ?_ _) | (with_reducible refine Kd.C_drew ?_))); (case side2 => exact (Kd.R_reads' HO279.out).2.1); rintro e w16 ⟨rfl, hb⟩; refine ⟨_, rfl, ?_⟩; have n0_ := Aside0.mk (Kd.R_below (by (with_reducible repeat (first | apply Kd.R_alloc | apply Kd.R_drewN | apply Kd.R_drew)); exact HO279.out) hb); have n1_ := Aside0.mk (blk_below (g := gb280) (o := .cells #[.slice Ao8 t277.length co8] 32 (0, 0)) (by (with_reducible repeat (first | refine blk_drewN ?_ _ | refine blk_drew ?_ | refine blk_alloc ?_ _)); exact BK280.out) hb); have n2_ := Aside0.mk (below_step (by repeat (first | (with_reducible first | exact HB.out | apply below_alloc | apply pw_below_drewN | apply below_drew1 | refine below_set ?_ GE280.out) | exact HB.out)) hb); clear HO279; clear BK280; clear HB; have HO279 := n0_; have BK280 := n1_; have HB := n2_; clear n0_ n1_ n2_; (try clear hb); (try clear hb2); (try clear hk); (try clear hi)))
        go_meet
        case rel => exact ⟨_, (!t281), (by first | rfl | (simp; done) | (simp [*]; done)), H', ⟨by first | omega | exact Nat.le_refl _⟩, ⟨by (with_reducible repeat (first | apply Kd.R_alloc | apply Kd.R_drewN | apply Kd.R_drew)); exact HO279.out⟩, ⟨by (with_reducible repeat (first | refine blk_drewN ?_ _ | refine blk_drew ?_ | refine blk_alloc ?_ _)); exact BK280.out⟩, ⟨by repeat (first | (with_reducible first | exact HB.out | apply below_alloc | apply pw_below_drewN | apply below_drew1 | refine below_set ?_ GE280.out) | exact HB.out)⟩⟩
    case rest =>
      clear HC5
      try clear c1
      try clear c2
      try clear c2b0
      try clear c2b1
      try clear p2
      try clear c7
      try clear c12
      try clear c12b0
      try clear c12b1
      try clear c12b2
      try clear hcz13_0
      try clear hcz15_0
      try clear hcz9_0
      try clear hfz13_0
      try clear hfz15_0
      try clear hfz9_0
      obtain ⟨kq, x20_4, rfl, HA, HJ4, HO_281000, BK280, HB⟩ := hcut
      cases kq with
      | zero => exact absurd HA.out (by simp [laws_FnFewOk.j0])
      | succ kj4 =>
        have H := HA.out
        clear HA
        simp only [laws_FnFewOk.j0] at H
        by_cases c17 : x20_4 = true
        · subst c17
          have H1 : ((spec_FewOk.f kj4 t277).bind fun t283 => (some (t281 == t283))) = some r := by rw [if_pos rfl] at H; exact H
          clear H
          have H := H1
          clear H1
          replace H := Option.bind_eq_some_iff.mp H
          obtain ⟨t283, A180, H⟩ := H
          replace H : (some (t281 == t283)) = some r := H
          have A18 := Aside0.mk A180
          clear A180
          obtain rfl := Option.some.inj H
          have hcz19_0 : wc.cell? ⟨gb280, 0, none⟩ = some (.slice Ao8 t277.length co8) := (blk_cell BK280.out 0).trans rfl
          have hfz19_0 := blk_frozen BK280.out 0
          go_wp2_with (first | ((with_reducible refine gate_callee (f := 19) rfl ?_); refine goesL_ (some 23) rfl rfl Try.func19 (by kernel_rfl) rfl #[.agg #[.slice Ao8 t277.length co8]] rfl (by (try simp only [List.map_toArray, List.map_cons, List.map_nil]); first | done | rfl | (simp only [List.length_drop, List.length_take]; rfl)) ?_; (with_reducible refine (spec_FewOk.calls kj4 _ _ t277 t283 _ ?side1 ?side2 A18.out).mono ?_); (case side1 => repeat (first | exact (Kd.R_reads' HO_281000.out).2.2 | (with_reducible refine Kd.C_alloc ?_ _) | (with_reducible refine Kd.C_drewN ?_ _) | (with_reducible refine Kd.C_drew ?_))); (case side2 => exact (Kd.R_reads' HO_281000.out).2.1); rintro e w20 ⟨rfl, hb⟩; refine ⟨_, rfl, ?_⟩; have n0_ := Aside0.mk (Kd.R_below (by (with_reducible repeat (first | apply Kd.R_alloc | apply Kd.R_drewN | apply Kd.R_drew)); exact HO_281000.out) hb); have n1_ := Aside0.mk (blk_below (g := gb280) (o := .cells #[.slice Ao8 t277.length co8] 32 (0, 0)) (by (with_reducible repeat (first | refine blk_drewN ?_ _ | refine blk_drew ?_ | refine blk_alloc ?_ _)); exact BK280.out) hb); have n2_ := Aside0.mk (below_step (by repeat (first | (with_reducible first | exact HB.out | apply below_alloc | apply pw_below_drewN | apply below_drew1 | refine below_set ?_ GE280.out) | exact HB.out)) hb); clear HO_281000; clear BK280; clear HB; have HO_281000 := n0_; have BK280 := n1_; have HB := n2_; clear n0_ n1_ n2_; (try clear hb); (try clear hb2); (try clear hk); (try clear hi)))
          go_ret
          exact ⟨by first | rfl | (simp [errW_none, errW_some] <;> rfl) | (simp [*, errW_none, errW_some] <;> rfl), by repeat (first | (with_reducible first | exact HB.out | apply below_alloc | apply pw_below_drewN | apply below_drew1 | refine below_set ?_ GE280.out) | exact HB.out)⟩
        · replace c17 := Bool.eq_false_iff.mpr c17
          subst c17
          have H1 : (laws_FnFewOk.l0 kj4 0 t277) = some r := by rw [if_neg (show ¬ (false = true) by decide)] at H; exact H
          clear H
          have H := H1
          clear H1
          have H' := Aside0.mk H
          clear H
          go_wp2
          go_loopg [5] kj4 (fun kq v5 w' => ∃ (x5_2 : Int), v5 = .int .i64 x5_2 ∧ Aside0 (laws_FnFewOk.l0 kq x5_2 t277 = some r) ∧ Aside0 (kq ≤ kj4) ∧ Aside0 (Kd.R (Kd.int .i64) 3 w' w.heap.size (fun _ => True) (.slice Ao8 t277.length co8) t277) ∧ Aside0 (w'.heap[gb280]? = some (.cells #[(.slice Ao8 t277.length co8)] 32 (0, 0))) ∧ Aside0 (Below w.heap.size w w'))
          case atStart => exact ⟨(0), (by first | rfl | (simp; done) | (simp [*]; done)), H', ⟨Nat.le_refl _⟩, ⟨by (with_reducible repeat (first | apply Kd.R_alloc | apply Kd.R_drewN | apply Kd.R_drew)); exact HO_281000.out⟩, ⟨by (with_reducible repeat (first | refine blk_drewN ?_ _ | refine blk_drew ?_ | refine blk_alloc ?_ _)); exact BK280.out⟩, ⟨by repeat (first | (with_reducible first | exact HB.out | apply below_alloc | apply pw_below_drewN | apply below_drew1 | refine below_set ?_ GE280.out) | exact HB.out)⟩⟩
          case round =>
            clear H'
            try clear c1
            try clear c2
            try clear c2b0
            try clear c2b1
            try clear p2
            try clear c7
            try clear c12
            try clear c12b0
            try clear c12b1
            try clear c12b2
            try clear c17
            try clear c19
            try clear hcz13_0
            try clear hcz15_0
            try clear hcz19_0
            try clear hcz9_0
            try clear hfz13_0
            try clear hfz15_0
            try clear hfz19_0
            try clear hfz9_0
            try clear p2
            obtain ⟨x5_2, rfl, HA, HK2, HO_281000, BK280, HB⟩ := hrel
            cases gk with
            | zero => exact absurd HA.out (by simp [laws_FnFewOk.l0])
            | succ k2 =>
              have H := HA.out
              clear HA
              simp only [laws_FnFewOk.l0] at H
              by_cases c21 : x5_2 < (t277.length : Int)
              · rw [if_pos c21] at H
                have c21b0 : decide (x5_2 < (t277.length : Int)) = true := decide_eq_true c21
                clear c21
                by_cases c22 : 0 ≤ x5_2
                · rw [if_pos c22] at H
                  have c22b0 := eq_true c22
                  have c22b1 : decide (0 ≤ x5_2) = true := decide_eq_true c22
                  clear c22
                  by_cases c23 : x5_2 ≤ (t277.length : Int)
                  · rw [if_pos c23] at H
                    have c23b0 := eq_true c23
                    have c23b1 : decide (x5_2 ≤ (t277.length : Int)) = true := decide_eq_true c23
                    clear c23
                    obtain ⟨y284, hy284⟩ : ∃ y_ : List Int, y_ = (t277.drop (x5_2 : Int).toNat) := ⟨_, rfl⟩
                    replace H : ((impl_FewOk.f k2 y284).bind fun t288 => (if t288 = true then ((impl_FewOk.f k2 (t277.take (x5_2 : Int).toNat)).bind fun t293 => (if t293 = true then (laws_FnFewOk.l0 k2 (wrap64 (x5_2 + 1)) t277) else (some false))) else (some false))) = some r := by first | (rw [hy284]; with_reducible exact H) | (have H2_ := (Option.bind_some _ _).symm.trans H; rw [hy284]; with_reducible exact H2_) | (have H2_ := (Option.bind_some _ _).symm.trans H; with_reducible exact H2_) | with_reducible exact H | (rw [hy284]; exact H) | exact H
                    have Ny284 := Aside0.mk hy284
                    clear hy284
                    replace H := Option.bind_eq_some_iff.mp H
                    obtain ⟨t288, A240, H⟩ := H
                    replace H : (if t288 = true then ((impl_FewOk.f k2 (t277.take (x5_2 : Int).toNat)).bind fun t293 => (if t293 = true then (laws_FnFewOk.l0 k2 (wrap64 (x5_2 + 1)) t277) else (some false))) else (some false)) = some r := H
                    have A24 := Aside0.mk A240
                    clear A240
                    by_cases c25 : t288 = true
                    · subst c25
                      have H1 : ((impl_FewOk.f k2 (t277.take (x5_2 : Int).toNat)).bind fun t293 => (if t293 = true then (laws_FnFewOk.l0 k2 (wrap64 (x5_2 + 1)) t277) else (some false))) = some r := by rw [if_pos rfl] at H; exact H
                      clear H
                      have H := H1
                      clear H1
                      have c26b0 := eq_true (of_decide_eq_true (by first | (with_reducible assumption) | assumption) : 0 ≤ x5_2)
                      have c27b0 := eq_true (of_decide_eq_true (by first | (with_reducible assumption) | assumption) : x5_2 ≤ (t277.length : Int))
                      obtain ⟨y289, hy289⟩ : ∃ y_ : List Int, y_ = (t277.take (x5_2 : Int).toNat) := ⟨_, rfl⟩
                      replace H : ((impl_FewOk.f k2 y289).bind fun t293 => (if t293 = true then (laws_FnFewOk.l0 k2 (wrap64 (x5_2 + 1)) t277) else (some false))) = some r := by first | (rw [hy289]; with_reducible exact H) | (have H2_ := (Option.bind_some _ _).symm.trans H; rw [hy289]; with_reducible exact H2_) | (have H2_ := (Option.bind_some _ _).symm.trans H; with_reducible exact H2_) | with_reducible exact H | (rw [hy289]; exact H) | exact H
                      have Ny289 := Aside0.mk hy289
                      clear hy289
                      replace H := Option.bind_eq_some_iff.mp H
                      obtain ⟨t293, A280, H⟩ := H
                      replace H : (if t293 = true then (laws_FnFewOk.l0 k2 (wrap64 (x5_2 + 1)) t277) else (some false)) = some r := H
                      have A28 := Aside0.mk A280
                      clear A280
                      by_cases c29 : t293 = true
                      · subst c29
                        have H1 : (laws_FnFewOk.l0 k2 (wrap64 (x5_2 + 1)) t277) = some r := by rw [if_pos rfl] at H; exact H
                        clear H
                        have H := H1
                        clear H1
                        have H' := Aside0.mk H
                        clear H
                        have hcz30_0 : wr.cell? ⟨gb280, 0, none⟩ = some (.slice Ao8 t277.length co8) := (blk_cell BK280.out 0).trans rfl
                        have hfz30_0 := blk_frozen BK280.out 0
                        have q31 : (x5_2 : Int) ≤ ((t277.length : Int) : Int) := of_decide_eq_true (by first | (with_reducible assumption) | assumption)
                        obtain ⟨i031, hi031, _, hsz31, _⟩ := info_parts info3
                        have hroom31 : t277.length ≤ co8 := (Kd.R_reads' HO_281000.out).2.1
                        have hC31 : Kd.C (Kd.int .i64) _ Ao8 t277.length t277 := (Kd.R_reads' HO_281000.out).2.2
                        have q031 : (0 : Int) ≤ (x5_2 : Int) := of_decide_eq_true (by first | (with_reducible assumption) | assumption)
                        have hcut31 := cut_from (P := Try.prog) 27 3 .i64 Try.underlying27 hi031 1 hsz31 Ao8 t277.length co8 x5_2 q031 q31
                        have hr31 := Kd.C_drop (m := (x5_2 : Int).toNat) (c := co8) hC31 (by omega) hroom31
                        obtain ⟨A31, hA31⟩ : ∃ A1, A1 = (if co8 = (x5_2 : Int).toNat then Ao8 else (Ao8 : Option Addr).map (·.add ((x5_2 : Int).toNat * 1))) := ⟨_, rfl⟩
                        obtain ⟨c31, hc31⟩ : ∃ c1, c1 = co8 - (x5_2 : Int).toNat := ⟨_, rfl⟩
                        have hy31 : y284.length = t277.length - (x5_2 : Int).toNat := (by rw [Ny284.out, List.length_drop] <;> omega)
                        rw [show (t277).drop (x5_2 : Int).toNat = y284 from Ny284.out.symm] at hr31
                        replace hr31 : Kd.C (Kd.int .i64) _ A31 y284.length y284 := (by rw [hA31]; exact hr31)
                        rw [← hy31, ← hA31, ← hc31] at hcut31
                        have HR287 := Aside0.mk hr31
                        have HC287 := Aside0.mk (show y284.length ≤ c31 from by rw [hy31, hc31]; exact Nat.sub_le_sub_right hroom31 _)
                        clear hr31 hC31 hroom31 hi031 hsz31 hc31
                        have KY31 := Aside0.mk hy31
                        have KA31 := Aside0.mk hA31
                        clear hy31 hA31
                        have KL31 := Aside0.mk (show (x5_2 : Int).toNat ≤ t277.length from by omega)
                        replace q31 := eq_true q31
                        go_wp2_with (first | ((with_reducible refine gate_callee (f := 21) rfl ?_); refine goesL_ (some 37) rfl rfl Try.func21 (by kernel_rfl) rfl #[.agg #[.slice A31 y284.length c31]] rfl (by (try simp only [List.map_toArray, List.map_cons, List.map_nil]); first | done | rfl | (simp only [List.length_drop, List.length_take]; rfl)) ?_; (with_reducible refine (impl_FewOk.calls k2 _ _ y284 true _ ?side1 ?side2 A24.out).mono ?_); (case side1 => repeat (first | exact (by repeat (first | (with_reducible exact HR287.out) | (with_reducible refine Kd.C_alloc ?_ _) | (with_reducible refine Kd.C_drewN ?_ _) | (with_reducible refine Kd.C_drew ?_) | exact HR287.out)) | (with_reducible refine Kd.C_alloc ?_ _) | (with_reducible refine Kd.C_drewN ?_ _) | (with_reducible refine Kd.C_drew ?_))); (case side2 => exact HC287.out); rintro e w32 ⟨rfl, hb⟩; refine ⟨_, rfl, ?_⟩; have n0_ := Aside0.mk (Kd.R_below (by (with_reducible repeat (first | apply Kd.R_alloc | apply Kd.R_drewN | apply Kd.R_drew)); exact HO_281000.out) hb); have n1_ := Aside0.mk (blk_below (g := gb280) (o := .cells #[.slice Ao8 t277.length co8] 32 (0, 0)) (by (with_reducible repeat (first | refine blk_drewN ?_ _ | refine blk_drew ?_ | refine blk_alloc ?_ _)); exact BK280.out) hb); have n2_ := Aside0.mk (Kd.C_below (by repeat (first | (with_reducible exact HR287.out) | (with_reducible refine Kd.C_alloc ?_ _) | (with_reducible refine Kd.C_drewN ?_ _) | (with_reducible refine Kd.C_drew ?_) | exact HR287.out)) hb); have n3_ := Aside0.mk (below_step (by repeat (first | (with_reducible first | exact HB.out | apply below_alloc | apply pw_below_drewN | apply below_drew1 | refine below_set ?_ GE280.out) | exact HB.out)) hb); clear HO_281000; clear BK280; clear HR287; clear HB; have HO_281000 := n0_; have BK280 := n1_; have HR287 := n2_; have HB := n3_; clear n0_ n1_ n2_ n3_; (try clear hb); (try clear hb2); (try clear hk); (try clear hi); have hcz33_0 : w32.cell? ⟨gb280, 0, none⟩ = some (.slice Ao8 t277.length co8) := (blk_cell BK280.out 0).trans rfl; have hfz33_0 := blk_frozen BK280.out 0; have q34 : (x5_2 : Int) ≤ ((t277.length : Int) : Int) := of_decide_eq_true (by first | (with_reducible assumption) | assumption); obtain ⟨i034, hi034, _, hsz34, _⟩ := info_parts info3; have hroom34 : t277.length ≤ co8 := (Kd.R_reads' HO_281000.out).2.1; have hC34 : Kd.C (Kd.int .i64) _ Ao8 t277.length t277 := (Kd.R_reads' HO_281000.out).2.2; have hcut34 := cut_to (P := Try.prog) 27 3 .i64 Try.underlying27 hi034 Ao8 t277.length co8 x5_2 (of_decide_eq_true (by first | (with_reducible assumption) | assumption)) q34 hroom34; have hr34 := Kd.C_take (m := (x5_2 : Int).toNat) hC34 (by omega); have hy34 : y289.length = (x5_2 : Int).toNat := (by rw [Ny289.out, List.length_take]; omega); rw [← Ny289.out] at hr34; rw [← hy34] at hcut34; have HR292 := Aside0.mk hr34; have HC292 := Aside0.mk (show y289.length ≤ co8 from by omega); clear hr34 hC34 hroom34 hi034 hsz34; have KY34 := Aside0.mk hy34; clear hy34; have KL34 := Aside0.mk (show (x5_2 : Int).toNat ≤ t277.length from by omega); replace q34 := eq_true q34) | (go_at_call 21; (with_reducible refine (impl_FewOk.calls k2 _ _ y289 true _ ?side1 ?side2 A28.out).mono ?_); (case side1 => repeat (first | exact (by repeat (first | (with_reducible exact HR292.out) | (with_reducible refine Kd.C_alloc ?_ _) | (with_reducible refine Kd.C_drewN ?_ _) | (with_reducible refine Kd.C_drew ?_) | exact HR292.out)) | (with_reducible refine Kd.C_alloc ?_ _) | (with_reducible refine Kd.C_drewN ?_ _) | (with_reducible refine Kd.C_drew ?_))); (case side2 => exact HC292.out); rintro e w35 ⟨rfl, hb⟩; have n0_ := Aside0.mk (Kd.R_below (by (with_reducible repeat (first | apply Kd.R_alloc | apply Kd.R_drewN | apply Kd.R_drew)); exact HO_281000.out) hb); have n1_ := Aside0.mk (blk_below (g := gb280) (o := .cells #[.slice Ao8 t277.length co8] 32 (0, 0)) (by (with_reducible repeat (first | refine blk_drewN ?_ _ | refine blk_drew ?_ | refine blk_alloc ?_ _)); exact BK280.out) hb); have n2_ := Aside0.mk (Kd.C_below (by repeat (first | (with_reducible exact HR287.out) | (with_reducible refine Kd.C_alloc ?_ _) | (with_reducible refine Kd.C_drewN ?_ _) | (with_reducible refine Kd.C_drew ?_) | exact HR287.out)) hb); have n3_ := Aside0.mk (Kd.C_below (by repeat (first | (with_reducible exact HR292.out) | (with_reducible refine Kd.C_alloc ?_ _) | (with_reducible refine Kd.C_drewN ?_ _) | (with_reducible refine Kd.C_drew ?_) | exact HR292.out)) hb); have n4_ := Aside0.mk (below_step (by repeat (first | (with_reducible first | exact HB.out | apply below_alloc | apply pw_below_drewN | apply below_drew1 | refine below_set ?_ GE280.out) | exact HB.out)) hb); clear HO_281000; clear BK280; clear HR287; clear HR292; clear HB; have HO_281000 := n0_; have BK280 := n1_; have HR287 := n2_; have HR292 := n3_; have HB := n4_; clear n0_ n1_ n2_ n3_ n4_; (try clear hb); (try clear hb2); (try clear hk); (try clear hi)))
                        go_roundg k2
                        case measure => have := HJ4.out; have := HK2.out; omega
                        case rel => exact ⟨(wrap64 (x5_2 + 1)), (by first | rfl | (simp; done) | (simp [*]; done)), H', ⟨by have := HJ4.out; have := HK2.out; omega⟩, ⟨by (with_reducible repeat (first | apply Kd.R_alloc | apply Kd.R_drewN | apply Kd.R_drew)); exact HO_281000.out⟩, ⟨by (with_reducible repeat (first | refine blk_drewN ?_ _ | refine blk_drew ?_ | refine blk_alloc ?_ _)); exact BK280.out⟩, ⟨by repeat (first | (with_reducible first | exact HB.out | apply below_alloc | apply pw_below_drewN | apply below_drew1 | refine below_set ?_ GE280.out) | exact HB.out)⟩⟩
                      · replace c29 := Bool.eq_false_iff.mpr c29
                        subst c29
                        have H1 : (some false) = some r := by rw [if_neg (show ¬ (false = true) by decide)] at H; exact H
                        clear H
                        have H := H1
                        clear H1
                        obtain rfl := Option.some.inj H
                        have hcz36_0 : wr.cell? ⟨gb280, 0, none⟩ = some (.slice Ao8 t277.length co8) := (blk_cell BK280.out 0).trans rfl
                        have hfz36_0 := blk_frozen BK280.out 0
                        have q37 : (x5_2 : Int) ≤ ((t277.length : Int) : Int) := of_decide_eq_true (by first | (with_reducible assumption) | assumption)
                        obtain ⟨i037, hi037, _, hsz37, _⟩ := info_parts info3
                        have hroom37 : t277.length ≤ co8 := (Kd.R_reads' HO_281000.out).2.1
                        have hC37 : Kd.C (Kd.int .i64) _ Ao8 t277.length t277 := (Kd.R_reads' HO_281000.out).2.2
                        have q037 : (0 : Int) ≤ (x5_2 : Int) := of_decide_eq_true (by first | (with_reducible assumption) | assumption)
                        have hcut37 := cut_from (P := Try.prog) 27 3 .i64 Try.underlying27 hi037 1 hsz37 Ao8 t277.length co8 x5_2 q037 q37
                        have hr37 := Kd.C_drop (m := (x5_2 : Int).toNat) (c := co8) hC37 (by omega) hroom37
                        obtain ⟨A37, hA37⟩ : ∃ A1, A1 = (if co8 = (x5_2 : Int).toNat then Ao8 else (Ao8 : Option Addr).map (·.add ((x5_2 : Int).toNat * 1))) := ⟨_, rfl⟩
                        obtain ⟨c37, hc37⟩ : ∃ c1, c1 = co8 - (x5_2 : Int).toNat := ⟨_, rfl⟩
                        have hy37 : y284.length = t277.length - (x5_2 : Int).toNat := (by rw [Ny284.out, List.length_drop] <;> omega)
                        rw [show (t277).drop (x5_2 : Int).toNat = y284 from Ny284.out.symm] at hr37
                        replace hr37 : Kd.C (Kd.int .i64) _ A37 y284.length y284 := (by rw [hA37]; exact hr37)
                        rw [← hy37, ← hA37, ← hc37] at hcut37
                        have HR287 := Aside0.mk hr37
                        have HC287 := Aside0.mk (show y284.length ≤ c37 from by rw [hy37, hc37]; exact Nat.sub_le_sub_right hroom37 _)
                        clear hr37 hC37 hroom37 hi037 hsz37 hc37
                        have KY37 := Aside0.mk hy37
                        have KA37 := Aside0.mk hA37
                        clear hy37 hA37
                        have KL37 := Aside0.mk (show (x5_2 : Int).toNat ≤ t277.length from by omega)
                        replace q37 := eq_true q37
                        go_wp2_with (first | ((with_reducible refine gate_callee (f := 21) rfl ?_); refine goesL_ (some 37) rfl rfl Try.func21 (by kernel_rfl) rfl #[.agg #[.slice A37 y284.length c37]] rfl (by (try simp only [List.map_toArray, List.map_cons, List.map_nil]); first | done | rfl | (simp only [List.length_drop, List.length_take]; rfl)) ?_; (with_reducible refine (impl_FewOk.calls k2 _ _ y284 true _ ?side1 ?side2 A24.out).mono ?_); (case side1 => repeat (first | exact (by repeat (first | (with_reducible exact HR287.out) | (with_reducible refine Kd.C_alloc ?_ _) | (with_reducible refine Kd.C_drewN ?_ _) | (with_reducible refine Kd.C_drew ?_) | exact HR287.out)) | (with_reducible refine Kd.C_alloc ?_ _) | (with_reducible refine Kd.C_drewN ?_ _) | (with_reducible refine Kd.C_drew ?_))); (case side2 => exact HC287.out); rintro e w38 ⟨rfl, hb⟩; refine ⟨_, rfl, ?_⟩; have n0_ := Aside0.mk (Kd.R_below (by (with_reducible repeat (first | apply Kd.R_alloc | apply Kd.R_drewN | apply Kd.R_drew)); exact HO_281000.out) hb); have n1_ := Aside0.mk (blk_below (g := gb280) (o := .cells #[.slice Ao8 t277.length co8] 32 (0, 0)) (by (with_reducible repeat (first | refine blk_drewN ?_ _ | refine blk_drew ?_ | refine blk_alloc ?_ _)); exact BK280.out) hb); have n2_ := Aside0.mk (Kd.C_below (by repeat (first | (with_reducible exact HR287.out) | (with_reducible refine Kd.C_alloc ?_ _) | (with_reducible refine Kd.C_drewN ?_ _) | (with_reducible refine Kd.C_drew ?_) | exact HR287.out)) hb); have n3_ := Aside0.mk (below_step (by repeat (first | (with_reducible first | exact HB.out | apply below_alloc | apply pw_below_drewN | apply below_drew1 | refine below_set ?_ GE280.out) | exact HB.out)) hb); clear HO_281000; clear BK280; clear HR287; clear HB; have HO_281000 := n0_; have BK280 := n1_; have HR287 := n2_; have HB := n3_; clear n0_ n1_ n2_ n3_; (try clear hb); (try clear hb2); (try clear hk); (try clear hi); have hcz39_0 : w38.cell? ⟨gb280, 0, none⟩ = some (.slice Ao8 t277.length co8) := (blk_cell BK280.out 0).trans rfl; have hfz39_0 := blk_frozen BK280.out 0; have q40 : (x5_2 : Int) ≤ ((t277.length : Int) : Int) := of_decide_eq_true (by first | (with_reducible assumption) | assumption); obtain ⟨i040, hi040, _, hsz40, _⟩ := info_parts info3; have hroom40 : t277.length ≤ co8 := (Kd.R_reads' HO_281000.out).2.1; have hC40 : Kd.C (Kd.int .i64) _ Ao8 t277.length t277 := (Kd.R_reads' HO_281000.out).2.2; have hcut40 := cut_to (P := Try.prog) 27 3 .i64 Try.underlying27 hi040 Ao8 t277.length co8 x5_2 (of_decide_eq_true (by first | (with_reducible assumption) | assumption)) q40 hroom40; have hr40 := Kd.C_take (m := (x5_2 : Int).toNat) hC40 (by omega); have hy40 : y289.length = (x5_2 : Int).toNat := (by rw [Ny289.out, List.length_take]; omega); rw [← Ny289.out] at hr40; rw [← hy40] at hcut40; have HR292 := Aside0.mk hr40; have HC292 := Aside0.mk (show y289.length ≤ co8 from by omega); clear hr40 hC40 hroom40 hi040 hsz40; have KY40 := Aside0.mk hy40; clear hy40; have KL40 := Aside0.mk (show (x5_2 : Int).toNat ≤ t277.length from by omega); replace q40 := eq_true q40) | (go_at_call 21; (with_reducible refine (impl_FewOk.calls k2 _ _ y289 false _ ?side1 ?side2 A28.out).mono ?_); (case side1 => repeat (first | exact (by repeat (first | (with_reducible exact HR292.out) | (with_reducible refine Kd.C_alloc ?_ _) | (with_reducible refine Kd.C_drewN ?_ _) | (with_reducible refine Kd.C_drew ?_) | exact HR292.out)) | (with_reducible refine Kd.C_alloc ?_ _) | (with_reducible refine Kd.C_drewN ?_ _) | (with_reducible refine Kd.C_drew ?_))); (case side2 => exact HC292.out); rintro e w41 ⟨rfl, hb⟩; have n0_ := Aside0.mk (Kd.R_below (by (with_reducible repeat (first | apply Kd.R_alloc | apply Kd.R_drewN | apply Kd.R_drew)); exact HO_281000.out) hb); have n1_ := Aside0.mk (blk_below (g := gb280) (o := .cells #[.slice Ao8 t277.length co8] 32 (0, 0)) (by (with_reducible repeat (first | refine blk_drewN ?_ _ | refine blk_drew ?_ | refine blk_alloc ?_ _)); exact BK280.out) hb); have n2_ := Aside0.mk (Kd.C_below (by repeat (first | (with_reducible exact HR287.out) | (with_reducible refine Kd.C_alloc ?_ _) | (with_reducible refine Kd.C_drewN ?_ _) | (with_reducible refine Kd.C_drew ?_) | exact HR287.out)) hb); have n3_ := Aside0.mk (Kd.C_below (by repeat (first | (with_reducible exact HR292.out) | (with_reducible refine Kd.C_alloc ?_ _) | (with_reducible refine Kd.C_drewN ?_ _) | (with_reducible refine Kd.C_drew ?_) | exact HR292.out)) hb); have n4_ := Aside0.mk (below_step (by repeat (first | (with_reducible first | exact HB.out | apply below_alloc | apply pw_below_drewN | apply below_drew1 | refine below_set ?_ GE280.out) | exact HB.out)) hb); clear HO_281000; clear BK280; clear HR287; clear HR292; clear HB; have HO_281000 := n0_; have BK280 := n1_; have HR287 := n2_; have HR292 := n3_; have HB := n4_; clear n0_ n1_ n2_ n3_ n4_; (try clear hb); (try clear hb2); (try clear hk); (try clear hi)))
                        go_ret
                        exact ⟨by first | rfl | (simp [errW_none, errW_some] <;> rfl) | (simp [*, errW_none, errW_some] <;> rfl), by repeat (first | (with_reducible first | exact HB.out | apply below_alloc | apply pw_below_drewN | apply below_drew1 | refine below_set ?_ GE280.out) | exact HB.out)⟩
                    · replace c25 := Bool.eq_false_iff.mpr c25
                      subst c25
                      have H1 : (some false) = some r := by rw [if_neg (show ¬ (false = true) by decide)] at H; exact H
                      clear H
                      have H := H1
                      clear H1
                      obtain rfl := Option.some.inj H
                      have hcz42_0 : wr.cell? ⟨gb280, 0, none⟩ = some (.slice Ao8 t277.length co8) := (blk_cell BK280.out 0).trans rfl
                      have hfz42_0 := blk_frozen BK280.out 0
                      have q43 : (x5_2 : Int) ≤ ((t277.length : Int) : Int) := of_decide_eq_true (by first | (with_reducible assumption) | assumption)
                      obtain ⟨i043, hi043, _, hsz43, _⟩ := info_parts info3
                      have hroom43 : t277.length ≤ co8 := (Kd.R_reads' HO_281000.out).2.1
                      have hC43 : Kd.C (Kd.int .i64) _ Ao8 t277.length t277 := (Kd.R_reads' HO_281000.out).2.2
                      have q043 : (0 : Int) ≤ (x5_2 : Int) := of_decide_eq_true (by first | (with_reducible assumption) | assumption)
                      have hcut43 := cut_from (P := Try.prog) 27 3 .i64 Try.underlying27 hi043 1 hsz43 Ao8 t277.length co8 x5_2 q043 q43
                      have hr43 := Kd.C_drop (m := (x5_2 : Int).toNat) (c := co8) hC43 (by omega) hroom43
                      obtain ⟨A43, hA43⟩ : ∃ A1, A1 = (if co8 = (x5_2 : Int).toNat then Ao8 else (Ao8 : Option Addr).map (·.add ((x5_2 : Int).toNat * 1))) := ⟨_, rfl⟩
                      obtain ⟨c43, hc43⟩ : ∃ c1, c1 = co8 - (x5_2 : Int).toNat := ⟨_, rfl⟩
                      have hy43 : y284.length = t277.length - (x5_2 : Int).toNat := (by rw [Ny284.out, List.length_drop] <;> omega)
                      rw [show (t277).drop (x5_2 : Int).toNat = y284 from Ny284.out.symm] at hr43
                      replace hr43 : Kd.C (Kd.int .i64) _ A43 y284.length y284 := (by rw [hA43]; exact hr43)
                      rw [← hy43, ← hA43, ← hc43] at hcut43
                      have HR287 := Aside0.mk hr43
                      have HC287 := Aside0.mk (show y284.length ≤ c43 from by rw [hy43, hc43]; exact Nat.sub_le_sub_right hroom43 _)
                      clear hr43 hC43 hroom43 hi043 hsz43 hc43
                      have KY43 := Aside0.mk hy43
                      have KA43 := Aside0.mk hA43
                      clear hy43 hA43
                      have KL43 := Aside0.mk (show (x5_2 : Int).toNat ≤ t277.length from by omega)
                      replace q43 := eq_true q43
                      go_wp2_with (first | ((with_reducible refine gate_callee (f := 21) rfl ?_); refine goesL_ (some 37) rfl rfl Try.func21 (by kernel_rfl) rfl #[.agg #[.slice A43 y284.length c43]] rfl (by (try simp only [List.map_toArray, List.map_cons, List.map_nil]); first | done | rfl | (simp only [List.length_drop, List.length_take]; rfl)) ?_; (with_reducible refine (impl_FewOk.calls k2 _ _ y284 false _ ?side1 ?side2 A24.out).mono ?_); (case side1 => repeat (first | exact (by repeat (first | (with_reducible exact HR287.out) | (with_reducible refine Kd.C_alloc ?_ _) | (with_reducible refine Kd.C_drewN ?_ _) | (with_reducible refine Kd.C_drew ?_) | exact HR287.out)) | (with_reducible refine Kd.C_alloc ?_ _) | (with_reducible refine Kd.C_drewN ?_ _) | (with_reducible refine Kd.C_drew ?_))); (case side2 => exact HC287.out); rintro e w44 ⟨rfl, hb⟩; refine ⟨_, rfl, ?_⟩; have n0_ := Aside0.mk (Kd.R_below (by (with_reducible repeat (first | apply Kd.R_alloc | apply Kd.R_drewN | apply Kd.R_drew)); exact HO_281000.out) hb); have n1_ := Aside0.mk (blk_below (g := gb280) (o := .cells #[.slice Ao8 t277.length co8] 32 (0, 0)) (by (with_reducible repeat (first | refine blk_drewN ?_ _ | refine blk_drew ?_ | refine blk_alloc ?_ _)); exact BK280.out) hb); have n2_ := Aside0.mk (Kd.C_below (by repeat (first | (with_reducible exact HR287.out) | (with_reducible refine Kd.C_alloc ?_ _) | (with_reducible refine Kd.C_drewN ?_ _) | (with_reducible refine Kd.C_drew ?_) | exact HR287.out)) hb); have n3_ := Aside0.mk (below_step (by repeat (first | (with_reducible first | exact HB.out | apply below_alloc | apply pw_below_drewN | apply below_drew1 | refine below_set ?_ GE280.out) | exact HB.out)) hb); clear HO_281000; clear BK280; clear HR287; clear HB; have HO_281000 := n0_; have BK280 := n1_; have HR287 := n2_; have HB := n3_; clear n0_ n1_ n2_ n3_; (try clear hb); (try clear hb2); (try clear hk); (try clear hi)))
                      go_ret
                      exact ⟨by first | rfl | (simp [errW_none, errW_some] <;> rfl) | (simp [*, errW_none, errW_some] <;> rfl), by repeat (first | (with_reducible first | exact HB.out | apply below_alloc | apply pw_below_drewN | apply below_drew1 | refine below_set ?_ GE280.out) | exact HB.out)⟩
                  · rw [if_neg c23] at H
                    exact absurd H (by simp)
                · rw [if_neg c22] at H
                  exact absurd H (by simp)
              · rw [if_neg c21] at H
                have c21b0 : decide (x5_2 < (t277.length : Int)) = false := decide_eq_false c21
                clear c21
                obtain rfl := Option.some.inj H
                have hcz45_0 : wr.cell? ⟨gb280, 0, none⟩ = some (.slice Ao8 t277.length co8) := (blk_cell BK280.out 0).trans rfl
                have hfz45_0 := blk_frozen BK280.out 0
                go_wp2
                go_ret
                exact ⟨by first | rfl | (simp [errW_none, errW_some] <;> rfl) | (simp [*, errW_none, errW_some] <;> rfl), by repeat (first | (with_reducible first | exact HB.out | apply below_alloc | apply pw_below_drewN | apply below_drew1 | refine below_set ?_ GE280.out) | exact HB.out)⟩

/-- THE ONE PURE STATEMENT of laws_FnFewOk: yours. -/
def laws_FnFewOk.Pure : Prop := ∀ (l0 : List Int), l0.length ≤ maxLen → l0.length * 1 ≤ 140737488351232 → (∀ x ∈ l0, (Lit.int .u8 x).wf = true) → ∃ k, laws_FnFewOk.f k l0 = some true
theorem laws_FnFewOk.walk (P : laws_FnFewOk.Pure) (a0 : Option Addr) (len0 cap0 : Nat) (z0 : List Int) (w : World) (w0 : (a0 = none ∧ len0 = 0 ∧ cap0 = 0 ∧ z0 = []) ∨ ∃ x, a0 = some x ∧ len0 ≤ cap0 ∧ cap0 ≤ maxLen ∧ z0.length = cap0 ∧ (∀ i, i < z0.length → w.cell? (x.add i) = some (.int .u8 (z0.getD i 0))) ∧ ∀ n ∈ z0, (Lit.int .u8 n).wf = true) (y0 : len0 * 1 ≤ 140737488351232) :
    Calls Try.prog 7 #[.slice a0 len0 cap0] w fun e w' => e = .returned (.bool true) ∧ Below w.heap.size w w' := by
  obtain ⟨l0, rfl, hr0, hm0, hw0, hc0⟩ := ReadsInt.ofRowC w0
  obtain ⟨k, h⟩ := P l0 hm0 y0 hw0
  refine (laws_FnFewOk.calls k _ _ l0 true w (Kd.C_of_reads (d := (0 : Int)) (h1 := fun _ => rfl) hr0) hc0 h).mono ?_
  rintro e w' ⟨rfl, hd⟩
  exact ⟨rfl, hd⟩

end Go.Proofs.Ytiaopahggjfggaa.PA
