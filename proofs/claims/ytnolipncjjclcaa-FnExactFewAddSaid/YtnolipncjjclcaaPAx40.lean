-- Made by a program of this session (wip/tools/pr2.sh) out of the translation, by way of the printer: shared by the seat's laws.
import Derived.Test.YtnolipncjjclcaaPAx0
import Derived.Test.YtnolipncjjclcaaPAx6
import Derived.Test.YtnolipncjjclcaaPAx22
import Derived.Test.YtnolipncjjclcaaPAx26
import Derived.Test.YtnolipncjjclcaaPAx28
import Derived.Test.YtnolipncjjclcaaPAx30
import Derived.Test.YtnolipncjjclcaaPAx32
import Derived.Test.YtnolipncjjclcaaPAx34
namespace Go.Proofs.Ytnolipncjjclcaa.PA
open Go.RowKit Go.Proofs.YtnolipncjjclcaaW.PrintWords Go.Proofs.YtnolipncjjclcaaW.PrintLast Go.Proofs.YtnolipncjjclcaaW.PrintMore
attribute [local go_sem] max2_int min2_int max_two min_two max_three min_three max_four min_four   -- for this text's walks alone
set_option linter.unusedVariables false
set_option linter.unusedSimpArgs false

/-! ### laws_FnExactFewAdd: function 10 -/
mutual
def laws_FnExactFewAdd.j0 : Nat → Int → Bool → Bool → Bool → List Int → List Int → List Int → List Int → Option (Bool)
  | 0, _, _, _, _, _, _, _, _ => none
  | k + 1, x1, x7, x10, x44, x532000, x541000, x545000, x550000 => if x44 = true then (some false) else ((laws_toFew.f k x532000).bind fun t551 => ((laws_eqFew.f k x545000 t551).bind fun t554 => (if t554 = true then ((laws_markFew.f k x545000 1).bind fun bt555 => (if bt555.1 < 0 then (laws_FnExactFewAdd.j1 k x1 x7 true x532000 x541000 x550000) else ((laws_eqFew.f k x550000 x541000).bind fun t557 => (if t557 = true then (laws_FnExactFewAdd.j1 k x1 x7 (x10 != x7) x532000 x541000 x550000) else (laws_FnExactFewAdd.j1 k x1 x7 true x532000 x541000 x550000))))) else (some false))))
def laws_FnExactFewAdd.j1 : Nat → Int → Bool → Bool → List Int → List Int → List Int → Option (Bool)
  | 0, _, _, _, _, _, _ => none
  | k + 1, x1, x7, x65, x532000, x541000, x550000 => if x65 = true then (some false) else ((laws_markFew.f k x550000 1).bind fun bt558 => ((laws_heldFew.f k bt558.2 1).bind fun t560 => (if t560 < 0 then (some false) else (if t560 = bt558.1 then ((laws_toFew.f k x532000).bind fun t561 => ((impl_FewAdd.f k t561 x1).bind fun bt564 => ((laws_eqFew.f k bt564.1 x541000).bind fun t569 => (if t569 = true then (laws_FnExactFewAdd.j2 k bt558.1 (bt564.2 != x7) bt558.2) else (laws_FnExactFewAdd.j2 k bt558.1 true bt558.2))))) else (some false)))))
def laws_FnExactFewAdd.j2 : Nat → Int → Bool → List Int → Option (Bool)
  | 0, _, _, _ => none
  | k + 1, x12, x92, x550000 => if x92 = true then (some false) else ((laws_heldFew.f k x550000 1).bind fun t570 => (if t570 < 0 then (some false) else (if t570 = x12 then (some true) else (some false))))
end
def laws_FnExactFewAdd.f (k : Nat) (l0_0 : List Int) (a1 : Int) : Option (Bool) := (laws_szFew.f l0_0 1048576).bind fun t532 => (if t532 < 0 then (some true) else ((laws_toFew.f k l0_0).bind fun t533 => ((spec_FewAdd.f k t533 a1).bind fun bt536 => ((laws_toFew.f k l0_0).bind fun t541 => ((impl_FewAdd.f k t541 a1).bind fun bt545 => ((laws_eqFew.f k bt545.1 bt536.1).bind fun t550 => (if t550 = true then (laws_FnExactFewAdd.j0 k a1 bt536.2 bt545.2 (bt545.2 != bt536.2) l0_0 bt536.1 t541 bt545.1) else (laws_FnExactFewAdd.j0 k a1 bt536.2 bt545.2 true l0_0 bt536.1 t541 bt545.1))))))))
theorem laws_FnExactFewAdd.mono_l : ∀ k, (∀ y0 y1 y2 y3 y4 y5 y6 y7, LeO (laws_FnExactFewAdd.j0 k y0 y1 y2 y3 y4 y5 y6 y7) (laws_FnExactFewAdd.j0 (k + 1) y0 y1 y2 y3 y4 y5 y6 y7)) ∧ (∀ y0 y1 y2 y3 y4 y5, LeO (laws_FnExactFewAdd.j1 k y0 y1 y2 y3 y4 y5) (laws_FnExactFewAdd.j1 (k + 1) y0 y1 y2 y3 y4 y5)) ∧ (∀ y0 y1 y2, LeO (laws_FnExactFewAdd.j2 k y0 y1 y2) (laws_FnExactFewAdd.j2 (k + 1) y0 y1 y2))
  | 0 => ⟨fun _ _ _ _ _ _ _ _ r h => by simp [laws_FnExactFewAdd.j0] at h, fun _ _ _ _ _ _ r h => by simp [laws_FnExactFewAdd.j1] at h, fun _ _ _ r h => by simp [laws_FnExactFewAdd.j2] at h⟩
  | k + 1 => by
    obtain ⟨ih0, ih1, ih2⟩ := laws_FnExactFewAdd.mono_l k
    refine ⟨?_, ?_, ?_⟩
    · intro y0 y1 y2 y3 y4 y5 y6 y7
      unfold laws_FnExactFewAdd.j0
      repeat' first
      | (with_reducible exact ih0 _ _ _ _ _ _ _ _)
      | (with_reducible exact ih1 _ _ _ _ _ _)
      | (with_reducible exact ih2 _ _ _)
      | (with_reducible exact impl_FewAdd.mono _ _ _)
      | (with_reducible exact laws_eqFew.mono _ _ _)
      | (with_reducible exact laws_heldFew.mono _ _ _)
      | (with_reducible exact laws_markFew.mono _ _ _)
      | (with_reducible exact laws_toFew.mono _ _)
      | (with_reducible exact spec_FewAdd.mono _ _ _)
      | (with_reducible exact LeO.refl _)
      | (with_reducible exact LeO.none _)
      | (with_reducible refine LeO.ite ?_ ?_)
      | (with_reducible refine LeO.bind ?_ (fun _ => ?_))
      | exact ih0 _ _ _ _ _ _ _ _
      | exact ih1 _ _ _ _ _ _
      | exact ih2 _ _ _
      | exact impl_FewAdd.mono _ _ _
      | exact laws_eqFew.mono _ _ _
      | exact laws_heldFew.mono _ _ _
      | exact laws_markFew.mono _ _ _
      | exact laws_toFew.mono _ _
      | exact spec_FewAdd.mono _ _ _
      | exact LeO.none _
      | refine LeO.ite ?_ ?_
      | refine LeO.bind ?_ (fun _ => ?_)
    · intro y0 y1 y2 y3 y4 y5
      unfold laws_FnExactFewAdd.j1
      repeat' first
      | (with_reducible exact ih0 _ _ _ _ _ _ _ _)
      | (with_reducible exact ih1 _ _ _ _ _ _)
      | (with_reducible exact ih2 _ _ _)
      | (with_reducible exact impl_FewAdd.mono _ _ _)
      | (with_reducible exact laws_eqFew.mono _ _ _)
      | (with_reducible exact laws_heldFew.mono _ _ _)
      | (with_reducible exact laws_markFew.mono _ _ _)
      | (with_reducible exact laws_toFew.mono _ _)
      | (with_reducible exact spec_FewAdd.mono _ _ _)
      | (with_reducible exact LeO.refl _)
      | (with_reducible exact LeO.none _)
      | (with_reducible refine LeO.ite ?_ ?_)
      | (with_reducible refine LeO.bind ?_ (fun _ => ?_))
      | exact ih0 _ _ _ _ _ _ _ _
      | exact ih1 _ _ _ _ _ _
      | exact ih2 _ _ _
      | exact impl_FewAdd.mono _ _ _
      | exact laws_eqFew.mono _ _ _
      | exact laws_heldFew.mono _ _ _
      | exact laws_markFew.mono _ _ _
      | exact laws_toFew.mono _ _
      | exact spec_FewAdd.mono _ _ _
      | exact LeO.none _
      | refine LeO.ite ?_ ?_
      | refine LeO.bind ?_ (fun _ => ?_)
    · intro y0 y1 y2
      unfold laws_FnExactFewAdd.j2
      repeat' first
      | (with_reducible exact ih0 _ _ _ _ _ _ _ _)
      | (with_reducible exact ih1 _ _ _ _ _ _)
      | (with_reducible exact ih2 _ _ _)
      | (with_reducible exact impl_FewAdd.mono _ _ _)
      | (with_reducible exact laws_eqFew.mono _ _ _)
      | (with_reducible exact laws_heldFew.mono _ _ _)
      | (with_reducible exact laws_markFew.mono _ _ _)
      | (with_reducible exact laws_toFew.mono _ _)
      | (with_reducible exact spec_FewAdd.mono _ _ _)
      | (with_reducible exact LeO.refl _)
      | (with_reducible exact LeO.none _)
      | (with_reducible refine LeO.ite ?_ ?_)
      | (with_reducible refine LeO.bind ?_ (fun _ => ?_))
      | exact ih0 _ _ _ _ _ _ _ _
      | exact ih1 _ _ _ _ _ _
      | exact ih2 _ _ _
      | exact impl_FewAdd.mono _ _ _
      | exact laws_eqFew.mono _ _ _
      | exact laws_heldFew.mono _ _ _
      | exact laws_markFew.mono _ _ _
      | exact laws_toFew.mono _ _
      | exact spec_FewAdd.mono _ _ _
      | exact LeO.none _
      | refine LeO.ite ?_ ?_
      | refine LeO.bind ?_ (fun _ => ?_)
theorem laws_FnExactFewAdd.mono : ∀ a0 a1 k, LeO (laws_FnExactFewAdd.f k a0 a1) (laws_FnExactFewAdd.f (k + 1) a0 a1) := by
  intro a0 a1 k
  obtain ⟨ih0, ih1, ih2⟩ := laws_FnExactFewAdd.mono_l k
  unfold laws_FnExactFewAdd.f
  repeat' first
      | (with_reducible exact ih0 _ _ _ _ _ _ _ _)
      | (with_reducible exact ih1 _ _ _ _ _ _)
      | (with_reducible exact ih2 _ _ _)
      | (with_reducible exact impl_FewAdd.mono _ _ _)
      | (with_reducible exact laws_eqFew.mono _ _ _)
      | (with_reducible exact laws_heldFew.mono _ _ _)
      | (with_reducible exact laws_markFew.mono _ _ _)
      | (with_reducible exact laws_toFew.mono _ _)
      | (with_reducible exact spec_FewAdd.mono _ _ _)
      | (with_reducible exact LeO.refl _)
      | (with_reducible exact LeO.none _)
      | (with_reducible refine LeO.ite ?_ ?_)
      | (with_reducible refine LeO.bind ?_ (fun _ => ?_))
      | exact ih0 _ _ _ _ _ _ _ _
      | exact ih1 _ _ _ _ _ _
      | exact ih2 _ _ _
      | exact impl_FewAdd.mono _ _ _
      | exact laws_eqFew.mono _ _ _
      | exact laws_heldFew.mono _ _ _
      | exact laws_markFew.mono _ _ _
      | exact laws_toFew.mono _ _
      | exact spec_FewAdd.mono _ _ _
      | exact LeO.none _
      | refine LeO.ite ?_ ?_
      | refine LeO.bind ?_ (fun _ => ?_)
set_option maxHeartbeats 8000000 in
set_option maxRecDepth 100000 in
theorem laws_FnExactFewAdd.calls (k : Nat) (A0_0 : Option Addr) (c0_0 : Nat) (l0_0 : List Int) (a1 : Int) (r : Bool) (w : World) (hr0_0 : Kd.C (Kd.int .i64) w A0_0 l0_0.length l0_0) (hc0_0 : l0_0.length ≤ c0_0) (h : laws_FnExactFewAdd.f k l0_0 a1 = some r) :
    Calls Try.prog 10 #[.agg #[.slice A0_0 l0_0.length c0_0], .int .i64 a1] w fun e w' => e = .returned (.bool r) ∧ Below w.heap.size w w' := by
  have hu37 := Try.underlying37
  have hu25 := Try.underlying25
  have HR0_0 := Aside0.mk hr0_0
  have HC0_0 := Aside0.mk hc0_0
  clear hr0_0 hc0_0
  have HB := Aside0.mk (Below.refl w.heap.size w)
  have H : ((laws_szFew.f l0_0 1048576).bind fun t532 => (if t532 < 0 then (some true) else ((laws_toFew.f k l0_0).bind fun t533 => ((spec_FewAdd.f k t533 a1).bind fun bt536 => ((laws_toFew.f k l0_0).bind fun t541 => ((impl_FewAdd.f k t541 a1).bind fun bt545 => ((laws_eqFew.f k bt545.1 bt536.1).bind fun t550 => (if t550 = true then (laws_FnExactFewAdd.j0 k a1 bt536.2 bt545.2 (bt545.2 != bt536.2) l0_0 bt536.1 t541 bt545.1) else (laws_FnExactFewAdd.j0 k a1 bt536.2 bt545.2 true l0_0 bt536.1 t541 bt545.1))))))))) = some r := h
  clear h
  replace H := Option.bind_eq_some_iff.mp H
  obtain ⟨t532, A30, H⟩ := H
  replace H : (if t532 < 0 then (some true) else ((laws_toFew.f k l0_0).bind fun t533 => ((spec_FewAdd.f k t533 a1).bind fun bt536 => ((laws_toFew.f k l0_0).bind fun t541 => ((impl_FewAdd.f k t541 a1).bind fun bt545 => ((laws_eqFew.f k bt545.1 bt536.1).bind fun t550 => (if t550 = true then (laws_FnExactFewAdd.j0 k a1 bt536.2 bt545.2 (bt545.2 != bt536.2) l0_0 bt536.1 t541 bt545.1) else (laws_FnExactFewAdd.j0 k a1 bt536.2 bt545.2 true l0_0 bt536.1 t541 bt545.1)))))))) = some r := H
  have A3 := Aside0.mk A30
  clear A30
  by_cases c4 : t532 < 0
  · rw [if_pos c4] at H
    have c4b0 : decide (t532 < 0) = true := decide_eq_true c4
    clear c4
    obtain rfl := Option.some.inj H
    go_enter Try.func10, Try.ntmps10
    go_wp2_with (first | ((with_reducible refine gate_dst (N := 2) rfl ?_); refine box_event ?hg (N := 2) ?hd (cs := #[.slice A0_0 l0_0.length c0_0]) (t := 37) ?hr ?_; (case hd => rfl); (case hg => rfl); (case hr => first | (go_simp; done) | (go_simp; rfl)); intro gb531 hg w5 hbox hb; have n0_ := Aside0.mk (below_step (by repeat (first | (with_reducible first | exact HB.out | apply below_alloc | apply pw_below_drewN | apply below_drew1) | exact HB.out)) hb); have n1_ := Aside0.mk (hbox); have n2_ := Aside0.mk ((by rw [hg]; exact (below_size (by repeat (first | (with_reducible first | exact HB.out | apply below_alloc | apply pw_below_drewN | apply below_drew1) | exact HB.out))) : w.heap.size ≤ gb531)); have n3_ := Aside0.mk ((by rw [hg]; exact (below_size (by repeat (first | (with_reducible first | exact HB.out | apply below_alloc | apply pw_below_drewN | apply below_drew1) | exact HB.out))) : w.heap.size ≤ gb531)); clear HB; have HB := n0_; have BK531 := n1_; have GW531 := n2_; have GE531 := n3_; clear n0_ n1_ n2_ n3_; clear hb hbox hg; have hcz6_0 : w5.cell? ⟨gb531, 0, none⟩ = some (.slice A0_0 l0_0.length c0_0) := (blk_cell BK531.out 0).trans rfl; have hfz6_0 := blk_frozen BK531.out 0) | ((with_reducible refine gate_callee (f := 19) rfl ?_); refine goesL_ (some 18) rfl rfl Try.func19 (by kernel_rfl) rfl #[.agg #[.slice A0_0 l0_0.length c0_0], .int .i64 1048576] rfl (by (try simp only [List.map_toArray, List.map_cons, List.map_nil]); first | done | rfl | (simp only [List.length_drop, List.length_take]; rfl)) ?_; (with_reducible refine (laws_szFew.calls _ _ l0_0 1048576 t532 _ ?side1 ?side2 A3.out).mono ?_); (case side1 => repeat (first | exact (Kd.C_below HR0_0.out HB.out) | (with_reducible refine Kd.C_alloc ?_ _) | (with_reducible refine Kd.C_drewN ?_ _) | (with_reducible refine Kd.C_drew ?_))); (case side2 => exact HC0_0.out); rintro e w7 ⟨rfl, hb⟩; refine ⟨_, rfl, ?_⟩; have n0_ := Aside0.mk (blk_below (g := gb531) (o := .cells #[.slice A0_0 l0_0.length c0_0] 37 (0, 0)) (by (with_reducible repeat (first | refine blk_drewN ?_ _ | refine blk_drew ?_ | refine blk_alloc ?_ _)); exact BK531.out) hb); have n1_ := Aside0.mk (below_step (by repeat (first | (with_reducible first | exact HB.out | apply below_alloc | apply pw_below_drewN | apply below_drew1 | refine below_set ?_ GE531.out) | exact HB.out)) hb); clear BK531; clear HB; have BK531 := n0_; have HB := n1_; clear n0_ n1_; (try clear hb); (try clear hb2); (try clear hk); (try clear hi)))
    go_ret
    exact ⟨by first | rfl | (simp [errW_none, errW_some] <;> rfl) | (simp [*, errW_none, errW_some] <;> rfl), by repeat (first | (with_reducible first | exact HB.out | apply below_alloc | apply pw_below_drewN | apply below_drew1 | refine below_set ?_ GE531.out) | exact HB.out)⟩
  · rw [if_neg c4] at H
    have c4b0 : decide (t532 < 0) = false := decide_eq_false c4
    clear c4
    replace H := Option.bind_eq_some_iff.mp H
    obtain ⟨t533, A80, H⟩ := H
    replace H : ((spec_FewAdd.f k t533 a1).bind fun bt536 => ((laws_toFew.f k l0_0).bind fun t541 => ((impl_FewAdd.f k t541 a1).bind fun bt545 => ((laws_eqFew.f k bt545.1 bt536.1).bind fun t550 => (if t550 = true then (laws_FnExactFewAdd.j0 k a1 bt536.2 bt545.2 (bt545.2 != bt536.2) l0_0 bt536.1 t541 bt545.1) else (laws_FnExactFewAdd.j0 k a1 bt536.2 bt545.2 true l0_0 bt536.1 t541 bt545.1)))))) = some r := H
    have A8 := Aside0.mk A80
    clear A80
    replace H := Option.bind_eq_some_iff.mp H
    obtain ⟨⟨t536, t539⟩, A90, H⟩ := H
    replace H : ((laws_toFew.f k l0_0).bind fun t541 => ((impl_FewAdd.f k t541 a1).bind fun bt545 => ((laws_eqFew.f k bt545.1 t536).bind fun t550 => (if t550 = true then (laws_FnExactFewAdd.j0 k a1 t539 bt545.2 (bt545.2 != t539) l0_0 t536 t541 bt545.1) else (laws_FnExactFewAdd.j0 k a1 t539 bt545.2 true l0_0 t536 t541 bt545.1))))) = some r := H
    have A9 := Aside0.mk A90
    clear A90
    replace H := Option.bind_eq_some_iff.mp H
    obtain ⟨t541, A100, H⟩ := H
    replace H : ((impl_FewAdd.f k t541 a1).bind fun bt545 => ((laws_eqFew.f k bt545.1 t536).bind fun t550 => (if t550 = true then (laws_FnExactFewAdd.j0 k a1 t539 bt545.2 (bt545.2 != t539) l0_0 t536 t541 bt545.1) else (laws_FnExactFewAdd.j0 k a1 t539 bt545.2 true l0_0 t536 t541 bt545.1)))) = some r := H
    have A10 := Aside0.mk A100
    clear A100
    replace H := Option.bind_eq_some_iff.mp H
    obtain ⟨⟨t545, t548⟩, A110, H⟩ := H
    replace H : ((laws_eqFew.f k t545 t536).bind fun t550 => (if t550 = true then (laws_FnExactFewAdd.j0 k a1 t539 t548 (t548 != t539) l0_0 t536 t541 t545) else (laws_FnExactFewAdd.j0 k a1 t539 t548 true l0_0 t536 t541 t545))) = some r := H
    have A11 := Aside0.mk A110
    clear A110
    have HC12 := Aside0.mk H
    clear H
    go_enter Try.func10, Try.ntmps10
    go_upto_region 8 with (first | ((with_reducible refine gate_dst (N := 2) rfl ?_); refine box_event ?hg (N := 2) ?hd (cs := #[.slice A0_0 l0_0.length c0_0]) (t := 37) ?hr ?_; (case hd => rfl); (case hg => rfl); (case hr => first | (go_simp; done) | (go_simp; rfl)); intro gb531 hg w13 hbox hb; have n0_ := Aside0.mk (below_step (by repeat (first | (with_reducible first | exact HB.out | apply below_alloc | apply pw_below_drewN | apply below_drew1) | exact HB.out)) hb); have n1_ := Aside0.mk (hbox); have n2_ := Aside0.mk ((by rw [hg]; exact (below_size (by repeat (first | (with_reducible first | exact HB.out | apply below_alloc | apply pw_below_drewN | apply below_drew1) | exact HB.out))) : w.heap.size ≤ gb531)); have n3_ := Aside0.mk ((by rw [hg]; exact (below_size (by repeat (first | (with_reducible first | exact HB.out | apply below_alloc | apply pw_below_drewN | apply below_drew1) | exact HB.out))) : w.heap.size ≤ gb531)); clear HB; have HB := n0_; have BK531 := n1_; have GW531 := n2_; have GE531 := n3_; clear n0_ n1_ n2_ n3_; clear hb hbox hg; have hcz14_0 : w13.cell? ⟨gb531, 0, none⟩ = some (.slice A0_0 l0_0.length c0_0) := (blk_cell BK531.out 0).trans rfl; have hfz14_0 := blk_frozen BK531.out 0) | ((with_reducible refine gate_callee (f := 19) rfl ?_); refine goesL_ (some 18) rfl rfl Try.func19 (by kernel_rfl) rfl #[.agg #[.slice A0_0 l0_0.length c0_0], .int .i64 1048576] rfl (by (try simp only [List.map_toArray, List.map_cons, List.map_nil]); first | done | rfl | (simp only [List.length_drop, List.length_take]; rfl)) ?_; (with_reducible refine (laws_szFew.calls _ _ l0_0 1048576 t532 _ ?side1 ?side2 A3.out).mono ?_); (case side1 => repeat (first | exact (Kd.C_below HR0_0.out HB.out) | (with_reducible refine Kd.C_alloc ?_ _) | (with_reducible refine Kd.C_drewN ?_ _) | (with_reducible refine Kd.C_drew ?_))); (case side2 => exact HC0_0.out); rintro e w15 ⟨rfl, hb⟩; refine ⟨_, rfl, ?_⟩; have n0_ := Aside0.mk (blk_below (g := gb531) (o := .cells #[.slice A0_0 l0_0.length c0_0] 37 (0, 0)) (by (with_reducible repeat (first | refine blk_drewN ?_ _ | refine blk_drew ?_ | refine blk_alloc ?_ _)); exact BK531.out) hb); have n1_ := Aside0.mk (below_step (by repeat (first | (with_reducible first | exact HB.out | apply below_alloc | apply pw_below_drewN | apply below_drew1 | refine below_set ?_ GE531.out) | exact HB.out)) hb); clear BK531; clear HB; have BK531 := n0_; have HB := n1_; clear n0_ n1_; (try clear hb); (try clear hb2); (try clear hk); (try clear hi); have hcz16_0 : w15.cell? ⟨gb531, 0, none⟩ = some (.slice A0_0 l0_0.length c0_0) := (blk_cell BK531.out 0).trans rfl; have hfz16_0 := blk_frozen BK531.out 0) | ((with_reducible refine gate_callee (f := 20) rfl ?_); refine goesL_ (some 23) rfl rfl Try.func20 (by kernel_rfl) rfl #[.agg #[.slice A0_0 l0_0.length c0_0]] rfl (by (try simp only [List.map_toArray, List.map_cons, List.map_nil]); first | done | rfl | (simp only [List.length_drop, List.length_take]; rfl)) ?_; (with_reducible refine (laws_toFew.calls k _ _ l0_0 t533 _ ?side1 ?side2 A8.out).mono ?_); (case side1 => repeat (first | exact (Kd.C_below HR0_0.out HB.out) | (with_reducible refine Kd.C_alloc ?_ _) | (with_reducible refine Kd.C_drewN ?_ _) | (with_reducible refine Kd.C_drew ?_))); (case side2 => exact HC0_0.out); rintro e w17 ⟨v534, rfl, ho0, hb⟩; refine ⟨_, rfl, ?_⟩; have n0_ := Aside0.mk (Kd.R_lower ho0 (below_size (by repeat (first | (with_reducible first | exact HB.out | apply below_alloc | apply pw_below_drewN | apply below_drew1 | refine below_set ?_ GE531.out) | exact HB.out)))); have n1_ := Aside0.mk (blk_below (g := gb531) (o := .cells #[.slice A0_0 l0_0.length c0_0] 37 (0, 0)) (by (with_reducible repeat (first | refine blk_drewN ?_ _ | refine blk_drew ?_ | refine blk_alloc ?_ _)); exact BK531.out) hb); have n2_ := Aside0.mk (below_step (by repeat (first | (with_reducible first | exact HB.out | apply below_alloc | apply pw_below_drewN | apply below_drew1 | refine below_set ?_ GE531.out) | exact HB.out)) hb); clear BK531; clear HB; have HO535 := n0_; have BK531 := n1_; have HB := n2_; clear n0_ n1_ n2_; (try clear hb); (try clear hb2); (try clear hk); (try clear hi); (try clear ho0); obtain ⟨Ao18, co18, eo18⟩ := Kd.R_slice HO535.out; subst eo18) | ((with_reducible refine gate_callee (f := 17) rfl ?_); refine goesL_ (some 25) rfl rfl Try.func17 (by kernel_rfl) rfl #[.agg #[.slice Ao18 t533.length co18], .int .i64 a1] rfl (by (try simp only [List.map_toArray, List.map_cons, List.map_nil]); first | done | rfl | (simp only [List.length_drop, List.length_take]; rfl)) ?_; (with_reducible refine (spec_FewAdd.calls k _ _ t533 a1 t536 t539 _ ?side1 ?side2 A9.out).mono ?_); (case side1 => repeat (first | exact (Kd.R_reads' HO535.out).2.2 | (with_reducible refine Kd.C_alloc ?_ _) | (with_reducible refine Kd.C_drewN ?_ _) | (with_reducible refine Kd.C_drew ?_))); (case side2 => exact (Kd.R_reads' HO535.out).2.1); rintro e w19 ⟨v537, rfl, ho0, hb⟩; refine ⟨_, rfl, ?_⟩; have n0_ := Aside0.mk (Kd.R_elder' (by (with_reducible repeat (first | apply Kd.R_alloc | apply Kd.R_drewN | apply Kd.R_drew)); exact HO535.out) (Kd.R_base ho0) hb); have n1_ := Aside0.mk (Kd.R_lower (Kd.R_new' ho0 (Kd.R_lt (by (with_reducible repeat (first | apply Kd.R_alloc | apply Kd.R_drewN | apply Kd.R_drew)); exact HO535.out))) (below_size (by repeat (first | (with_reducible first | exact HB.out | apply below_alloc | apply pw_below_drewN | apply below_drew1 | refine below_set ?_ GE531.out) | exact HB.out)))); have n2_ := Aside0.mk (blk_below (g := gb531) (o := .cells #[.slice A0_0 l0_0.length c0_0] 37 (0, 0)) (by (with_reducible repeat (first | refine blk_drewN ?_ _ | refine blk_drew ?_ | refine blk_alloc ?_ _)); exact BK531.out) hb); have n3_ := Aside0.mk (below_step (by repeat (first | (with_reducible first | exact HB.out | apply below_alloc | apply pw_below_drewN | apply below_drew1 | refine below_set ?_ GE531.out) | exact HB.out)) hb); clear HO535; clear BK531; clear HB; have HO535 := n0_; have HO538 := n1_; have BK531 := n2_; have HB := n3_; clear n0_ n1_ n2_ n3_; (try clear hb); (try clear hb2); (try clear hk); (try clear hi); (try clear ho0)) | ((with_reducible refine gate_dst (N := 6) rfl ?_); refine box_event ?hg (N := 6) ?hd (cs := #[.slice none 0 0]) (t := 25) ?hr ?_; (case hd => rfl); (case hg => rfl); (case hr => first | (go_simp; done) | (go_simp; rfl)); intro gb540 hg w20 hbox hb; have n0_ := Aside0.mk (Kd.R_below (by (with_reducible repeat (first | apply Kd.R_alloc | apply Kd.R_drewN | apply Kd.R_drew)); exact HO535.out) hb); have n1_ := Aside0.mk (Kd.R_below (by (with_reducible repeat (first | apply Kd.R_alloc | apply Kd.R_drewN | apply Kd.R_drew)); exact HO538.out) hb); have n2_ := Aside0.mk (blk_below (g := gb531) (o := .cells #[.slice A0_0 l0_0.length c0_0] 37 (0, 0)) (by (with_reducible repeat (first | refine blk_drewN ?_ _ | refine blk_drew ?_ | refine blk_alloc ?_ _)); exact BK531.out) hb); have n3_ := Aside0.mk (below_step (by repeat (first | (with_reducible first | exact HB.out | apply below_alloc | apply pw_below_drewN | apply below_drew1 | refine below_set ?_ GE531.out) | exact HB.out)) hb); have n4_ := Aside0.mk (hbox); have n5_ := Aside0.mk ((by rw [hg]; exact (below_size (by repeat (first | (with_reducible first | exact HB.out | apply below_alloc | apply pw_below_drewN | apply below_drew1 | refine below_set ?_ GE531.out) | exact HB.out))) : w.heap.size ≤ gb540)); have n6_ := Aside0.mk ((by rw [hg]; exact (below_size (by repeat (first | (with_reducible first | exact HB.out | apply below_alloc | apply pw_below_drewN | apply below_drew1 | refine below_set ?_ GE531.out) | exact HB.out))) : w.heap.size ≤ gb540)); have n7_ := Aside0.mk ((by rw [hg]; exact Nat.ne_of_lt (blk_lt (g := gb531) (o := .cells #[.slice A0_0 l0_0.length c0_0] 37 (0, 0)) (by (with_reducible repeat (first | refine blk_drewN ?_ _ | refine blk_drew ?_ | refine blk_alloc ?_ _)); exact BK531.out)) : gb531 ≠ gb540)); have n8_ := Aside0.mk ((by rw [hg]; exact Nat.ne_of_gt (blk_lt (g := gb531) (o := .cells #[.slice A0_0 l0_0.length c0_0] 37 (0, 0)) (by (with_reducible repeat (first | refine blk_drewN ?_ _ | refine blk_drew ?_ | refine blk_alloc ?_ _)); exact BK531.out)) : gb540 ≠ gb531)); clear HO535; clear HO538; clear BK531; clear HB; have HO535 := n0_; have HO538 := n1_; have BK531 := n2_; have HB := n3_; have BK540 := n4_; have GW540 := n5_; have GE540 := n6_; have NB531_540 := n7_; have NB540_531 := n8_; clear n0_ n1_ n2_ n3_ n4_ n5_ n6_ n7_ n8_; clear hb hbox hg; obtain ⟨Ao21, co21, eo21⟩ := Kd.R_slice HO538.out; subst eo21; have hnb22 := NB540_531.out; have hnc22 := NB531_540.out; have hcz23_0 : w20.cell? ⟨gb540, 0, none⟩ = some (.slice none 0 0) := (blk_cell BK540.out 0).trans rfl; have hfz23_0 := blk_frozen BK540.out 0; have hcz24_0 : w20.cell? ⟨gb531, 0, none⟩ = some (.slice A0_0 l0_0.length c0_0) := (blk_cell BK531.out 0).trans rfl; have hfz24_0 := blk_frozen BK531.out 0) | ((with_reducible refine gate_callee (f := 20) rfl ?_); refine goesL_ (some 29) rfl rfl Try.func20 (by kernel_rfl) rfl #[.agg #[.slice A0_0 l0_0.length c0_0]] rfl (by (try simp only [List.map_toArray, List.map_cons, List.map_nil]); first | done | rfl | (simp only [List.length_drop, List.length_take]; rfl)) ?_; (with_reducible refine (laws_toFew.calls k _ _ l0_0 t541 _ ?side1 ?side2 A10.out).mono ?_); (case side1 => exact Kd.C_below HR0_0.out (by repeat (first | (with_reducible first | exact HB.out | apply below_alloc | apply pw_below_drewN | apply below_drew1 | refine below_set ?_ GE531.out | refine below_set ?_ GE540.out) | exact HB.out))); (case side2 => exact HC0_0.out); rintro e w25 ⟨v542, rfl, ho0, hb⟩; refine ⟨_, rfl, ?_⟩; have n0_ := Aside0.mk (Kd.R_elder' (by (with_reducible repeat (first | apply Kd.R_alloc | apply Kd.R_drewN | apply Kd.R_drew)); exact (Kd.R_mono (Kd.R_far (p := ⟨gb540, 0, none⟩) (Kd.R_types HO535.out BK540.out (by decide)) (fun _ hk => hk.2) (.slice Ao21 t536.length co21)) (fun _ h_ => h_.1))) (Kd.R_base ho0) hb); have n1_ := Aside0.mk (Kd.R_elder' (by (with_reducible repeat (first | apply Kd.R_alloc | apply Kd.R_drewN | apply Kd.R_drew)); exact (Kd.R_mono (Kd.R_far (p := ⟨gb540, 0, none⟩) (Kd.R_types HO538.out BK540.out (by decide)) (fun _ hk => hk.2) (.slice Ao21 t536.length co21)) (fun _ h_ => h_.1))) (Kd.R_base ho0) hb); have n2_ := Aside0.mk (Kd.R_lower (Kd.R_new' (Kd.R_new' ho0 (Kd.R_lt (by (with_reducible repeat (first | apply Kd.R_alloc | apply Kd.R_drewN | apply Kd.R_drew)); exact (Kd.R_mono (Kd.R_far (p := ⟨gb540, 0, none⟩) (Kd.R_types HO535.out BK540.out (by decide)) (fun _ hk => hk.2) (.slice Ao21 t536.length co21)) (fun _ h_ => h_.1))))) (Kd.R_lt (by (with_reducible repeat (first | apply Kd.R_alloc | apply Kd.R_drewN | apply Kd.R_drew)); exact (Kd.R_mono (Kd.R_far (p := ⟨gb540, 0, none⟩) (Kd.R_types HO538.out BK540.out (by decide)) (fun _ hk => hk.2) (.slice Ao21 t536.length co21)) (fun _ h_ => h_.1))))) (below_size (by repeat (first | (with_reducible first | exact HB.out | apply below_alloc | apply pw_below_drewN | apply below_drew1 | refine below_set ?_ GE531.out | refine below_set ?_ GE540.out) | exact HB.out)))); have n3_ := Aside0.mk (blk_below (g := gb531) (o := .cells #[.slice A0_0 l0_0.length c0_0] 37 (0, 0)) (by (with_reducible repeat (first | refine blk_drewN ?_ _ | refine blk_drew ?_ | refine blk_alloc ?_ _)); refine blk_far ?_ NB531_540.out _; (with_reducible repeat (first | refine blk_drewN ?_ _ | refine blk_drew ?_ | refine blk_alloc ?_ _)); exact BK531.out) hb); have n4_ := Aside0.mk (blk_below (g := gb540) (o := .cells #[.slice Ao21 t536.length co21] 25 (0, 0)) (by (with_reducible repeat (first | refine blk_drewN ?_ _ | refine blk_drew ?_ | refine blk_alloc ?_ _)); refine blk_put (cs := #[.slice none 0 0]) ?_ 0 _ rfl; (with_reducible repeat (first | refine blk_drewN ?_ _ | refine blk_drew ?_ | refine blk_alloc ?_ _)); exact BK540.out) hb); have n5_ := Aside0.mk (below_step (by repeat (first | (with_reducible first | exact HB.out | apply below_alloc | apply pw_below_drewN | apply below_drew1 | refine below_set ?_ GE531.out | refine below_set ?_ GE540.out) | exact HB.out)) hb); clear HO535; clear HO538; clear BK531; clear BK540; clear HB; have HO535 := n0_; have HO538 := n1_; have HO543 := n2_; have BK531 := n3_; have BK540 := n4_; have HB := n5_; clear n0_ n1_ n2_ n3_ n4_ n5_; (try clear hb); (try clear hb2); (try clear hk); (try clear hi); (try clear ho0)) | ((with_reducible refine gate_dst (N := 8) rfl ?_); refine box_event ?hg (N := 8) ?hd (cs := #[.slice none 0 0]) (t := 25) ?hr ?_; (case hd => rfl); (case hg => rfl); (case hr => first | (go_simp; done) | (go_simp; rfl)); intro gb544 hg w26 hbox hb; have n0_ := Aside0.mk (Kd.R_below (by (with_reducible repeat (first | apply Kd.R_alloc | apply Kd.R_drewN | apply Kd.R_drew)); exact HO535.out) hb); have n1_ := Aside0.mk (Kd.R_below (by (with_reducible repeat (first | apply Kd.R_alloc | apply Kd.R_drewN | apply Kd.R_drew)); exact HO538.out) hb); have n2_ := Aside0.mk (Kd.R_below (by (with_reducible repeat (first | apply Kd.R_alloc | apply Kd.R_drewN | apply Kd.R_drew)); exact HO543.out) hb); have n3_ := Aside0.mk (blk_below (g := gb531) (o := .cells #[.slice A0_0 l0_0.length c0_0] 37 (0, 0)) (by (with_reducible repeat (first | refine blk_drewN ?_ _ | refine blk_drew ?_ | refine blk_alloc ?_ _)); exact BK531.out) hb); have n4_ := Aside0.mk (blk_below (g := gb540) (o := .cells #[.slice Ao21 t536.length co21] 25 (0, 0)) (by (with_reducible repeat (first | refine blk_drewN ?_ _ | refine blk_drew ?_ | refine blk_alloc ?_ _)); exact BK540.out) hb); have n5_ := Aside0.mk (below_step (by repeat (first | (with_reducible first | exact HB.out | apply below_alloc | apply pw_below_drewN | apply below_drew1 | refine below_set ?_ GE531.out | refine below_set ?_ GE540.out) | exact HB.out)) hb); have n6_ := Aside0.mk (hbox); have n7_ := Aside0.mk ((by rw [hg]; exact (below_size (by repeat (first | (with_reducible first | exact HB.out | apply below_alloc | apply pw_below_drewN | apply below_drew1 | refine below_set ?_ GE531.out | refine below_set ?_ GE540.out) | exact HB.out))) : w.heap.size ≤ gb544)); have n8_ := Aside0.mk ((by rw [hg]; exact (below_size (by repeat (first | (with_reducible first | exact HB.out | apply below_alloc | apply pw_below_drewN | apply below_drew1 | refine below_set ?_ GE531.out | refine below_set ?_ GE540.out) | exact HB.out))) : w.heap.size ≤ gb544)); have n9_ := Aside0.mk ((by rw [hg]; exact Nat.ne_of_lt (blk_lt (g := gb531) (o := .cells #[.slice A0_0 l0_0.length c0_0] 37 (0, 0)) (by (with_reducible repeat (first | refine blk_drewN ?_ _ | refine blk_drew ?_ | refine blk_alloc ?_ _)); exact BK531.out)) : gb531 ≠ gb544)); have n10_ := Aside0.mk ((by rw [hg]; exact Nat.ne_of_gt (blk_lt (g := gb531) (o := .cells #[.slice A0_0 l0_0.length c0_0] 37 (0, 0)) (by (with_reducible repeat (first | refine blk_drewN ?_ _ | refine blk_drew ?_ | refine blk_alloc ?_ _)); exact BK531.out)) : gb544 ≠ gb531)); have n11_ := Aside0.mk ((by rw [hg]; exact Nat.ne_of_lt (blk_lt (g := gb540) (o := .cells #[.slice Ao21 t536.length co21] 25 (0, 0)) (by (with_reducible repeat (first | refine blk_drewN ?_ _ | refine blk_drew ?_ | refine blk_alloc ?_ _)); exact BK540.out)) : gb540 ≠ gb544)); have n12_ := Aside0.mk ((by rw [hg]; exact Nat.ne_of_gt (blk_lt (g := gb540) (o := .cells #[.slice Ao21 t536.length co21] 25 (0, 0)) (by (with_reducible repeat (first | refine blk_drewN ?_ _ | refine blk_drew ?_ | refine blk_alloc ?_ _)); exact BK540.out)) : gb544 ≠ gb540)); clear HO535; clear HO538; clear HO543; clear BK531; clear BK540; clear HB; have HO535 := n0_; have HO538 := n1_; have HO543 := n2_; have BK531 := n3_; have BK540 := n4_; have HB := n5_; have BK544 := n6_; have GW544 := n7_; have GE544 := n8_; have NB531_544 := n9_; have NB544_531 := n10_; have NB540_544 := n11_; have NB544_540 := n12_; clear n0_ n1_ n2_ n3_ n4_ n5_ n6_ n7_ n8_ n9_ n10_ n11_ n12_; clear hb hbox hg; obtain ⟨Ao27, co27, eo27⟩ := Kd.R_slice HO543.out; subst eo27; have hnb28 := NB544_531.out; have hnc28 := NB531_544.out; have hnb29 := NB544_540.out; have hnc29 := NB540_544.out; have hcz30_0 : w26.cell? ⟨gb544, 0, none⟩ = some (.slice none 0 0) := (blk_cell BK544.out 0).trans rfl; have hfz30_0 := blk_frozen BK544.out 0) | ((with_reducible refine gate_callee (f := 18) rfl ?_); refine goesL_ (some 33) rfl rfl Try.func18 (by kernel_rfl) rfl #[.agg #[.slice Ao27 t541.length co27], .int .i64 a1] rfl (by (try simp only [List.map_toArray, List.map_cons, List.map_nil]); first | done | rfl | (simp only [List.length_drop, List.length_take]; rfl)) ?_; (with_reducible refine (impl_FewAdd.calls k _ _ t541 a1 t545 t548 _ ?side1 ?side2 A11.out).mono ?_); (case side1 => refine (Kd.R_reads' (e := 3) (base := w.heap.size) (ok := fun k_ => ((True ∧ some k_ ≠ (.slice Ao18 t533.length co18 : Value).ownBlock) ∧ some k_ ≠ (.slice Ao21 t536.length co21 : Value).ownBlock)) (n := t541.length) (c := co27) ?_).2.2; exact (by (with_reducible repeat (first | apply Kd.R_alloc | apply Kd.R_drewN | apply Kd.R_drew)); exact (Kd.R_mono (Kd.R_far (p := ⟨gb544, 0, none⟩) (Kd.R_types HO543.out BK544.out (by decide)) (fun _ hk => hk.2) (.slice Ao27 t541.length co27)) (fun _ h_ => h_.1)))); (case side2 => exact (Kd.R_reads' HO543.out).2.1); rintro e w31 ⟨v546, rfl, ho0, hb⟩; refine ⟨_, rfl, ?_⟩; have n0_ := Aside0.mk (Kd.R_elder' (by (with_reducible repeat (first | apply Kd.R_alloc | apply Kd.R_drewN | apply Kd.R_drew)); exact (Kd.R_mono (Kd.R_far (p := ⟨gb544, 0, none⟩) (Kd.R_types HO535.out BK544.out (by decide)) (fun _ hk => hk.2) (.slice Ao27 t541.length co27)) (fun _ h_ => h_.1))) (Kd.R_base ho0) hb); have n1_ := Aside0.mk (Kd.R_elder' (by (with_reducible repeat (first | apply Kd.R_alloc | apply Kd.R_drewN | apply Kd.R_drew)); exact (Kd.R_mono (Kd.R_far (p := ⟨gb544, 0, none⟩) (Kd.R_types HO538.out BK544.out (by decide)) (fun _ hk => hk.2) (.slice Ao27 t541.length co27)) (fun _ h_ => h_.1))) (Kd.R_base ho0) hb); have n2_ := Aside0.mk (Kd.R_elder' (by (with_reducible repeat (first | apply Kd.R_alloc | apply Kd.R_drewN | apply Kd.R_drew)); exact (Kd.R_mono (Kd.R_far (p := ⟨gb544, 0, none⟩) (Kd.R_types HO543.out BK544.out (by decide)) (fun _ hk => hk.2) (.slice Ao27 t541.length co27)) (fun _ h_ => h_.1))) (Kd.R_base ho0) hb); have n3_ := Aside0.mk (Kd.R_lower (Kd.R_new' (Kd.R_new' (Kd.R_new' ho0 (Kd.R_lt (by (with_reducible repeat (first | apply Kd.R_alloc | apply Kd.R_drewN | apply Kd.R_drew)); exact (Kd.R_mono (Kd.R_far (p := ⟨gb544, 0, none⟩) (Kd.R_types HO535.out BK544.out (by decide)) (fun _ hk => hk.2) (.slice Ao27 t541.length co27)) (fun _ h_ => h_.1))))) (Kd.R_lt (by (with_reducible repeat (first | apply Kd.R_alloc | apply Kd.R_drewN | apply Kd.R_drew)); exact (Kd.R_mono (Kd.R_far (p := ⟨gb544, 0, none⟩) (Kd.R_types HO538.out BK544.out (by decide)) (fun _ hk => hk.2) (.slice Ao27 t541.length co27)) (fun _ h_ => h_.1))))) (Kd.R_lt (by (with_reducible repeat (first | apply Kd.R_alloc | apply Kd.R_drewN | apply Kd.R_drew)); exact (Kd.R_mono (Kd.R_far (p := ⟨gb544, 0, none⟩) (Kd.R_types HO543.out BK544.out (by decide)) (fun _ hk => hk.2) (.slice Ao27 t541.length co27)) (fun _ h_ => h_.1))))) (below_size (by repeat (first | (with_reducible first | exact HB.out | apply below_alloc | apply pw_below_drewN | apply below_drew1 | refine below_set ?_ GE531.out | refine below_set ?_ GE540.out | refine below_set ?_ GE544.out) | exact HB.out)))); have n4_ := Aside0.mk (blk_below (g := gb531) (o := .cells #[.slice A0_0 l0_0.length c0_0] 37 (0, 0)) (by (with_reducible repeat (first | refine blk_drewN ?_ _ | refine blk_drew ?_ | refine blk_alloc ?_ _)); refine blk_far ?_ NB531_544.out _; (with_reducible repeat (first | refine blk_drewN ?_ _ | refine blk_drew ?_ | refine blk_alloc ?_ _)); exact BK531.out) hb); have n5_ := Aside0.mk (blk_below (g := gb540) (o := .cells #[.slice Ao21 t536.length co21] 25 (0, 0)) (by (with_reducible repeat (first | refine blk_drewN ?_ _ | refine blk_drew ?_ | refine blk_alloc ?_ _)); refine blk_far ?_ NB540_544.out _; (with_reducible repeat (first | refine blk_drewN ?_ _ | refine blk_drew ?_ | refine blk_alloc ?_ _)); exact BK540.out) hb); have n6_ := Aside0.mk (blk_below (g := gb544) (o := .cells #[.slice Ao27 t541.length co27] 25 (0, 0)) (by (with_reducible repeat (first | refine blk_drewN ?_ _ | refine blk_drew ?_ | refine blk_alloc ?_ _)); refine blk_put (cs := #[.slice none 0 0]) ?_ 0 _ rfl; (with_reducible repeat (first | refine blk_drewN ?_ _ | refine blk_drew ?_ | refine blk_alloc ?_ _)); exact BK544.out) hb); have n7_ := Aside0.mk (below_step (by repeat (first | (with_reducible first | exact HB.out | apply below_alloc | apply pw_below_drewN | apply below_drew1 | refine below_set ?_ GE531.out | refine below_set ?_ GE540.out | refine below_set ?_ GE544.out) | exact HB.out)) hb); clear HO535; clear HO538; clear HO543; clear BK531; clear BK540; clear BK544; clear HB; have HO535 := n0_; have HO538 := n1_; have HO543 := n2_; have HO547 := n3_; have BK531 := n4_; have BK540 := n5_; have BK544 := n6_; have HB := n7_; clear n0_ n1_ n2_ n3_ n4_ n5_ n6_ n7_; (try clear hb); (try clear hb2); (try clear hk); (try clear hi); (try clear ho0)) | ((with_reducible refine gate_dst (N := 9) rfl ?_); refine box_event ?hg (N := 9) ?hd (cs := #[.slice none 0 0]) (t := 25) ?hr ?_; (case hd => rfl); (case hg => rfl); (case hr => first | (go_simp; done) | (go_simp; rfl)); intro gb549 hg w32 hbox hb; have n0_ := Aside0.mk (Kd.R_below (by (with_reducible repeat (first | apply Kd.R_alloc | apply Kd.R_drewN | apply Kd.R_drew)); exact HO535.out) hb); have n1_ := Aside0.mk (Kd.R_below (by (with_reducible repeat (first | apply Kd.R_alloc | apply Kd.R_drewN | apply Kd.R_drew)); exact HO538.out) hb); have n2_ := Aside0.mk (Kd.R_below (by (with_reducible repeat (first | apply Kd.R_alloc | apply Kd.R_drewN | apply Kd.R_drew)); exact HO543.out) hb); have n3_ := Aside0.mk (Kd.R_below (by (with_reducible repeat (first | apply Kd.R_alloc | apply Kd.R_drewN | apply Kd.R_drew)); exact HO547.out) hb); have n4_ := Aside0.mk (blk_below (g := gb531) (o := .cells #[.slice A0_0 l0_0.length c0_0] 37 (0, 0)) (by (with_reducible repeat (first | refine blk_drewN ?_ _ | refine blk_drew ?_ | refine blk_alloc ?_ _)); exact BK531.out) hb); have n5_ := Aside0.mk (blk_below (g := gb540) (o := .cells #[.slice Ao21 t536.length co21] 25 (0, 0)) (by (with_reducible repeat (first | refine blk_drewN ?_ _ | refine blk_drew ?_ | refine blk_alloc ?_ _)); exact BK540.out) hb); have n6_ := Aside0.mk (blk_below (g := gb544) (o := .cells #[.slice Ao27 t541.length co27] 25 (0, 0)) (by (with_reducible repeat (first | refine blk_drewN ?_ _ | refine blk_drew ?_ | refine blk_alloc ?_ _)); exact BK544.out) hb); have n7_ := Aside0.mk (below_step (by repeat (first | (with_reducible first | exact HB.out | apply below_alloc | apply pw_below_drewN | apply below_drew1 | refine below_set ?_ GE531.out | refine below_set ?_ GE540.out | refine below_set ?_ GE544.out) | exact HB.out)) hb); have n8_ := Aside0.mk (hbox); have n9_ := Aside0.mk ((by rw [hg]; exact (below_size (by repeat (first | (with_reducible first | exact HB.out | apply below_alloc | apply pw_below_drewN | apply below_drew1 | refine below_set ?_ GE531.out | refine below_set ?_ GE540.out | refine below_set ?_ GE544.out) | exact HB.out))) : w.heap.size ≤ gb549)); have n10_ := Aside0.mk ((by rw [hg]; exact (below_size (by repeat (first | (with_reducible first | exact HB.out | apply below_alloc | apply pw_below_drewN | apply below_drew1 | refine below_set ?_ GE531.out | refine below_set ?_ GE540.out | refine below_set ?_ GE544.out) | exact HB.out))) : w.heap.size ≤ gb549)); have n11_ := Aside0.mk ((by rw [hg]; exact Nat.ne_of_lt (blk_lt (g := gb531) (o := .cells #[.slice A0_0 l0_0.length c0_0] 37 (0, 0)) (by (with_reducible repeat (first | refine blk_drewN ?_ _ | refine blk_drew ?_ | refine blk_alloc ?_ _)); exact BK531.out)) : gb531 ≠ gb549)); have n12_ := Aside0.mk ((by rw [hg]; exact Nat.ne_of_gt (blk_lt (g := gb531) (o := .cells #[.slice A0_0 l0_0.length c0_0] 37 (0, 0)) (by (with_reducible repeat (first | refine blk_drewN ?_ _ | refine blk_drew ?_ | refine blk_alloc ?_ _)); exact BK531.out)) : gb549 ≠ gb531)); have n13_ := Aside0.mk ((by rw [hg]; exact Nat.ne_of_lt (blk_lt (g := gb540) (o := .cells #[.slice Ao21 t536.length co21] 25 (0, 0)) (by (with_reducible repeat (first | refine blk_drewN ?_ _ | refine blk_drew ?_ | refine blk_alloc ?_ _)); exact BK540.out)) : gb540 ≠ gb549)); have n14_ := Aside0.mk ((by rw [hg]; exact Nat.ne_of_gt (blk_lt (g := gb540) (o := .cells #[.slice Ao21 t536.length co21] 25 (0, 0)) (by (with_reducible repeat (first | refine blk_drewN ?_ _ | refine blk_drew ?_ | refine blk_alloc ?_ _)); exact BK540.out)) : gb549 ≠ gb540)); have n15_ := Aside0.mk ((by rw [hg]; exact Nat.ne_of_lt (blk_lt (g := gb544) (o := .cells #[.slice Ao27 t541.length co27] 25 (0, 0)) (by (with_reducible repeat (first | refine blk_drewN ?_ _ | refine blk_drew ?_ | refine blk_alloc ?_ _)); exact BK544.out)) : gb544 ≠ gb549)); have n16_ := Aside0.mk ((by rw [hg]; exact Nat.ne_of_gt (blk_lt (g := gb544) (o := .cells #[.slice Ao27 t541.length co27] 25 (0, 0)) (by (with_reducible repeat (first | refine blk_drewN ?_ _ | refine blk_drew ?_ | refine blk_alloc ?_ _)); exact BK544.out)) : gb549 ≠ gb544)); clear HO535; clear HO538; clear HO543; clear HO547; clear BK531; clear BK540; clear BK544; clear HB; have HO535 := n0_; have HO538 := n1_; have HO543 := n2_; have HO547 := n3_; have BK531 := n4_; have BK540 := n5_; have BK544 := n6_; have HB := n7_; have BK549 := n8_; have GW549 := n9_; have GE549 := n10_; have NB531_549 := n11_; have NB549_531 := n12_; have NB540_549 := n13_; have NB549_540 := n14_; have NB544_549 := n15_; have NB549_544 := n16_; clear n0_ n1_ n2_ n3_ n4_ n5_ n6_ n7_ n8_ n9_ n10_ n11_ n12_ n13_ n14_ n15_ n16_; clear hb hbox hg; obtain ⟨Ao33, co33, eo33⟩ := Kd.R_slice HO547.out; subst eo33; have hnb34 := NB549_531.out; have hnc34 := NB531_549.out; have hnb35 := NB549_540.out; have hnc35 := NB540_549.out; have hnb36 := NB549_544.out; have hnc36 := NB544_549.out; have hcz37_0 : w32.cell? ⟨gb549, 0, none⟩ = some (.slice none 0 0) := (blk_cell BK549.out 0).trans rfl; have hfz37_0 := blk_frozen BK549.out 0))
    (try simp only [Act.put, List.setIfInBounds_toArray, List.set_cons_zero, List.set_cons_succ])
    go_cut [44] (fun v44 wc => ∃ (kq : Nat) (x44_11 : Bool), v44 = .bool x44_11 ∧ Aside0 (laws_FnExactFewAdd.j0 kq a1 t539 t548 x44_11 l0_0 t536 t541 t545 = some r) ∧ Aside0 (kq ≤ k) ∧ Aside0 (Kd.R (Kd.int .i64) 3 wc w.heap.size (fun k_ => some k_ ≠ ((.slice Ao27 t541.length co27) : Value).ownBlock ∧ some k_ ≠ ((.slice Ao33 t545.length co33) : Value).ownBlock) (.slice Ao21 t536.length co21) t536) ∧ Aside0 (Kd.R (Kd.int .i64) 3 wc w.heap.size (fun k_ => some k_ ≠ ((.slice Ao21 t536.length co21) : Value).ownBlock ∧ some k_ ≠ ((.slice Ao33 t545.length co33) : Value).ownBlock) (.slice Ao27 t541.length co27) t541) ∧ Aside0 (Kd.R (Kd.int .i64) 3 wc w.heap.size (fun k_ => some k_ ≠ ((.slice Ao21 t536.length co21) : Value).ownBlock ∧ some k_ ≠ ((.slice Ao27 t541.length co27) : Value).ownBlock) (.slice Ao33 t545.length co33) t545) ∧ Aside0 (wc.heap[gb531]? = some (.cells #[(.slice A0_0 l0_0.length c0_0)] 37 (0, 0))) ∧ Aside0 (wc.heap[gb540]? = some (.cells #[(.slice Ao21 t536.length co21)] 25 (0, 0))) ∧ Aside0 (wc.heap[gb544]? = some (.cells #[(.slice Ao27 t541.length co27)] 25 (0, 0))) ∧ Aside0 (wc.heap[gb549]? = some (.cells #[(.slice Ao33 t545.length co33)] 25 (0, 0))) ∧ Aside0 (Below w.heap.size w wc))
    case first =>
      have H := HC12.out
      clear HC12
      replace H := Option.bind_eq_some_iff.mp H
      obtain ⟨t550, A380, H⟩ := H
      replace H : (if t550 = true then (laws_FnExactFewAdd.j0 k a1 t539 t548 (t548 != t539) l0_0 t536 t541 t545) else (laws_FnExactFewAdd.j0 k a1 t539 t548 true l0_0 t536 t541 t545)) = some r := H
      have A38 := Aside0.mk A380
      clear A380
      by_cases c39 : t550 = true
      · subst c39
        have H1 : (laws_FnExactFewAdd.j0 k a1 t539 t548 (t548 != t539) l0_0 t536 t541 t545) = some r := by rw [if_pos rfl] at H; exact H
        clear H
        have H := H1
        clear H1
        have H' := Aside0.mk H
        clear H
        have hnb40 := NB549_531.out
        have hnc40 := NB531_549.out
        have hnb41 := NB549_540.out
        have hnc41 := NB540_549.out
        have hnb42 := NB549_544.out
        have hnc42 := NB544_549.out
        have hcz43_0 : w32.cell? ⟨gb549, 0, none⟩ = some (.slice none 0 0) := (blk_cell BK549.out 0).trans rfl
        have hfz43_0 := blk_frozen BK549.out 0
        have hnb44 := NB540_531.out
        have hnc44 := NB531_540.out
        have hnb45 := NB540_544.out
        have hnc45 := NB544_540.out
        have hcz46_0 : w32.cell? ⟨gb540, 0, none⟩ = some (.slice Ao21 t536.length co21) := (blk_cell BK540.out 0).trans rfl
        have hfz46_0 := blk_frozen BK540.out 0
        go_wp2_with (first | ((with_reducible refine gate_callee (f := 21) rfl ?_); refine goesL_ (some 38) rfl rfl Try.func21 (by kernel_rfl) rfl #[.agg #[.slice Ao33 t545.length co33], .agg #[.slice Ao21 t536.length co21]] rfl (by (try simp only [List.map_toArray, List.map_cons, List.map_nil]); first | done | rfl | (simp only [List.length_drop, List.length_take]; rfl)) ?_; (with_reducible refine (laws_eqFew.calls k _ _ t545 _ _ t536 true _ ?side1 ?side2 ?side3 ?side4 A38.out).mono ?_); (case side1 => refine (Kd.R_reads' (e := 3) (base := w.heap.size) (ok := fun k_ => (((True ∧ some k_ ≠ (.slice Ao18 t533.length co18 : Value).ownBlock) ∧ some k_ ≠ (.slice Ao21 t536.length co21 : Value).ownBlock) ∧ some k_ ≠ (.slice Ao27 t541.length co27 : Value).ownBlock)) (n := t545.length) (c := co33) ?_).2.2; exact (by (with_reducible repeat (first | apply Kd.R_alloc | apply Kd.R_drewN | apply Kd.R_drew)); exact (Kd.R_mono (Kd.R_far (p := ⟨gb549, 0, none⟩) (Kd.R_types HO547.out BK549.out (by decide)) (fun _ hk => hk.2) (.slice Ao33 t545.length co33)) (fun _ h_ => h_.1)))); (case side2 => exact (Kd.R_reads' HO547.out).2.1); (case side3 => refine (Kd.R_reads' (e := 3) (base := w.heap.size) (ok := fun k_ => (((True ∧ some k_ ≠ (.slice Ao18 t533.length co18 : Value).ownBlock) ∧ some k_ ≠ (.slice Ao27 t541.length co27 : Value).ownBlock) ∧ some k_ ≠ (.slice Ao33 t545.length co33 : Value).ownBlock)) (n := t536.length) (c := co21) ?_).2.2; exact (by (with_reducible repeat (first | apply Kd.R_alloc | apply Kd.R_drewN | apply Kd.R_drew)); exact (Kd.R_mono (Kd.R_far (p := ⟨gb549, 0, none⟩) (Kd.R_types HO538.out BK549.out (by decide)) (fun _ hk => hk.2) (.slice Ao33 t545.length co33)) (fun _ h_ => h_.1)))); (case side4 => exact (Kd.R_reads' HO538.out).2.1); rintro e w47 ⟨rfl, hb⟩; refine ⟨_, rfl, ?_⟩; have n0_ := Aside0.mk (Kd.R_below (by (with_reducible repeat (first | apply Kd.R_alloc | apply Kd.R_drewN | apply Kd.R_drew)); exact (Kd.R_mono (Kd.R_far (p := ⟨gb549, 0, none⟩) (Kd.R_types HO535.out BK549.out (by decide)) (fun _ hk => hk.2) (.slice Ao33 t545.length co33)) (fun _ h_ => h_.1))) hb); have n1_ := Aside0.mk (Kd.R_below (by (with_reducible repeat (first | apply Kd.R_alloc | apply Kd.R_drewN | apply Kd.R_drew)); exact (Kd.R_mono (Kd.R_far (p := ⟨gb549, 0, none⟩) (Kd.R_types HO538.out BK549.out (by decide)) (fun _ hk => hk.2) (.slice Ao33 t545.length co33)) (fun _ h_ => h_.1))) hb); have n2_ := Aside0.mk (Kd.R_below (by (with_reducible repeat (first | apply Kd.R_alloc | apply Kd.R_drewN | apply Kd.R_drew)); exact (Kd.R_mono (Kd.R_far (p := ⟨gb549, 0, none⟩) (Kd.R_types HO543.out BK549.out (by decide)) (fun _ hk => hk.2) (.slice Ao33 t545.length co33)) (fun _ h_ => h_.1))) hb); have n3_ := Aside0.mk (Kd.R_below (by (with_reducible repeat (first | apply Kd.R_alloc | apply Kd.R_drewN | apply Kd.R_drew)); exact (Kd.R_mono (Kd.R_far (p := ⟨gb549, 0, none⟩) (Kd.R_types HO547.out BK549.out (by decide)) (fun _ hk => hk.2) (.slice Ao33 t545.length co33)) (fun _ h_ => h_.1))) hb); have n4_ := Aside0.mk (blk_below (g := gb531) (o := .cells #[.slice A0_0 l0_0.length c0_0] 37 (0, 0)) (by (with_reducible repeat (first | refine blk_drewN ?_ _ | refine blk_drew ?_ | refine blk_alloc ?_ _)); refine blk_far ?_ NB531_549.out _; (with_reducible repeat (first | refine blk_drewN ?_ _ | refine blk_drew ?_ | refine blk_alloc ?_ _)); exact BK531.out) hb); have n5_ := Aside0.mk (blk_below (g := gb540) (o := .cells #[.slice Ao21 t536.length co21] 25 (0, 0)) (by (with_reducible repeat (first | refine blk_drewN ?_ _ | refine blk_drew ?_ | refine blk_alloc ?_ _)); refine blk_far ?_ NB540_549.out _; (with_reducible repeat (first | refine blk_drewN ?_ _ | refine blk_drew ?_ | refine blk_alloc ?_ _)); exact BK540.out) hb); have n6_ := Aside0.mk (blk_below (g := gb544) (o := .cells #[.slice Ao27 t541.length co27] 25 (0, 0)) (by (with_reducible repeat (first | refine blk_drewN ?_ _ | refine blk_drew ?_ | refine blk_alloc ?_ _)); refine blk_far ?_ NB544_549.out _; (with_reducible repeat (first | refine blk_drewN ?_ _ | refine blk_drew ?_ | refine blk_alloc ?_ _)); exact BK544.out) hb); have n7_ := Aside0.mk (blk_below (g := gb549) (o := .cells #[.slice Ao33 t545.length co33] 25 (0, 0)) (by (with_reducible repeat (first | refine blk_drewN ?_ _ | refine blk_drew ?_ | refine blk_alloc ?_ _)); refine blk_put (cs := #[.slice none 0 0]) ?_ 0 _ rfl; (with_reducible repeat (first | refine blk_drewN ?_ _ | refine blk_drew ?_ | refine blk_alloc ?_ _)); exact BK549.out) hb); have n8_ := Aside0.mk (below_step (by repeat (first | (with_reducible first | exact HB.out | apply below_alloc | apply pw_below_drewN | apply below_drew1 | refine below_set ?_ GE531.out | refine below_set ?_ GE540.out | refine below_set ?_ GE544.out | refine below_set ?_ GE549.out) | exact HB.out)) hb); clear HO535; clear HO538; clear HO543; clear HO547; clear BK531; clear BK540; clear BK544; clear BK549; clear HB; have HO535 := n0_; have HO538 := n1_; have HO543 := n2_; have HO547 := n3_; have BK531 := n4_; have BK540 := n5_; have BK544 := n6_; have BK549 := n7_; have HB := n8_; clear n0_ n1_ n2_ n3_ n4_ n5_ n6_ n7_ n8_; (try clear hb); (try clear hb2); (try clear hk); (try clear hi)))
        go_meet
        case rel => exact ⟨_, ((t548 != t539)), (by first | rfl | (simp; done) | (simp [*]; done)), H', ⟨by first | omega | exact Nat.le_refl _⟩, ⟨by (with_reducible repeat (first | apply Kd.R_alloc | apply Kd.R_drewN | apply Kd.R_drew)); exact Kd.R_mono HO538.out (fun _ hk => ⟨hk.1.2, hk.2⟩)⟩, ⟨by (with_reducible repeat (first | apply Kd.R_alloc | apply Kd.R_drewN | apply Kd.R_drew)); exact Kd.R_mono HO543.out (fun _ hk => ⟨hk.1.2, hk.2⟩)⟩, ⟨by (with_reducible repeat (first | apply Kd.R_alloc | apply Kd.R_drewN | apply Kd.R_drew)); exact Kd.R_mono HO547.out (fun _ hk => ⟨hk.1.2, hk.2⟩)⟩, ⟨by (with_reducible repeat (first | refine blk_drewN ?_ _ | refine blk_drew ?_ | refine blk_alloc ?_ _)); exact BK531.out⟩, ⟨by (with_reducible repeat (first | refine blk_drewN ?_ _ | refine blk_drew ?_ | refine blk_alloc ?_ _)); exact BK540.out⟩, ⟨by (with_reducible repeat (first | refine blk_drewN ?_ _ | refine blk_drew ?_ | refine blk_alloc ?_ _)); exact BK544.out⟩, ⟨by (with_reducible repeat (first | refine blk_drewN ?_ _ | refine blk_drew ?_ | refine blk_alloc ?_ _)); exact BK549.out⟩, ⟨by repeat (first | (with_reducible first | exact HB.out | apply below_alloc | apply pw_below_drewN | apply below_drew1 | refine below_set ?_ GE531.out | refine below_set ?_ GE540.out | refine below_set ?_ GE544.out | refine below_set ?_ GE549.out) | exact HB.out)⟩⟩
      · replace c39 := Bool.eq_false_iff.mpr c39
        subst c39
        have H1 : (laws_FnExactFewAdd.j0 k a1 t539 t548 true l0_0 t536 t541 t545) = some r := by rw [if_neg (show ¬ (false = true) by decide)] at H; exact H
        clear H
        have H := H1
        clear H1
        have H' := Aside0.mk H
        clear H
        have hnb48 := NB549_531.out
        have hnc48 := NB531_549.out
        have hnb49 := NB549_540.out
        have hnc49 := NB540_549.out
        have hnb50 := NB549_544.out
        have hnc50 := NB544_549.out
        have hcz51_0 : w32.cell? ⟨gb549, 0, none⟩ = some (.slice none 0 0) := (blk_cell BK549.out 0).trans rfl
        have hfz51_0 := blk_frozen BK549.out 0
        have hnb52 := NB540_531.out
        have hnc52 := NB531_540.out
        have hnb53 := NB540_544.out
        have hnc53 := NB544_540.out
        have hcz54_0 : w32.cell? ⟨gb540, 0, none⟩ = some (.slice Ao21 t536.length co21) := (blk_cell BK540.out 0).trans rfl
        have hfz54_0 := blk_frozen BK540.out 0
        go_wp2_with (first | ((with_reducible refine gate_callee (f := 21) rfl ?_); refine goesL_ (some 38) rfl rfl Try.func21 (by kernel_rfl) rfl #[.agg #[.slice Ao33 t545.length co33], .agg #[.slice Ao21 t536.length co21]] rfl (by (try simp only [List.map_toArray, List.map_cons, List.map_nil]); first | done | rfl | (simp only [List.length_drop, List.length_take]; rfl)) ?_; (with_reducible refine (laws_eqFew.calls k _ _ t545 _ _ t536 false _ ?side1 ?side2 ?side3 ?side4 A38.out).mono ?_); (case side1 => refine (Kd.R_reads' (e := 3) (base := w.heap.size) (ok := fun k_ => (((True ∧ some k_ ≠ (.slice Ao18 t533.length co18 : Value).ownBlock) ∧ some k_ ≠ (.slice Ao21 t536.length co21 : Value).ownBlock) ∧ some k_ ≠ (.slice Ao27 t541.length co27 : Value).ownBlock)) (n := t545.length) (c := co33) ?_).2.2; exact (by (with_reducible repeat (first | apply Kd.R_alloc | apply Kd.R_drewN | apply Kd.R_drew)); exact (Kd.R_mono (Kd.R_far (p := ⟨gb549, 0, none⟩) (Kd.R_types HO547.out BK549.out (by decide)) (fun _ hk => hk.2) (.slice Ao33 t545.length co33)) (fun _ h_ => h_.1)))); (case side2 => exact (Kd.R_reads' HO547.out).2.1); (case side3 => refine (Kd.R_reads' (e := 3) (base := w.heap.size) (ok := fun k_ => (((True ∧ some k_ ≠ (.slice Ao18 t533.length co18 : Value).ownBlock) ∧ some k_ ≠ (.slice Ao27 t541.length co27 : Value).ownBlock) ∧ some k_ ≠ (.slice Ao33 t545.length co33 : Value).ownBlock)) (n := t536.length) (c := co21) ?_).2.2; exact (by (with_reducible repeat (first | apply Kd.R_alloc | apply Kd.R_drewN | apply Kd.R_drew)); exact (Kd.R_mono (Kd.R_far (p := ⟨gb549, 0, none⟩) (Kd.R_types HO538.out BK549.out (by decide)) (fun _ hk => hk.2) (.slice Ao33 t545.length co33)) (fun _ h_ => h_.1)))); (case side4 => exact (Kd.R_reads' HO538.out).2.1); rintro e w55 ⟨rfl, hb⟩; refine ⟨_, rfl, ?_⟩; have n0_ := Aside0.mk (Kd.R_below (by (with_reducible repeat (first | apply Kd.R_alloc | apply Kd.R_drewN | apply Kd.R_drew)); exact (Kd.R_mono (Kd.R_far (p := ⟨gb549, 0, none⟩) (Kd.R_types HO535.out BK549.out (by decide)) (fun _ hk => hk.2) (.slice Ao33 t545.length co33)) (fun _ h_ => h_.1))) hb); have n1_ := Aside0.mk (Kd.R_below (by (with_reducible repeat (first | apply Kd.R_alloc | apply Kd.R_drewN | apply Kd.R_drew)); exact (Kd.R_mono (Kd.R_far (p := ⟨gb549, 0, none⟩) (Kd.R_types HO538.out BK549.out (by decide)) (fun _ hk => hk.2) (.slice Ao33 t545.length co33)) (fun _ h_ => h_.1))) hb); have n2_ := Aside0.mk (Kd.R_below (by (with_reducible repeat (first | apply Kd.R_alloc | apply Kd.R_drewN | apply Kd.R_drew)); exact (Kd.R_mono (Kd.R_far (p := ⟨gb549, 0, none⟩) (Kd.R_types HO543.out BK549.out (by decide)) (fun _ hk => hk.2) (.slice Ao33 t545.length co33)) (fun _ h_ => h_.1))) hb); have n3_ := Aside0.mk (Kd.R_below (by (with_reducible repeat (first | apply Kd.R_alloc | apply Kd.R_drewN | apply Kd.R_drew)); exact (Kd.R_mono (Kd.R_far (p := ⟨gb549, 0, none⟩) (Kd.R_types HO547.out BK549.out (by decide)) (fun _ hk => hk.2) (.slice Ao33 t545.length co33)) (fun _ h_ => h_.1))) hb); have n4_ := Aside0.mk (blk_below (g := gb531) (o := .cells #[.slice A0_0 l0_0.length c0_0] 37 (0, 0)) (by (with_reducible repeat (first | refine blk_drewN ?_ _ | refine blk_drew ?_ | refine blk_alloc ?_ _)); refine blk_far ?_ NB531_549.out _; (with_reducible repeat (first | refine blk_drewN ?_ _ | refine blk_drew ?_ | refine blk_alloc ?_ _)); exact BK531.out) hb); have n5_ := Aside0.mk (blk_below (g := gb540) (o := .cells #[.slice Ao21 t536.length co21] 25 (0, 0)) (by (with_reducible repeat (first | refine blk_drewN ?_ _ | refine blk_drew ?_ | refine blk_alloc ?_ _)); refine blk_far ?_ NB540_549.out _; (with_reducible repeat (first | refine blk_drewN ?_ _ | refine blk_drew ?_ | refine blk_alloc ?_ _)); exact BK540.out) hb); have n6_ := Aside0.mk (blk_below (g := gb544) (o := .cells #[.slice Ao27 t541.length co27] 25 (0, 0)) (by (with_reducible repeat (first | refine blk_drewN ?_ _ | refine blk_drew ?_ | refine blk_alloc ?_ _)); refine blk_far ?_ NB544_549.out _; (with_reducible repeat (first | refine blk_drewN ?_ _ | refine blk_drew ?_ | refine blk_alloc ?_ _)); exact BK544.out) hb); have n7_ := Aside0.mk (blk_below (g := gb549) (o := .cells #[.slice Ao33 t545.length co33] 25 (0, 0)) (by (with_reducible repeat (first | refine blk_drewN ?_ _ | refine blk_drew ?_ | refine blk_alloc ?_ _)); refine blk_put (cs := #[.slice none 0 0]) ?_ 0 _ rfl; (with_reducible repeat (first | refine blk_drewN ?_ _ | refine blk_drew ?_ | refine blk_alloc ?_ _)); exact BK549.out) hb); have n8_ := Aside0.mk (below_step (by repeat (first | (with_reducible first | exact HB.out | apply below_alloc | apply pw_below_drewN | apply below_drew1 | refine below_set ?_ GE531.out | refine below_set ?_ GE540.out | refine below_set ?_ GE544.out | refine below_set ?_ GE549.out) | exact HB.out)) hb); clear HO535; clear HO538; clear HO543; clear HO547; clear BK531; clear BK540; clear BK544; clear BK549; clear HB; have HO535 := n0_; have HO538 := n1_; have HO543 := n2_; have HO547 := n3_; have BK531 := n4_; have BK540 := n5_; have BK544 := n6_; have BK549 := n7_; have HB := n8_; clear n0_ n1_ n2_ n3_ n4_ n5_ n6_ n7_ n8_; (try clear hb); (try clear hb2); (try clear hk); (try clear hi)))
        go_meet
        case rel => exact ⟨_, (true), (by first | rfl | (simp; done) | (simp [*]; done)), H', ⟨by first | omega | exact Nat.le_refl _⟩, ⟨by (with_reducible repeat (first | apply Kd.R_alloc | apply Kd.R_drewN | apply Kd.R_drew)); exact Kd.R_mono HO538.out (fun _ hk => ⟨hk.1.2, hk.2⟩)⟩, ⟨by (with_reducible repeat (first | apply Kd.R_alloc | apply Kd.R_drewN | apply Kd.R_drew)); exact Kd.R_mono HO543.out (fun _ hk => ⟨hk.1.2, hk.2⟩)⟩, ⟨by (with_reducible repeat (first | apply Kd.R_alloc | apply Kd.R_drewN | apply Kd.R_drew)); exact Kd.R_mono HO547.out (fun _ hk => ⟨hk.1.2, hk.2⟩)⟩, ⟨by (with_reducible repeat (first | refine blk_drewN ?_ _ | refine blk_drew ?_ | refine blk_alloc ?_ _)); exact BK531.out⟩, ⟨by (with_reducible repeat (first | refine blk_drewN ?_ _ | refine blk_drew ?_ | refine blk_alloc ?_ _)); exact BK540.out⟩, ⟨by (with_reducible repeat (first | refine blk_drewN ?_ _ | refine blk_drew ?_ | refine blk_alloc ?_ _)); exact BK544.out⟩, ⟨by (with_reducible repeat (first | refine blk_drewN ?_ _ | refine blk_drew ?_ | refine blk_alloc ?_ _)); exact BK549.out⟩, ⟨by repeat (first | (with_reducible first | exact HB.out | apply below_alloc | apply pw_below_drewN | apply below_drew1 | refine below_set ?_ GE531.out | refine below_set ?_ GE540.out | refine below_set ?_ GE544.out | refine below_set ?_ GE549.out) | exact HB.out)⟩⟩
    case rest =>
      clear HC12
      try clear c1
      try clear c2
      try clear p2
      try clear c3
      try clear c4
      try clear c4b0
      try clear c5
      try clear c10
      try clear c17
      try clear c18
      try clear c19
      try clear c20
      try clear c21
      try clear c22
      try clear c28
      try clear c29
      try clear c34
      try clear c35
      try clear c36
      try clear c39
      try clear c40
      try clear c41
      try clear c42
      try clear c44
      try clear c45
      try clear c48
      try clear c49
      try clear c50
      try clear c52
      try clear c53
      try clear hcz14_0
      try clear hcz16_0
      try clear hcz23_0
      try clear hcz24_0
      try clear hcz30_0
      try clear hcz37_0
      try clear hcz43_0
      try clear hcz46_0
      try clear hcz51_0
      try clear hcz54_0
      try clear hcz6_0
      try clear hfz14_0
      try clear hfz16_0
      try clear hfz23_0
      try clear hfz24_0
      try clear hfz30_0
      try clear hfz37_0
      try clear hfz43_0
      try clear hfz46_0
      try clear hfz51_0
      try clear hfz54_0
      try clear hfz6_0
      obtain ⟨kq, x44_11, rfl, HA, HJ11, HO_541000, HO_545000, HO_550000, BK531, BK540, BK544, BK549, HB⟩ := hcut
      cases kq with
      | zero => exact absurd HA.out (by simp [laws_FnExactFewAdd.j0])
      | succ kj11 =>
        have H := HA.out
        clear HA
        simp only [laws_FnExactFewAdd.j0] at H
        by_cases c56 : x44_11 = true
        · subst c56
          have H1 : (some false) = some r := by rw [if_pos rfl] at H; exact H
          clear H
          have H := H1
          clear H1
          obtain rfl := Option.some.inj H
          go_wp2
          go_ret
          exact ⟨by first | rfl | (simp [errW_none, errW_some] <;> rfl) | (simp [*, errW_none, errW_some] <;> rfl), by repeat (first | (with_reducible first | exact HB.out | apply below_alloc | apply pw_below_drewN | apply below_drew1 | refine below_set ?_ GE531.out | refine below_set ?_ GE540.out | refine below_set ?_ GE544.out | refine below_set ?_ GE549.out) | exact HB.out)⟩
        · replace c56 := Bool.eq_false_iff.mpr c56
          subst c56
          have H1 : ((laws_toFew.f kj11 l0_0).bind fun t551 => ((laws_eqFew.f kj11 t541 t551).bind fun t554 => (if t554 = true then ((laws_markFew.f kj11 t541 1).bind fun bt555 => (if bt555.1 < 0 then (laws_FnExactFewAdd.j1 kj11 a1 t539 true l0_0 t536 t545) else ((laws_eqFew.f kj11 t545 t536).bind fun t557 => (if t557 = true then (laws_FnExactFewAdd.j1 kj11 a1 t539 (t548 != t539) l0_0 t536 t545) else (laws_FnExactFewAdd.j1 kj11 a1 t539 true l0_0 t536 t545))))) else (some false)))) = some r := by rw [if_neg (show ¬ (false = true) by decide)] at H; exact H
          clear H
          have H := H1
          clear H1
          replace H := Option.bind_eq_some_iff.mp H
          obtain ⟨t551, A570, H⟩ := H
          replace H : ((laws_eqFew.f kj11 t541 t551).bind fun t554 => (if t554 = true then ((laws_markFew.f kj11 t541 1).bind fun bt555 => (if bt555.1 < 0 then (laws_FnExactFewAdd.j1 kj11 a1 t539 true l0_0 t536 t545) else ((laws_eqFew.f kj11 t545 t536).bind fun t557 => (if t557 = true then (laws_FnExactFewAdd.j1 kj11 a1 t539 (t548 != t539) l0_0 t536 t545) else (laws_FnExactFewAdd.j1 kj11 a1 t539 true l0_0 t536 t545))))) else (some false))) = some r := H
          have A57 := Aside0.mk A570
          clear A570
          replace H := Option.bind_eq_some_iff.mp H
          obtain ⟨t554, A580, H⟩ := H
          replace H : (if t554 = true then ((laws_markFew.f kj11 t541 1).bind fun bt555 => (if bt555.1 < 0 then (laws_FnExactFewAdd.j1 kj11 a1 t539 true l0_0 t536 t545) else ((laws_eqFew.f kj11 t545 t536).bind fun t557 => (if t557 = true then (laws_FnExactFewAdd.j1 kj11 a1 t539 (t548 != t539) l0_0 t536 t545) else (laws_FnExactFewAdd.j1 kj11 a1 t539 true l0_0 t536 t545))))) else (some false)) = some r := H
          have A58 := Aside0.mk A580
          clear A580
          by_cases c59 : t554 = true
          · subst c59
            have H1 : ((laws_markFew.f kj11 t541 1).bind fun bt555 => (if bt555.1 < 0 then (laws_FnExactFewAdd.j1 kj11 a1 t539 true l0_0 t536 t545) else ((laws_eqFew.f kj11 t545 t536).bind fun t557 => (if t557 = true then (laws_FnExactFewAdd.j1 kj11 a1 t539 (t548 != t539) l0_0 t536 t545) else (laws_FnExactFewAdd.j1 kj11 a1 t539 true l0_0 t536 t545))))) = some r := by rw [if_pos rfl] at H; exact H
            clear H
            have H := H1
            clear H1
            replace H := Option.bind_eq_some_iff.mp H
            obtain ⟨⟨t555, t556⟩, A600, H⟩ := H
            replace H : (if t555 < 0 then (laws_FnExactFewAdd.j1 kj11 a1 t539 true l0_0 t536 t545) else ((laws_eqFew.f kj11 t545 t536).bind fun t557 => (if t557 = true then (laws_FnExactFewAdd.j1 kj11 a1 t539 (t548 != t539) l0_0 t536 t545) else (laws_FnExactFewAdd.j1 kj11 a1 t539 true l0_0 t536 t545)))) = some r := H
            have A60 := Aside0.mk A600
            clear A600
            have HC61 := Aside0.mk H
            clear H
            try go_wp2
            have n0_ := Aside0.mk (Kd.R_drew HO_541000.out)
            have n1_ := Aside0.mk (Kd.R_drew HO_545000.out)
            have n2_ := Aside0.mk (Kd.R_drew HO_550000.out)
            have n3_ := Aside0.mk (blk_drew BK531.out)
            have n4_ := Aside0.mk (blk_drew BK540.out)
            have n5_ := Aside0.mk (blk_drew BK544.out)
            have n6_ := Aside0.mk (blk_drew BK549.out)
            have n7_ := Aside0.mk (below_drew1 HB.out)
            clear HO_541000
            clear HO_545000
            clear HO_550000
            clear BK531
            clear BK540
            clear BK544
            clear BK549
            clear HB
            have HO_541000 := n0_
            have HO_545000 := n1_
            have HO_550000 := n2_
            have BK531 := n3_
            have BK540 := n4_
            have BK544 := n5_
            have BK549 := n6_
            have HB := n7_
            clear n0_ n1_ n2_ n3_ n4_ n5_ n6_ n7_
            refine start_ (n := 5) (S := fun w' => w'.cell? ⟨gb544, 0, none⟩ = some (.slice Ao27 t541.length co27) ∧ w'.cell? ⟨gb531, 0, none⟩ = some (.slice A0_0 l0_0.length c0_0)) (ds := []) #[false, false, false, false, false] (by kernel_rfl) rfl rfl ⟨(blk_cell BK544.out 0).trans rfl, (blk_cell BK531.out 0).trans rfl⟩ (fun hHeld => ?_)
            generalize wc.drew = w62 at HO_541000 HO_545000 HO_550000 BK531 BK540 BK544 BK549 HB hHeld ⊢
            refine take_ (i := 0) (N := some 45) (v := ?_) (a' := ?_) #[true, false, false, false, false] rfl rfl (by kernel_rfl) (fun _ _ _ h => h) (Or.inl ⟨by rfl, ?_⟩) hHeld ?_ ?_
            rotate_left
            · rintro w' ⟨s0, s1⟩
              go_simp
              with_reducible rfl
            rotate_left
            · simp only [Act.put, List.setIfInBounds_toArray, List.set_cons_zero, List.set_cons_succ, i64_w, i32_w]
              rfl
            refine take_ (i := 1) (N := some 46) (v := ?_) (a' := ?_) #[true, true, false, false, false] rfl rfl (by kernel_rfl) (fun _ _ _ h => h) (Or.inl ⟨by rfl, ?_⟩) hHeld ?_ ?_
            rotate_left
            · rintro w' ⟨s0, s1⟩
              go_simp
              with_reducible rfl
            rotate_left
            · simp only [Act.put, List.setIfInBounds_toArray, List.set_cons_zero, List.set_cons_succ, i64_w, i32_w]
              rfl
            refine one_ (i := 2) (N := some 47) #[true, true, true, false, false] rfl rfl (by kernel_rfl) (by decide) (fun K hK => ?_)
            refine goes_ Try.func20 (by kernel_rfl) rfl #[.agg #[.slice A0_0 l0_0.length c0_0]] (by rfl) rfl rfl (by (try simp only [List.map_toArray, List.map_cons, List.map_nil]); first | done | rfl | (simp only [List.length_drop, List.length_take]; rfl)) ?_
            with_reducible refine (laws_toFew.calls kj11 _ _ l0_0 t551 _ ?side1 ?side2 A57.out).mono ?_
            (case side1 => repeat (first | exact (Kd.C_below HR0_0.out HB.out) | (with_reducible refine Kd.C_alloc ?_ _) | (with_reducible refine Kd.C_drewN ?_ _) | (with_reducible refine Kd.C_drew ?_)))
            (case side2 => exact HC0_0.out)
            rintro e w63 ⟨v552, rfl, ho0, hb⟩
            refine ⟨_, rfl, ?_⟩
            have n0_ := Aside0.mk (Kd.R_elder' (by (with_reducible repeat (first | apply Kd.R_alloc | apply Kd.R_drewN | apply Kd.R_drew)); exact HO_541000.out) (Kd.R_base ho0) hb)
            have n1_ := Aside0.mk (Kd.R_elder' (by (with_reducible repeat (first | apply Kd.R_alloc | apply Kd.R_drewN | apply Kd.R_drew)); exact HO_545000.out) (Kd.R_base ho0) hb)
            have n2_ := Aside0.mk (Kd.R_elder' (by (with_reducible repeat (first | apply Kd.R_alloc | apply Kd.R_drewN | apply Kd.R_drew)); exact HO_550000.out) (Kd.R_base ho0) hb)
            have n3_ := Aside0.mk (Kd.R_lower (Kd.R_new' (Kd.R_new' (Kd.R_new' ho0 (Kd.R_lt (by (with_reducible repeat (first | apply Kd.R_alloc | apply Kd.R_drewN | apply Kd.R_drew)); exact HO_541000.out))) (Kd.R_lt (by (with_reducible repeat (first | apply Kd.R_alloc | apply Kd.R_drewN | apply Kd.R_drew)); exact HO_545000.out))) (Kd.R_lt (by (with_reducible repeat (first | apply Kd.R_alloc | apply Kd.R_drewN | apply Kd.R_drew)); exact HO_550000.out))) (below_size (by repeat (first | (with_reducible first | exact HB.out | apply below_alloc | apply pw_below_drewN | apply below_drew1 | refine below_set ?_ GE531.out | refine below_set ?_ GE540.out | refine below_set ?_ GE544.out | refine below_set ?_ GE549.out) | exact HB.out))))
            have n4_ := Aside0.mk (blk_below (g := gb531) (o := .cells #[.slice A0_0 l0_0.length c0_0] 37 (0, 0)) (by (with_reducible repeat (first | refine blk_drewN ?_ _ | refine blk_drew ?_ | refine blk_alloc ?_ _)); exact BK531.out) hb)
            have n5_ := Aside0.mk (blk_below (g := gb540) (o := .cells #[.slice Ao21 t536.length co21] 25 (0, 0)) (by (with_reducible repeat (first | refine blk_drewN ?_ _ | refine blk_drew ?_ | refine blk_alloc ?_ _)); exact BK540.out) hb)
            have n6_ := Aside0.mk (blk_below (g := gb544) (o := .cells #[.slice Ao27 t541.length co27] 25 (0, 0)) (by (with_reducible repeat (first | refine blk_drewN ?_ _ | refine blk_drew ?_ | refine blk_alloc ?_ _)); exact BK544.out) hb)
            have n7_ := Aside0.mk (blk_below (g := gb549) (o := .cells #[.slice Ao33 t545.length co33] 25 (0, 0)) (by (with_reducible repeat (first | refine blk_drewN ?_ _ | refine blk_drew ?_ | refine blk_alloc ?_ _)); exact BK549.out) hb)
            have n8_ := Aside0.mk (below_step (by repeat (first | (with_reducible first | exact HB.out | apply below_alloc | apply pw_below_drewN | apply below_drew1 | refine below_set ?_ GE531.out | refine below_set ?_ GE540.out | refine below_set ?_ GE544.out | refine below_set ?_ GE549.out) | exact HB.out)) hb)
            clear HO_541000
            clear HO_545000
            clear HO_550000
            clear BK531
            clear BK540
            clear BK544
            clear BK549
            clear HB
            have HO_541000 := n0_
            have HO_545000 := n1_
            have HO_550000 := n2_
            have HO553 := n3_
            have BK531 := n4_
            have BK540 := n5_
            have BK544 := n6_
            have BK549 := n7_
            have HB := n8_
            clear n0_ n1_ n2_ n3_ n4_ n5_ n6_ n7_ n8_
            (try clear hb)
            (try clear hb2)
            (try clear hk)
            (try clear hi)
            (try clear ho0)
            obtain ⟨Ao64, co64, eo64⟩ := Kd.R_slice HO553.out
            (first | subst eo64 | (injection eo64 with f1_ f2_ f3_; have f4_ := f1_.symm; have f5_ := f3_.symm; clear f1_ f2_ f3_; subst f4_; subst f5_))
            refine hK.out _ _ ⟨(blk_cell BK544.out 0).trans rfl, (blk_cell BK531.out 0).trans rfl⟩ (fun hHeld => ?_)
            clear hK K
            refine norm_ (a' := ?_) ?_ ?_
            rotate_left
            · show Act.put _ (some 47) _ = _
              simp only [Act.put, List.setIfInBounds_toArray, List.set_cons_zero, List.set_cons_succ, i64_w, i32_w]
              rfl
            refine one_ (i := 3) (N := some 48) #[true, true, true, true, false] rfl rfl (by kernel_rfl) (by decide) (fun K hK => ?_)
            refine goes_ Try.func21 (by kernel_rfl) rfl #[.agg #[.slice Ao27 t541.length co27], .agg #[.slice Ao64 t551.length co64]] (by rfl) rfl rfl (by (try simp only [List.map_toArray, List.map_cons, List.map_nil]); first | done | rfl | (simp only [List.length_drop, List.length_take]; rfl)) ?_
            with_reducible refine (laws_eqFew.calls kj11 _ _ t541 _ _ t551 true _ ?side1 ?side2 ?side3 ?side4 A58.out).mono ?_
            (case side1 => repeat (first | exact (Kd.R_reads' HO_545000.out).2.2 | (with_reducible refine Kd.C_alloc ?_ _) | (with_reducible refine Kd.C_drewN ?_ _) | (with_reducible refine Kd.C_drew ?_)))
            (case side2 => exact (Kd.R_reads' HO_545000.out).2.1)
            (case side3 => repeat (first | exact (Kd.R_reads' HO553.out).2.2 | (with_reducible refine Kd.C_alloc ?_ _) | (with_reducible refine Kd.C_drewN ?_ _) | (with_reducible refine Kd.C_drew ?_)))
            (case side4 => exact (Kd.R_reads' HO553.out).2.1)
            rintro e w65 ⟨rfl, hb⟩
            refine ⟨_, rfl, ?_⟩
            have n0_ := Aside0.mk (Kd.R_below (by (with_reducible repeat (first | apply Kd.R_alloc | apply Kd.R_drewN | apply Kd.R_drew)); exact HO_541000.out) hb)
            have n1_ := Aside0.mk (Kd.R_below (by (with_reducible repeat (first | apply Kd.R_alloc | apply Kd.R_drewN | apply Kd.R_drew)); exact HO_545000.out) hb)
            have n2_ := Aside0.mk (Kd.R_below (by (with_reducible repeat (first | apply Kd.R_alloc | apply Kd.R_drewN | apply Kd.R_drew)); exact HO_550000.out) hb)
            have n3_ := Aside0.mk (Kd.R_below (by (with_reducible repeat (first | apply Kd.R_alloc | apply Kd.R_drewN | apply Kd.R_drew)); exact HO553.out) hb)
            have n4_ := Aside0.mk (blk_below (g := gb531) (o := .cells #[.slice A0_0 l0_0.length c0_0] 37 (0, 0)) (by (with_reducible repeat (first | refine blk_drewN ?_ _ | refine blk_drew ?_ | refine blk_alloc ?_ _)); exact BK531.out) hb)
            have n5_ := Aside0.mk (blk_below (g := gb540) (o := .cells #[.slice Ao21 t536.length co21] 25 (0, 0)) (by (with_reducible repeat (first | refine blk_drewN ?_ _ | refine blk_drew ?_ | refine blk_alloc ?_ _)); exact BK540.out) hb)
            have n6_ := Aside0.mk (blk_below (g := gb544) (o := .cells #[.slice Ao27 t541.length co27] 25 (0, 0)) (by (with_reducible repeat (first | refine blk_drewN ?_ _ | refine blk_drew ?_ | refine blk_alloc ?_ _)); exact BK544.out) hb)
            have n7_ := Aside0.mk (blk_below (g := gb549) (o := .cells #[.slice Ao33 t545.length co33] 25 (0, 0)) (by (with_reducible repeat (first | refine blk_drewN ?_ _ | refine blk_drew ?_ | refine blk_alloc ?_ _)); exact BK549.out) hb)
            have n8_ := Aside0.mk (below_step (by repeat (first | (with_reducible first | exact HB.out | apply below_alloc | apply pw_below_drewN | apply below_drew1 | refine below_set ?_ GE531.out | refine below_set ?_ GE540.out | refine below_set ?_ GE544.out | refine below_set ?_ GE549.out) | exact HB.out)) hb)
            clear HO_541000
            clear HO_545000
            clear HO_550000
            clear HO553
            clear BK531
            clear BK540
            clear BK544
            clear BK549
            clear HB
            have HO_541000 := n0_
            have HO_545000 := n1_
            have HO_550000 := n2_
            have HO553 := n3_
            have BK531 := n4_
            have BK540 := n5_
            have BK544 := n6_
            have BK549 := n7_
            have HB := n8_
            clear n0_ n1_ n2_ n3_ n4_ n5_ n6_ n7_ n8_
            (try clear hb)
            (try clear hb2)
            (try clear hk)
            (try clear hi)
            refine hK.out _ _ ⟨(blk_cell BK544.out 0).trans rfl, (blk_cell BK531.out 0).trans rfl⟩ (fun hHeld => ?_)
            clear hK K
            refine norm_ (a' := ?_) ?_ ?_
            rotate_left
            · show Act.put _ (some 48) _ = _
              simp only [Act.put, List.setIfInBounds_toArray, List.set_cons_zero, List.set_cons_succ, i64_w, i32_w]
              rfl
            refine pure_ (i := 4) (N := some 49) (v := ?_) (a' := ?_) #[true, true, true, true, true] rfl rfl (by kernel_rfl) (fun _ _ _ h => h) (Or.inl ⟨by rfl, ?_⟩) ?_ ?_
            rotate_left
            · intro w'
              go_simp
              with_reducible rfl
            rotate_left
            · simp only [Act.put, List.setIfInBounds_toArray, List.set_cons_zero, List.set_cons_succ, i64_w, i32_w]
              rfl
            refine done_ (by kernel_rfl) ?_
            have hnb66 := NB544_531.out
            have hnc66 := NB531_544.out
            have hnb67 := NB544_540.out
            have hnc67 := NB540_544.out
            have hnb68 := NB544_549.out
            have hnc68 := NB549_544.out
            have hcz69_0 : w65.cell? ⟨gb544, 0, none⟩ = some (.slice Ao27 t541.length co27) := (blk_cell BK544.out 0).trans rfl
            have hfz69_0 := blk_frozen BK544.out 0
            go_upto_region 14 with (first | ((with_reducible refine gate_callee (f := 22) rfl ?_); refine goesL_ (some 52) rfl rfl Try.func22 (by kernel_rfl) rfl #[.agg #[.slice Ao27 t541.length co27], .int .i64 1] rfl (by (try simp only [List.map_toArray, List.map_cons, List.map_nil]); first | done | rfl | (simp only [List.length_drop, List.length_take]; rfl)) ?_; (with_reducible refine (laws_markFew.calls kj11 (fun k_ => some k_ = (.slice Ao27 t541.length co27 : Value).ownBlock) (.slice Ao27 t541.length co27) t541 1 t555 t556 w _ ?side1 ?side2 A60.out).mono ?_); (case side1 => repeat (first | (with_reducible first | exact HB.out | apply below_alloc | apply pw_below_drewN | apply below_drew1 | refine below_set ?_ GE531.out | refine below_set ?_ GE540.out | refine below_set ?_ GE544.out | refine below_set ?_ GE549.out) | exact HB.out)); (case side2 => exact Kd.R_tight rfl HO_545000.out); rintro e w70 ⟨rfl, hy0, hb, hkp⟩; refine ⟨_, rfl, ?_⟩; have n0_ := Aside0.mk (Kd.R_mono (ok' := fun k_ => some k_ ≠ (.slice Ao27 t541.length co27 : Value).ownBlock ∧ some k_ ≠ (.slice Ao33 t545.length co33 : Value).ownBlock ∧ some k_ ≠ (.slice Ao64 t551.length co64 : Value).ownBlock) (Kd.R_keptB (HO_541000.out) hkp (fun k_ hk_ hs_ => (hk_.1.1) hs_)) (fun k_ hk_ => ⟨hk_.1.1.1, hk_.1.1.2, hk_.1.2⟩)); have n1_ := Aside0.mk (Kd.R_reok rfl hy0 (fun k_ e_ => HO_545000.out.1 k_ e_)); have n2_ := Aside0.mk (Kd.R_mono (ok' := fun k_ => some k_ ≠ (.slice Ao21 t536.length co21 : Value).ownBlock ∧ some k_ ≠ (.slice Ao27 t541.length co27 : Value).ownBlock ∧ some k_ ≠ (.slice Ao64 t551.length co64 : Value).ownBlock) (Kd.R_keptB (HO_550000.out) hkp (fun k_ hk_ hs_ => (hk_.1.2) hs_)) (fun k_ hk_ => ⟨hk_.1.1.1, hk_.1.1.2, hk_.1.2⟩)); have n3_ := Aside0.mk (blk_kept (by (with_reducible repeat (first | refine blk_drewN ?_ _ | refine blk_drew ?_ | refine blk_alloc ?_ _)); exact BK531.out) hkp (fun hs_ => (fun e_ => (Kd.R_ne HO_545000.out BK531.out (by decide)) e_) hs_)); have n4_ := Aside0.mk (blk_kept (by (with_reducible repeat (first | refine blk_drewN ?_ _ | refine blk_drew ?_ | refine blk_alloc ?_ _)); exact BK540.out) hkp (fun hs_ => (fun e_ => (Kd.R_ne HO_545000.out BK540.out (by decide)) e_) hs_)); have n5_ := Aside0.mk (blk_kept (by (with_reducible repeat (first | refine blk_drewN ?_ _ | refine blk_drew ?_ | refine blk_alloc ?_ _)); exact BK544.out) hkp (fun hs_ => (fun e_ => (Kd.R_ne HO_545000.out BK544.out (by decide)) e_) hs_)); have n6_ := Aside0.mk (blk_kept (by (with_reducible repeat (first | refine blk_drewN ?_ _ | refine blk_drew ?_ | refine blk_alloc ?_ _)); exact BK549.out) hkp (fun hs_ => (fun e_ => (Kd.R_ne HO_545000.out BK549.out (by decide)) e_) hs_)); have n7_ := Aside0.mk (Kd.R_mono (ok' := fun k_ => some k_ ≠ (.slice Ao21 t536.length co21 : Value).ownBlock ∧ some k_ ≠ (.slice Ao27 t541.length co27 : Value).ownBlock ∧ some k_ ≠ (.slice Ao33 t545.length co33 : Value).ownBlock) (Kd.R_keptB (HO553.out) hkp (fun k_ hk_ hs_ => (hk_.1.2) hs_)) (fun k_ hk_ => ⟨hk_.1.1.1.2, hk_.1.1.2, hk_.1.2⟩)); have n8_ := Aside0.mk (hb); clear HO_541000; clear HO_545000; clear HO_550000; clear BK531; clear BK540; clear BK544; clear BK549; clear HO553; clear HB; have HO_541000 := n0_; have HO_545000 := n1_; have HO_550000 := n2_; have BK531 := n3_; have BK540 := n4_; have BK544 := n5_; have BK549 := n6_; have HO553 := n7_; have HB := n8_; clear n0_ n1_ n2_ n3_ n4_ n5_ n6_ n7_ n8_; (try clear hb); (try clear hkp); (try clear hy0)))
            (try simp only [Act.put, List.setIfInBounds_toArray, List.set_cons_zero, List.set_cons_succ])
            go_cut [65] (fun v65 wc => ∃ (kq : Nat) (x65_60 : Bool), v65 = .bool x65_60 ∧ Aside0 (laws_FnExactFewAdd.j1 kq a1 t539 x65_60 l0_0 t536 t545 = some r) ∧ Aside0 (kq ≤ kj11) ∧ Aside0 (Kd.R (Kd.int .i64) 3 wc w.heap.size (fun k_ => some k_ ≠ ((.slice Ao27 t541.length co27) : Value).ownBlock ∧ some k_ ≠ ((.slice Ao33 t545.length co33) : Value).ownBlock) (.slice Ao21 t536.length co21) t536) ∧ Aside0 (Kd.R (Kd.int .i64) 3 wc w.heap.size (fun k_ => some k_ ≠ ((.slice Ao21 t536.length co21) : Value).ownBlock ∧ some k_ ≠ ((.slice Ao33 t545.length co33) : Value).ownBlock) (.slice Ao27 t541.length co27) t556) ∧ Aside0 (Kd.R (Kd.int .i64) 3 wc w.heap.size (fun k_ => some k_ ≠ ((.slice Ao21 t536.length co21) : Value).ownBlock ∧ some k_ ≠ ((.slice Ao27 t541.length co27) : Value).ownBlock) (.slice Ao33 t545.length co33) t545) ∧ Aside0 (wc.heap[gb531]? = some (.cells #[(.slice A0_0 l0_0.length c0_0)] 37 (0, 0))) ∧ Aside0 (wc.heap[gb540]? = some (.cells #[(.slice Ao21 t536.length co21)] 25 (0, 0))) ∧ Aside0 (wc.heap[gb544]? = some (.cells #[(.slice Ao27 t541.length co27)] 25 (0, 0))) ∧ Aside0 (wc.heap[gb549]? = some (.cells #[(.slice Ao33 t545.length co33)] 25 (0, 0))) ∧ Aside0 (Below w.heap.size w wc))
            case first =>
              have H := HC61.out
              clear HC61
              by_cases c71 : t555 < 0
              · rw [if_pos c71] at H
                have c71b0 : decide (t555 < 0) = true := decide_eq_true c71
                clear c71
                (first | rw [c71b0] | (simp only [i64_w, i32_w]; rw [c71b0]) | skip)
                have H' := Aside0.mk H
                clear H
                go_wp2
                go_meet
                case rel => exact ⟨_, (true), (by first | rfl | (simp; done) | (simp [*]; done)), H', ⟨by have := HJ11.out; first | omega | exact Nat.le_refl _⟩, ⟨by (with_reducible repeat (first | apply Kd.R_alloc | apply Kd.R_drewN | apply Kd.R_drew)); exact Kd.R_mono HO_541000.out (fun _ hk => ⟨hk.1, hk.2.1⟩)⟩, ⟨by (with_reducible repeat (first | apply Kd.R_alloc | apply Kd.R_drewN | apply Kd.R_drew)); exact Kd.R_mono HO_545000.out (fun _ hk => ⟨hk.1.1, hk.1.2⟩)⟩, ⟨by (with_reducible repeat (first | apply Kd.R_alloc | apply Kd.R_drewN | apply Kd.R_drew)); exact Kd.R_mono HO_550000.out (fun _ hk => ⟨hk.1, hk.2.1⟩)⟩, ⟨by (with_reducible repeat (first | refine blk_drewN ?_ _ | refine blk_drew ?_ | refine blk_alloc ?_ _)); exact BK531.out⟩, ⟨by (with_reducible repeat (first | refine blk_drewN ?_ _ | refine blk_drew ?_ | refine blk_alloc ?_ _)); exact BK540.out⟩, ⟨by (with_reducible repeat (first | refine blk_drewN ?_ _ | refine blk_drew ?_ | refine blk_alloc ?_ _)); exact BK544.out⟩, ⟨by (with_reducible repeat (first | refine blk_drewN ?_ _ | refine blk_drew ?_ | refine blk_alloc ?_ _)); exact BK549.out⟩, ⟨by repeat (first | (with_reducible first | exact HB.out | apply below_alloc | apply pw_below_drewN | apply below_drew1 | refine below_set ?_ GE531.out | refine below_set ?_ GE540.out | refine below_set ?_ GE544.out | refine below_set ?_ GE549.out) | exact HB.out)⟩⟩
              · rw [if_neg c71] at H
                have c71b0 : decide (t555 < 0) = false := decide_eq_false c71
                clear c71
                (first | rw [c71b0] | (simp only [i64_w, i32_w]; rw [c71b0]) | skip)
                replace H := Option.bind_eq_some_iff.mp H
                obtain ⟨t557, A720, H⟩ := H
                replace H : (if t557 = true then (laws_FnExactFewAdd.j1 kj11 a1 t539 (t548 != t539) l0_0 t536 t545) else (laws_FnExactFewAdd.j1 kj11 a1 t539 true l0_0 t536 t545)) = some r := H
                have A72 := Aside0.mk A720
                clear A720
                by_cases c73 : t557 = true
                · subst c73
                  have H1 : (laws_FnExactFewAdd.j1 kj11 a1 t539 (t548 != t539) l0_0 t536 t545) = some r := by rw [if_pos rfl] at H; exact H
                  clear H
                  have H := H1
                  clear H1
                  have H' := Aside0.mk H
                  clear H
                  have hnb74 := NB549_531.out
                  have hnc74 := NB531_549.out
                  have hnb75 := NB549_540.out
                  have hnc75 := NB540_549.out
                  have hnb76 := NB549_544.out
                  have hnc76 := NB544_549.out
                  have hcz77_0 : w70.cell? ⟨gb549, 0, none⟩ = some (.slice Ao33 t545.length co33) := (blk_cell BK549.out 0).trans rfl
                  have hfz77_0 := blk_frozen BK549.out 0
                  have hnb78 := NB540_531.out
                  have hnc78 := NB531_540.out
                  have hnb79 := NB540_544.out
                  have hnc79 := NB544_540.out
                  have hcz80_0 : w70.cell? ⟨gb540, 0, none⟩ = some (.slice Ao21 t536.length co21) := (blk_cell BK540.out 0).trans rfl
                  have hfz80_0 := blk_frozen BK540.out 0
                  go_wp2_with (first | (go_at_call 21; (with_reducible refine (laws_eqFew.calls kj11 _ _ t545 _ _ t536 true _ ?side1 ?side2 ?side3 ?side4 A72.out).mono ?_); (case side1 => repeat (first | exact (Kd.R_reads' HO_550000.out).2.2 | (with_reducible refine Kd.C_alloc ?_ _) | (with_reducible refine Kd.C_drewN ?_ _) | (with_reducible refine Kd.C_drew ?_))); (case side2 => exact (Kd.R_reads' HO_550000.out).2.1); (case side3 => repeat (first | exact (Kd.R_reads' HO_541000.out).2.2 | (with_reducible refine Kd.C_alloc ?_ _) | (with_reducible refine Kd.C_drewN ?_ _) | (with_reducible refine Kd.C_drew ?_))); (case side4 => exact (Kd.R_reads' HO_541000.out).2.1); rintro e w81 ⟨rfl, hb⟩; have n0_ := Aside0.mk (Kd.R_below (by (with_reducible repeat (first | apply Kd.R_alloc | apply Kd.R_drewN | apply Kd.R_drew)); exact HO_541000.out) hb); have n1_ := Aside0.mk (Kd.R_below (by (with_reducible repeat (first | apply Kd.R_alloc | apply Kd.R_drewN | apply Kd.R_drew)); exact HO_545000.out) hb); have n2_ := Aside0.mk (Kd.R_below (by (with_reducible repeat (first | apply Kd.R_alloc | apply Kd.R_drewN | apply Kd.R_drew)); exact HO_550000.out) hb); have n3_ := Aside0.mk (Kd.R_below (by (with_reducible repeat (first | apply Kd.R_alloc | apply Kd.R_drewN | apply Kd.R_drew)); exact HO553.out) hb); have n4_ := Aside0.mk (blk_below (g := gb531) (o := .cells #[.slice A0_0 l0_0.length c0_0] 37 (0, 0)) (by (with_reducible repeat (first | refine blk_drewN ?_ _ | refine blk_drew ?_ | refine blk_alloc ?_ _)); exact BK531.out) hb); have n5_ := Aside0.mk (blk_below (g := gb540) (o := .cells #[.slice Ao21 t536.length co21] 25 (0, 0)) (by (with_reducible repeat (first | refine blk_drewN ?_ _ | refine blk_drew ?_ | refine blk_alloc ?_ _)); exact BK540.out) hb); have n6_ := Aside0.mk (blk_below (g := gb544) (o := .cells #[.slice Ao27 t541.length co27] 25 (0, 0)) (by (with_reducible repeat (first | refine blk_drewN ?_ _ | refine blk_drew ?_ | refine blk_alloc ?_ _)); exact BK544.out) hb); have n7_ := Aside0.mk (blk_below (g := gb549) (o := .cells #[.slice Ao33 t545.length co33] 25 (0, 0)) (by (with_reducible repeat (first | refine blk_drewN ?_ _ | refine blk_drew ?_ | refine blk_alloc ?_ _)); exact BK549.out) hb); have n8_ := Aside0.mk (below_step (by repeat (first | (with_reducible first | exact HB.out | apply below_alloc | apply pw_below_drewN | apply below_drew1 | refine below_set ?_ GE531.out | refine below_set ?_ GE540.out | refine below_set ?_ GE544.out | refine below_set ?_ GE549.out) | exact HB.out)) hb); clear HO_541000; clear HO_545000; clear HO_550000; clear HO553; clear BK531; clear BK540; clear BK544; clear BK549; clear HB; have HO_541000 := n0_; have HO_545000 := n1_; have HO_550000 := n2_; have HO553 := n3_; have BK531 := n4_; have BK540 := n5_; have BK544 := n6_; have BK549 := n7_; have HB := n8_; clear n0_ n1_ n2_ n3_ n4_ n5_ n6_ n7_ n8_; (try clear hb); (try clear hb2); (try clear hk); (try clear hi)))
                  go_meet
                  case rel => exact ⟨_, ((t548 != t539)), (by first | rfl | (simp; done) | (simp [*]; done)), H', ⟨by have := HJ11.out; first | omega | exact Nat.le_refl _⟩, ⟨by (with_reducible repeat (first | apply Kd.R_alloc | apply Kd.R_drewN | apply Kd.R_drew)); exact Kd.R_mono HO_541000.out (fun _ hk => ⟨hk.1, hk.2.1⟩)⟩, ⟨by (with_reducible repeat (first | apply Kd.R_alloc | apply Kd.R_drewN | apply Kd.R_drew)); exact Kd.R_mono HO_545000.out (fun _ hk => ⟨hk.1.1, hk.1.2⟩)⟩, ⟨by (with_reducible repeat (first | apply Kd.R_alloc | apply Kd.R_drewN | apply Kd.R_drew)); exact Kd.R_mono HO_550000.out (fun _ hk => ⟨hk.1, hk.2.1⟩)⟩, ⟨by (with_reducible repeat (first | refine blk_drewN ?_ _ | refine blk_drew ?_ | refine blk_alloc ?_ _)); exact BK531.out⟩, ⟨by (with_reducible repeat (first | refine blk_drewN ?_ _ | refine blk_drew ?_ | refine blk_alloc ?_ _)); exact BK540.out⟩, ⟨by (with_reducible repeat (first | refine blk_drewN ?_ _ | refine blk_drew ?_ | refine blk_alloc ?_ _)); exact BK544.out⟩, ⟨by (with_reducible repeat (first | refine blk_drewN ?_ _ | refine blk_drew ?_ | refine blk_alloc ?_ _)); exact BK549.out⟩, ⟨by repeat (first | (with_reducible first | exact HB.out | apply below_alloc | apply pw_below_drewN | apply below_drew1 | refine below_set ?_ GE531.out | refine below_set ?_ GE540.out | refine below_set ?_ GE544.out | refine below_set ?_ GE549.out) | exact HB.out)⟩⟩
                · replace c73 := Bool.eq_false_iff.mpr c73
                  subst c73
                  have H1 : (laws_FnExactFewAdd.j1 kj11 a1 t539 true l0_0 t536 t545) = some r := by rw [if_neg (show ¬ (false = true) by decide)] at H; exact H
                  clear H
                  have H := H1
                  clear H1
                  have H' := Aside0.mk H
                  clear H
                  have hnb82 := NB549_531.out
                  have hnc82 := NB531_549.out
                  have hnb83 := NB549_540.out
                  have hnc83 := NB540_549.out
                  have hnb84 := NB549_544.out
                  have hnc84 := NB544_549.out
                  have hcz85_0 : w70.cell? ⟨gb549, 0, none⟩ = some (.slice Ao33 t545.length co33) := (blk_cell BK549.out 0).trans rfl
                  have hfz85_0 := blk_frozen BK549.out 0
                  have hnb86 := NB540_531.out
                  have hnc86 := NB531_540.out
                  have hnb87 := NB540_544.out
                  have hnc87 := NB544_540.out
                  have hcz88_0 : w70.cell? ⟨gb540, 0, none⟩ = some (.slice Ao21 t536.length co21) := (blk_cell BK540.out 0).trans rfl
                  have hfz88_0 := blk_frozen BK540.out 0
                  go_wp2_with (first | (go_at_call 21; (with_reducible refine (laws_eqFew.calls kj11 _ _ t545 _ _ t536 false _ ?side1 ?side2 ?side3 ?side4 A72.out).mono ?_); (case side1 => repeat (first | exact (Kd.R_reads' HO_550000.out).2.2 | (with_reducible refine Kd.C_alloc ?_ _) | (with_reducible refine Kd.C_drewN ?_ _) | (with_reducible refine Kd.C_drew ?_))); (case side2 => exact (Kd.R_reads' HO_550000.out).2.1); (case side3 => repeat (first | exact (Kd.R_reads' HO_541000.out).2.2 | (with_reducible refine Kd.C_alloc ?_ _) | (with_reducible refine Kd.C_drewN ?_ _) | (with_reducible refine Kd.C_drew ?_))); (case side4 => exact (Kd.R_reads' HO_541000.out).2.1); rintro e w89 ⟨rfl, hb⟩; have n0_ := Aside0.mk (Kd.R_below (by (with_reducible repeat (first | apply Kd.R_alloc | apply Kd.R_drewN | apply Kd.R_drew)); exact HO_541000.out) hb); have n1_ := Aside0.mk (Kd.R_below (by (with_reducible repeat (first | apply Kd.R_alloc | apply Kd.R_drewN | apply Kd.R_drew)); exact HO_545000.out) hb); have n2_ := Aside0.mk (Kd.R_below (by (with_reducible repeat (first | apply Kd.R_alloc | apply Kd.R_drewN | apply Kd.R_drew)); exact HO_550000.out) hb); have n3_ := Aside0.mk (Kd.R_below (by (with_reducible repeat (first | apply Kd.R_alloc | apply Kd.R_drewN | apply Kd.R_drew)); exact HO553.out) hb); have n4_ := Aside0.mk (blk_below (g := gb531) (o := .cells #[.slice A0_0 l0_0.length c0_0] 37 (0, 0)) (by (with_reducible repeat (first | refine blk_drewN ?_ _ | refine blk_drew ?_ | refine blk_alloc ?_ _)); exact BK531.out) hb); have n5_ := Aside0.mk (blk_below (g := gb540) (o := .cells #[.slice Ao21 t536.length co21] 25 (0, 0)) (by (with_reducible repeat (first | refine blk_drewN ?_ _ | refine blk_drew ?_ | refine blk_alloc ?_ _)); exact BK540.out) hb); have n6_ := Aside0.mk (blk_below (g := gb544) (o := .cells #[.slice Ao27 t541.length co27] 25 (0, 0)) (by (with_reducible repeat (first | refine blk_drewN ?_ _ | refine blk_drew ?_ | refine blk_alloc ?_ _)); exact BK544.out) hb); have n7_ := Aside0.mk (blk_below (g := gb549) (o := .cells #[.slice Ao33 t545.length co33] 25 (0, 0)) (by (with_reducible repeat (first | refine blk_drewN ?_ _ | refine blk_drew ?_ | refine blk_alloc ?_ _)); exact BK549.out) hb); have n8_ := Aside0.mk (below_step (by repeat (first | (with_reducible first | exact HB.out | apply below_alloc | apply pw_below_drewN | apply below_drew1 | refine below_set ?_ GE531.out | refine below_set ?_ GE540.out | refine below_set ?_ GE544.out | refine below_set ?_ GE549.out) | exact HB.out)) hb); clear HO_541000; clear HO_545000; clear HO_550000; clear HO553; clear BK531; clear BK540; clear BK544; clear BK549; clear HB; have HO_541000 := n0_; have HO_545000 := n1_; have HO_550000 := n2_; have HO553 := n3_; have BK531 := n4_; have BK540 := n5_; have BK544 := n6_; have BK549 := n7_; have HB := n8_; clear n0_ n1_ n2_ n3_ n4_ n5_ n6_ n7_ n8_; (try clear hb); (try clear hb2); (try clear hk); (try clear hi)))
                  go_meet
                  case rel => exact ⟨_, (true), (by first | rfl | (simp; done) | (simp [*]; done)), H', ⟨by have := HJ11.out; first | omega | exact Nat.le_refl _⟩, ⟨by (with_reducible repeat (first | apply Kd.R_alloc | apply Kd.R_drewN | apply Kd.R_drew)); exact Kd.R_mono HO_541000.out (fun _ hk => ⟨hk.1, hk.2.1⟩)⟩, ⟨by (with_reducible repeat (first | apply Kd.R_alloc | apply Kd.R_drewN | apply Kd.R_drew)); exact Kd.R_mono HO_545000.out (fun _ hk => ⟨hk.1.1, hk.1.2⟩)⟩, ⟨by (with_reducible repeat (first | apply Kd.R_alloc | apply Kd.R_drewN | apply Kd.R_drew)); exact Kd.R_mono HO_550000.out (fun _ hk => ⟨hk.1, hk.2.1⟩)⟩, ⟨by (with_reducible repeat (first | refine blk_drewN ?_ _ | refine blk_drew ?_ | refine blk_alloc ?_ _)); exact BK531.out⟩, ⟨by (with_reducible repeat (first | refine blk_drewN ?_ _ | refine blk_drew ?_ | refine blk_alloc ?_ _)); exact BK540.out⟩, ⟨by (with_reducible repeat (first | refine blk_drewN ?_ _ | refine blk_drew ?_ | refine blk_alloc ?_ _)); exact BK544.out⟩, ⟨by (with_reducible repeat (first | refine blk_drewN ?_ _ | refine blk_drew ?_ | refine blk_alloc ?_ _)); exact BK549.out⟩, ⟨by repeat (first | (with_reducible first | exact HB.out | apply below_alloc | apply pw_below_drewN | apply below_drew1 | refine below_set ?_ GE531.out | refine below_set ?_ GE540.out | refine below_set ?_ GE544.out | refine below_set ?_ GE549.out) | exact HB.out)⟩⟩
            case rest =>
              clear HC61
              try clear c1
              try clear c2
              try clear p2
              try clear c3
              try clear c4
              try clear c4b0
              try clear c5
              try clear c6
              try clear c7
              try clear c8
              try clear c10
              try clear c17
              try clear c18
              try clear c19
              try clear c20
              try clear c21
              try clear c22
              try clear c28
              try clear c29
              try clear c34
              try clear c35
              try clear c36
              try clear c39
              try clear c40
              try clear c41
              try clear c42
              try clear c44
              try clear c45
              try clear c48
              try clear c49
              try clear c50
              try clear c52
              try clear c53
              try clear c56
              try clear c59
              try clear c66
              try clear c67
              try clear c68
              try clear c71
              try clear c71b0
              try clear c73
              try clear c74
              try clear c75
              try clear c76
              try clear c78
              try clear c79
              try clear c82
              try clear c83
              try clear c84
              try clear c86
              try clear c87
              try clear hcz14_0
              try clear hcz16_0
              try clear hcz23_0
              try clear hcz24_0
              try clear hcz30_0
              try clear hcz37_0
              try clear hcz43_0
              try clear hcz46_0
              try clear hcz51_0
              try clear hcz54_0
              try clear hcz69_0
              try clear hcz6_0
              try clear hcz77_0
              try clear hcz80_0
              try clear hcz85_0
              try clear hcz88_0
              try clear hfz14_0
              try clear hfz16_0
              try clear hfz23_0
              try clear hfz24_0
              try clear hfz30_0
              try clear hfz37_0
              try clear hfz43_0
              try clear hfz46_0
              try clear hfz51_0
              try clear hfz54_0
              try clear hfz69_0
              try clear hfz6_0
              try clear hfz77_0
              try clear hfz80_0
              try clear hfz85_0
              try clear hfz88_0
              try clear p2
              obtain ⟨kq, x65_60, rfl, HA, HJ60, HO_541000, HO_545000, HO_550000, BK531, BK540, BK544, BK549, HB⟩ := hcut
              have hl545000_60 := (Kd.R_reads' HO_545000.out).1
              rw [hl545000_60] at HO_545000
              (try simp only [hl545000_60])
              (try simp only [hl545000_60] at BK531)
              (try simp only [hl545000_60] at BK540)
              (try simp only [hl545000_60] at BK544)
              (try simp only [hl545000_60] at BK549)
              (try simp only [hl545000_60] at HO_541000)
              (try simp only [hl545000_60] at HO_550000)
              cases kq with
              | zero => exact absurd HA.out (by simp [laws_FnExactFewAdd.j1])
              | succ kj60 =>
                have H := HA.out
                clear HA
                simp only [laws_FnExactFewAdd.j1] at H
                by_cases c90 : x65_60 = true
                · subst c90
                  have H1 : (some false) = some r := by rw [if_pos rfl] at H; exact H
                  clear H
                  have H := H1
                  clear H1
                  obtain rfl := Option.some.inj H
                  go_wp2
                  go_ret
                  exact ⟨by first | rfl | (simp [errW_none, errW_some] <;> rfl) | (simp [*, errW_none, errW_some] <;> rfl), by repeat (first | (with_reducible first | exact HB.out | apply below_alloc | apply pw_below_drewN | apply below_drew1 | refine below_set ?_ GE531.out | refine below_set ?_ GE540.out | refine below_set ?_ GE544.out | refine below_set ?_ GE549.out) | exact HB.out)⟩
                · replace c90 := Bool.eq_false_iff.mpr c90
                  subst c90
                  have H1 : ((laws_markFew.f kj60 t545 1).bind fun bt558 => ((laws_heldFew.f kj60 bt558.2 1).bind fun t560 => (if t560 < 0 then (some false) else (if t560 = bt558.1 then ((laws_toFew.f kj60 l0_0).bind fun t561 => ((impl_FewAdd.f kj60 t561 a1).bind fun bt564 => ((laws_eqFew.f kj60 bt564.1 t536).bind fun t569 => (if t569 = true then (laws_FnExactFewAdd.j2 kj60 bt558.1 (bt564.2 != t539) bt558.2) else (laws_FnExactFewAdd.j2 kj60 bt558.1 true bt558.2))))) else (some false))))) = some r := by rw [if_neg (show ¬ (false = true) by decide)] at H; exact H
                  clear H
                  have H := H1
                  clear H1
                  replace H := Option.bind_eq_some_iff.mp H
                  obtain ⟨⟨t558, t559⟩, A910, H⟩ := H
                  replace H : ((laws_heldFew.f kj60 t559 1).bind fun t560 => (if t560 < 0 then (some false) else (if t560 = t558 then ((laws_toFew.f kj60 l0_0).bind fun t561 => ((impl_FewAdd.f kj60 t561 a1).bind fun bt564 => ((laws_eqFew.f kj60 bt564.1 t536).bind fun t569 => (if t569 = true then (laws_FnExactFewAdd.j2 kj60 t558 (bt564.2 != t539) t559) else (laws_FnExactFewAdd.j2 kj60 t558 true t559))))) else (some false)))) = some r := H
                  have A91 := Aside0.mk A910
                  clear A910
                  replace H := Option.bind_eq_some_iff.mp H
                  obtain ⟨t560, A920, H⟩ := H
                  replace H : (if t560 < 0 then (some false) else (if t560 = t558 then ((laws_toFew.f kj60 l0_0).bind fun t561 => ((impl_FewAdd.f kj60 t561 a1).bind fun bt564 => ((laws_eqFew.f kj60 bt564.1 t536).bind fun t569 => (if t569 = true then (laws_FnExactFewAdd.j2 kj60 t558 (bt564.2 != t539) t559) else (laws_FnExactFewAdd.j2 kj60 t558 true t559))))) else (some false))) = some r := H
                  have A92 := Aside0.mk A920
                  clear A920
                  by_cases c93 : t560 < 0
                  · rw [if_pos c93] at H
                    have c93b0 : decide (t560 < 0) = true := decide_eq_true c93
                    clear c93
                    obtain rfl := Option.some.inj H
                    have hnb94 := NB549_531.out
                    have hnc94 := NB531_549.out
                    have hnb95 := NB549_540.out
                    have hnc95 := NB540_549.out
                    have hnb96 := NB549_544.out
                    have hnc96 := NB544_549.out
                    have hcz97_0 : wc.cell? ⟨gb549, 0, none⟩ = some (.slice Ao33 t545.length co33) := (blk_cell BK549.out 0).trans rfl
                    have hfz97_0 := blk_frozen BK549.out 0
                    go_wp2_with (first | ((with_reducible refine gate_callee (f := 22) rfl ?_); refine goesL_ (some 68) rfl rfl Try.func22 (by kernel_rfl) rfl #[.agg #[.slice Ao33 t545.length co33], .int .i64 1] rfl (by (try simp only [List.map_toArray, List.map_cons, List.map_nil]); first | done | rfl | (simp only [List.length_drop, List.length_take]; rfl)) ?_; (with_reducible refine (laws_markFew.calls kj60 (fun k_ => some k_ = (.slice Ao33 t545.length co33 : Value).ownBlock) (.slice Ao33 t545.length co33) t545 1 t558 t559 w _ ?side1 ?side2 A91.out).mono ?_); (case side1 => repeat (first | (with_reducible first | exact HB.out | apply below_alloc | apply pw_below_drewN | apply below_drew1 | refine below_set ?_ GE531.out | refine below_set ?_ GE540.out | refine below_set ?_ GE544.out | refine below_set ?_ GE549.out) | exact HB.out)); (case side2 => exact Kd.R_tight rfl HO_550000.out); rintro e w98 ⟨rfl, hy0, hb, hkp⟩; refine ⟨_, rfl, ?_⟩; have n0_ := Aside0.mk (Kd.R_mono (ok' := fun k_ => some k_ ≠ (.slice Ao27 t556.length co27 : Value).ownBlock ∧ some k_ ≠ (.slice Ao33 t545.length co33 : Value).ownBlock) (Kd.R_keptB (HO_541000.out) hkp (fun k_ hk_ hs_ => (hk_.2) hs_)) (fun k_ hk_ => ⟨hk_.1.1, hk_.1.2⟩)); have n1_ := Aside0.mk (Kd.R_mono (ok' := fun k_ => some k_ ≠ (.slice Ao21 t536.length co21 : Value).ownBlock ∧ some k_ ≠ (.slice Ao33 t545.length co33 : Value).ownBlock) (Kd.R_keptB (HO_545000.out) hkp (fun k_ hk_ hs_ => (hk_.2) hs_)) (fun k_ hk_ => ⟨hk_.1.1, hk_.1.2⟩)); have n2_ := Aside0.mk (Kd.R_reok rfl hy0 (fun k_ e_ => HO_550000.out.1 k_ e_)); have n3_ := Aside0.mk (blk_kept (by (with_reducible repeat (first | refine blk_drewN ?_ _ | refine blk_drew ?_ | refine blk_alloc ?_ _)); exact BK531.out) hkp (fun hs_ => (fun e_ => (Kd.R_ne HO_550000.out BK531.out (by decide)) e_) hs_)); have n4_ := Aside0.mk (blk_kept (by (with_reducible repeat (first | refine blk_drewN ?_ _ | refine blk_drew ?_ | refine blk_alloc ?_ _)); exact BK540.out) hkp (fun hs_ => (fun e_ => (Kd.R_ne HO_550000.out BK540.out (by decide)) e_) hs_)); have n5_ := Aside0.mk (blk_kept (by (with_reducible repeat (first | refine blk_drewN ?_ _ | refine blk_drew ?_ | refine blk_alloc ?_ _)); exact BK544.out) hkp (fun hs_ => (fun e_ => (Kd.R_ne HO_550000.out BK544.out (by decide)) e_) hs_)); have n6_ := Aside0.mk (blk_kept (by (with_reducible repeat (first | refine blk_drewN ?_ _ | refine blk_drew ?_ | refine blk_alloc ?_ _)); exact BK549.out) hkp (fun hs_ => (fun e_ => (Kd.R_ne HO_550000.out BK549.out (by decide)) e_) hs_)); have n7_ := Aside0.mk (hb); clear HO_541000; clear HO_545000; clear HO_550000; clear BK531; clear BK540; clear BK544; clear BK549; clear HB; have HO_541000 := n0_; have HO_545000 := n1_; have HO_550000 := n2_; have BK531 := n3_; have BK540 := n4_; have BK544 := n5_; have BK549 := n6_; have HB := n7_; clear n0_ n1_ n2_ n3_ n4_ n5_ n6_ n7_; (try clear hb); (try clear hkp); (try clear hy0); have hcz99_0 : w98.cell? ⟨gb549, 0, none⟩ = some (.slice Ao33 t545.length co33) := (blk_cell BK549.out 0).trans rfl; have hfz99_0 := blk_frozen BK549.out 0) | ((with_reducible refine gate_callee (f := 23) rfl ?_); refine goesL_ (some 71) rfl rfl Try.func23 (by kernel_rfl) rfl #[.agg #[.slice Ao33 t559.length co33], .int .i64 1] rfl (by (try simp only [List.map_toArray, List.map_cons, List.map_nil]); first | done | (rw [show t559.length = t545.length from (Kd.R_reads' HO_550000.out).1.symm] <;> rfl) | rfl | (simp only [List.length_drop, List.length_take]; rfl)) ?_; (with_reducible refine (laws_heldFew.calls kj60 _ _ t559 1 t560 _ ?side1 ?side2 A92.out).mono ?_); (case side1 => repeat (first | exact (Kd.R_reads' HO_550000.out).2.2 | (with_reducible refine Kd.C_alloc ?_ _) | (with_reducible refine Kd.C_drewN ?_ _) | (with_reducible refine Kd.C_drew ?_))); (case side2 => rw [show t559.length = t545.length from (Kd.R_reads' HO_550000.out).1.symm]; exact (Kd.R_reads' HO_550000.out).2.1); rintro e w100 ⟨rfl, hb⟩; refine ⟨_, rfl, ?_⟩; have n0_ := Aside0.mk (Kd.R_below (by (with_reducible repeat (first | apply Kd.R_alloc | apply Kd.R_drewN | apply Kd.R_drew)); exact HO_541000.out) hb); have n1_ := Aside0.mk (Kd.R_below (by (with_reducible repeat (first | apply Kd.R_alloc | apply Kd.R_drewN | apply Kd.R_drew)); exact HO_545000.out) hb); have n2_ := Aside0.mk (Kd.R_below (by (with_reducible repeat (first | apply Kd.R_alloc | apply Kd.R_drewN | apply Kd.R_drew)); exact HO_550000.out) hb); have n3_ := Aside0.mk (blk_below (g := gb531) (o := .cells #[.slice A0_0 l0_0.length c0_0] 37 (0, 0)) (by (with_reducible repeat (first | refine blk_drewN ?_ _ | refine blk_drew ?_ | refine blk_alloc ?_ _)); exact BK531.out) hb); have n4_ := Aside0.mk (blk_below (g := gb540) (o := .cells #[.slice Ao21 t536.length co21] 25 (0, 0)) (by (with_reducible repeat (first | refine blk_drewN ?_ _ | refine blk_drew ?_ | refine blk_alloc ?_ _)); exact BK540.out) hb); have n5_ := Aside0.mk (blk_below (g := gb544) (o := .cells #[.slice Ao27 t556.length co27] 25 (0, 0)) (by (with_reducible repeat (first | refine blk_drewN ?_ _ | refine blk_drew ?_ | refine blk_alloc ?_ _)); exact BK544.out) hb); have n6_ := Aside0.mk (blk_below (g := gb549) (o := .cells #[.slice Ao33 t545.length co33] 25 (0, 0)) (by (with_reducible repeat (first | refine blk_drewN ?_ _ | refine blk_drew ?_ | refine blk_alloc ?_ _)); exact BK549.out) hb); have n7_ := Aside0.mk (below_step (by repeat (first | (with_reducible first | exact HB.out | apply below_alloc | apply pw_below_drewN | apply below_drew1 | refine below_set ?_ GE531.out | refine below_set ?_ GE540.out | refine below_set ?_ GE544.out | refine below_set ?_ GE549.out) | exact HB.out)) hb); clear HO_541000; clear HO_545000; clear HO_550000; clear BK531; clear BK540; clear BK544; clear BK549; clear HB; have HO_541000 := n0_; have HO_545000 := n1_; have HO_550000 := n2_; have BK531 := n3_; have BK540 := n4_; have BK544 := n5_; have BK549 := n6_; have HB := n7_; clear n0_ n1_ n2_ n3_ n4_ n5_ n6_ n7_; (try clear hb); (try clear hb2); (try clear hk); (try clear hi)))
                    go_ret
                    exact ⟨by first | rfl | (simp [errW_none, errW_some] <;> rfl) | (simp [*, errW_none, errW_some] <;> rfl), by repeat (first | (with_reducible first | exact HB.out | apply below_alloc | apply pw_below_drewN | apply below_drew1 | refine below_set ?_ GE531.out | refine below_set ?_ GE540.out | refine below_set ?_ GE544.out | refine below_set ?_ GE549.out) | exact HB.out)⟩
                  · rw [if_neg c93] at H
                    have c93b0 : decide (t560 < 0) = false := decide_eq_false c93
                    clear c93
                    by_cases c101 : t560 = t558
                    · rw [if_pos c101] at H
                      have c101b0 : (t560 == t558) = true := beq_iff_eq.mpr c101
                      have c101b1 : (t560 != t558) = false := bne_eq_false_iff_eq.mpr c101
                      clear c101
                      replace H := Option.bind_eq_some_iff.mp H
                      obtain ⟨t561, A1020, H⟩ := H
                      replace H : ((impl_FewAdd.f kj60 t561 a1).bind fun bt564 => ((laws_eqFew.f kj60 bt564.1 t536).bind fun t569 => (if t569 = true then (laws_FnExactFewAdd.j2 kj60 t558 (bt564.2 != t539) t559) else (laws_FnExactFewAdd.j2 kj60 t558 true t559)))) = some r := H
                      have A102 := Aside0.mk A1020
                      clear A1020
                      replace H := Option.bind_eq_some_iff.mp H
                      obtain ⟨⟨t564, t567⟩, A1030, H⟩ := H
                      replace H : ((laws_eqFew.f kj60 t564 t536).bind fun t569 => (if t569 = true then (laws_FnExactFewAdd.j2 kj60 t558 (t567 != t539) t559) else (laws_FnExactFewAdd.j2 kj60 t558 true t559))) = some r := H
                      have A103 := Aside0.mk A1030
                      clear A1030
                      have HC104 := Aside0.mk H
                      clear H
                      have hnb105 := NB549_531.out
                      have hnc105 := NB531_549.out
                      have hnb106 := NB549_540.out
                      have hnc106 := NB540_549.out
                      have hnb107 := NB549_544.out
                      have hnc107 := NB544_549.out
                      have hcz108_0 : wc.cell? ⟨gb549, 0, none⟩ = some (.slice Ao33 t545.length co33) := (blk_cell BK549.out 0).trans rfl
                      have hfz108_0 := blk_frozen BK549.out 0
                      go_upto_region 25 with (first | ((with_reducible refine gate_callee (f := 22) rfl ?_); refine goesL_ (some 68) rfl rfl Try.func22 (by kernel_rfl) rfl #[.agg #[.slice Ao33 t545.length co33], .int .i64 1] rfl (by (try simp only [List.map_toArray, List.map_cons, List.map_nil]); first | done | rfl | (simp only [List.length_drop, List.length_take]; rfl)) ?_; (with_reducible refine (laws_markFew.calls kj60 (fun k_ => some k_ = (.slice Ao33 t545.length co33 : Value).ownBlock) (.slice Ao33 t545.length co33) t545 1 t558 t559 w _ ?side1 ?side2 A91.out).mono ?_); (case side1 => repeat (first | (with_reducible first | exact HB.out | apply below_alloc | apply pw_below_drewN | apply below_drew1 | refine below_set ?_ GE531.out | refine below_set ?_ GE540.out | refine below_set ?_ GE544.out | refine below_set ?_ GE549.out) | exact HB.out)); (case side2 => exact Kd.R_tight rfl HO_550000.out); rintro e w109 ⟨rfl, hy0, hb, hkp⟩; refine ⟨_, rfl, ?_⟩; have n0_ := Aside0.mk (Kd.R_mono (ok' := fun k_ => some k_ ≠ (.slice Ao27 t556.length co27 : Value).ownBlock ∧ some k_ ≠ (.slice Ao33 t545.length co33 : Value).ownBlock) (Kd.R_keptB (HO_541000.out) hkp (fun k_ hk_ hs_ => (hk_.2) hs_)) (fun k_ hk_ => ⟨hk_.1.1, hk_.1.2⟩)); have n1_ := Aside0.mk (Kd.R_mono (ok' := fun k_ => some k_ ≠ (.slice Ao21 t536.length co21 : Value).ownBlock ∧ some k_ ≠ (.slice Ao33 t545.length co33 : Value).ownBlock) (Kd.R_keptB (HO_545000.out) hkp (fun k_ hk_ hs_ => (hk_.2) hs_)) (fun k_ hk_ => ⟨hk_.1.1, hk_.1.2⟩)); have n2_ := Aside0.mk (Kd.R_reok rfl hy0 (fun k_ e_ => HO_550000.out.1 k_ e_)); have n3_ := Aside0.mk (blk_kept (by (with_reducible repeat (first | refine blk_drewN ?_ _ | refine blk_drew ?_ | refine blk_alloc ?_ _)); exact BK531.out) hkp (fun hs_ => (fun e_ => (Kd.R_ne HO_550000.out BK531.out (by decide)) e_) hs_)); have n4_ := Aside0.mk (blk_kept (by (with_reducible repeat (first | refine blk_drewN ?_ _ | refine blk_drew ?_ | refine blk_alloc ?_ _)); exact BK540.out) hkp (fun hs_ => (fun e_ => (Kd.R_ne HO_550000.out BK540.out (by decide)) e_) hs_)); have n5_ := Aside0.mk (blk_kept (by (with_reducible repeat (first | refine blk_drewN ?_ _ | refine blk_drew ?_ | refine blk_alloc ?_ _)); exact BK544.out) hkp (fun hs_ => (fun e_ => (Kd.R_ne HO_550000.out BK544.out (by decide)) e_) hs_)); have n6_ := Aside0.mk (blk_kept (by (with_reducible repeat (first | refine blk_drewN ?_ _ | refine blk_drew ?_ | refine blk_alloc ?_ _)); exact BK549.out) hkp (fun hs_ => (fun e_ => (Kd.R_ne HO_550000.out BK549.out (by decide)) e_) hs_)); have n7_ := Aside0.mk (hb); clear HO_541000; clear HO_545000; clear HO_550000; clear BK531; clear BK540; clear BK544; clear BK549; clear HB; have HO_541000 := n0_; have HO_545000 := n1_; have HO_550000 := n2_; have BK531 := n3_; have BK540 := n4_; have BK544 := n5_; have BK549 := n6_; have HB := n7_; clear n0_ n1_ n2_ n3_ n4_ n5_ n6_ n7_; (try clear hb); (try clear hkp); (try clear hy0); have hcz110_0 : w109.cell? ⟨gb549, 0, none⟩ = some (.slice Ao33 t545.length co33) := (blk_cell BK549.out 0).trans rfl; have hfz110_0 := blk_frozen BK549.out 0) | ((with_reducible refine gate_callee (f := 23) rfl ?_); refine goesL_ (some 71) rfl rfl Try.func23 (by kernel_rfl) rfl #[.agg #[.slice Ao33 t559.length co33], .int .i64 1] rfl (by (try simp only [List.map_toArray, List.map_cons, List.map_nil]); first | done | (rw [show t559.length = t545.length from (Kd.R_reads' HO_550000.out).1.symm] <;> rfl) | rfl | (simp only [List.length_drop, List.length_take]; rfl)) ?_; (with_reducible refine (laws_heldFew.calls kj60 _ _ t559 1 t560 _ ?side1 ?side2 A92.out).mono ?_); (case side1 => repeat (first | exact (Kd.R_reads' HO_550000.out).2.2 | (with_reducible refine Kd.C_alloc ?_ _) | (with_reducible refine Kd.C_drewN ?_ _) | (with_reducible refine Kd.C_drew ?_))); (case side2 => rw [show t559.length = t545.length from (Kd.R_reads' HO_550000.out).1.symm]; exact (Kd.R_reads' HO_550000.out).2.1); rintro e w111 ⟨rfl, hb⟩; refine ⟨_, rfl, ?_⟩; have n0_ := Aside0.mk (Kd.R_below (by (with_reducible repeat (first | apply Kd.R_alloc | apply Kd.R_drewN | apply Kd.R_drew)); exact HO_541000.out) hb); have n1_ := Aside0.mk (Kd.R_below (by (with_reducible repeat (first | apply Kd.R_alloc | apply Kd.R_drewN | apply Kd.R_drew)); exact HO_545000.out) hb); have n2_ := Aside0.mk (Kd.R_below (by (with_reducible repeat (first | apply Kd.R_alloc | apply Kd.R_drewN | apply Kd.R_drew)); exact HO_550000.out) hb); have n3_ := Aside0.mk (blk_below (g := gb531) (o := .cells #[.slice A0_0 l0_0.length c0_0] 37 (0, 0)) (by (with_reducible repeat (first | refine blk_drewN ?_ _ | refine blk_drew ?_ | refine blk_alloc ?_ _)); exact BK531.out) hb); have n4_ := Aside0.mk (blk_below (g := gb540) (o := .cells #[.slice Ao21 t536.length co21] 25 (0, 0)) (by (with_reducible repeat (first | refine blk_drewN ?_ _ | refine blk_drew ?_ | refine blk_alloc ?_ _)); exact BK540.out) hb); have n5_ := Aside0.mk (blk_below (g := gb544) (o := .cells #[.slice Ao27 t556.length co27] 25 (0, 0)) (by (with_reducible repeat (first | refine blk_drewN ?_ _ | refine blk_drew ?_ | refine blk_alloc ?_ _)); exact BK544.out) hb); have n6_ := Aside0.mk (blk_below (g := gb549) (o := .cells #[.slice Ao33 t545.length co33] 25 (0, 0)) (by (with_reducible repeat (first | refine blk_drewN ?_ _ | refine blk_drew ?_ | refine blk_alloc ?_ _)); exact BK549.out) hb); have n7_ := Aside0.mk (below_step (by repeat (first | (with_reducible first | exact HB.out | apply below_alloc | apply pw_below_drewN | apply below_drew1 | refine below_set ?_ GE531.out | refine below_set ?_ GE540.out | refine below_set ?_ GE544.out | refine below_set ?_ GE549.out) | exact HB.out)) hb); clear HO_541000; clear HO_545000; clear HO_550000; clear BK531; clear BK540; clear BK544; clear BK549; clear HB; have HO_541000 := n0_; have HO_545000 := n1_; have HO_550000 := n2_; have BK531 := n3_; have BK540 := n4_; have BK544 := n5_; have BK549 := n6_; have HB := n7_; clear n0_ n1_ n2_ n3_ n4_ n5_ n6_ n7_; (try clear hb); (try clear hb2); (try clear hk); (try clear hi); have hnb112 := NB531_540.out; have hnc112 := NB540_531.out; have hnb113 := NB531_544.out; have hnc113 := NB544_531.out; have hcz114_0 : w111.cell? ⟨gb531, 0, none⟩ = some (.slice A0_0 l0_0.length c0_0) := (blk_cell BK531.out 0).trans rfl; have hfz114_0 := blk_frozen BK531.out 0) | ((with_reducible refine gate_callee (f := 20) rfl ?_); refine goesL_ (some 79) rfl rfl Try.func20 (by kernel_rfl) rfl #[.agg #[.slice A0_0 l0_0.length c0_0]] rfl (by (try simp only [List.map_toArray, List.map_cons, List.map_nil]); first | done | rfl | (simp only [List.length_drop, List.length_take]; rfl)) ?_; (with_reducible refine (laws_toFew.calls kj60 _ _ l0_0 t561 _ ?side1 ?side2 A102.out).mono ?_); (case side1 => repeat (first | exact (Kd.C_below HR0_0.out HB.out) | (with_reducible refine Kd.C_alloc ?_ _) | (with_reducible refine Kd.C_drewN ?_ _) | (with_reducible refine Kd.C_drew ?_))); (case side2 => exact HC0_0.out); rintro e w115 ⟨v562, rfl, ho0, hb⟩; refine ⟨_, rfl, ?_⟩; have n0_ := Aside0.mk (Kd.R_elder' (by (with_reducible repeat (first | apply Kd.R_alloc | apply Kd.R_drewN | apply Kd.R_drew)); exact HO_541000.out) (Kd.R_base ho0) hb); have n1_ := Aside0.mk (Kd.R_elder' (by (with_reducible repeat (first | apply Kd.R_alloc | apply Kd.R_drewN | apply Kd.R_drew)); exact HO_545000.out) (Kd.R_base ho0) hb); have n2_ := Aside0.mk (Kd.R_elder' (by (with_reducible repeat (first | apply Kd.R_alloc | apply Kd.R_drewN | apply Kd.R_drew)); exact HO_550000.out) (Kd.R_base ho0) hb); have n3_ := Aside0.mk (Kd.R_lower (Kd.R_new' (Kd.R_new' (Kd.R_new' ho0 (Kd.R_lt (by (with_reducible repeat (first | apply Kd.R_alloc | apply Kd.R_drewN | apply Kd.R_drew)); exact HO_541000.out))) (Kd.R_lt (by (with_reducible repeat (first | apply Kd.R_alloc | apply Kd.R_drewN | apply Kd.R_drew)); exact HO_545000.out))) (Kd.R_lt (by (with_reducible repeat (first | apply Kd.R_alloc | apply Kd.R_drewN | apply Kd.R_drew)); exact HO_550000.out))) (below_size (by repeat (first | (with_reducible first | exact HB.out | apply below_alloc | apply pw_below_drewN | apply below_drew1 | refine below_set ?_ GE531.out | refine below_set ?_ GE540.out | refine below_set ?_ GE544.out | refine below_set ?_ GE549.out) | exact HB.out)))); have n4_ := Aside0.mk (blk_below (g := gb531) (o := .cells #[.slice A0_0 l0_0.length c0_0] 37 (0, 0)) (by (with_reducible repeat (first | refine blk_drewN ?_ _ | refine blk_drew ?_ | refine blk_alloc ?_ _)); exact BK531.out) hb); have n5_ := Aside0.mk (blk_below (g := gb540) (o := .cells #[.slice Ao21 t536.length co21] 25 (0, 0)) (by (with_reducible repeat (first | refine blk_drewN ?_ _ | refine blk_drew ?_ | refine blk_alloc ?_ _)); exact BK540.out) hb); have n6_ := Aside0.mk (blk_below (g := gb544) (o := .cells #[.slice Ao27 t556.length co27] 25 (0, 0)) (by (with_reducible repeat (first | refine blk_drewN ?_ _ | refine blk_drew ?_ | refine blk_alloc ?_ _)); exact BK544.out) hb); have n7_ := Aside0.mk (blk_below (g := gb549) (o := .cells #[.slice Ao33 t545.length co33] 25 (0, 0)) (by (with_reducible repeat (first | refine blk_drewN ?_ _ | refine blk_drew ?_ | refine blk_alloc ?_ _)); exact BK549.out) hb); have n8_ := Aside0.mk (below_step (by repeat (first | (with_reducible first | exact HB.out | apply below_alloc | apply pw_below_drewN | apply below_drew1 | refine below_set ?_ GE531.out | refine below_set ?_ GE540.out | refine below_set ?_ GE544.out | refine below_set ?_ GE549.out) | exact HB.out)) hb); clear HO_541000; clear HO_545000; clear HO_550000; clear BK531; clear BK540; clear BK544; clear BK549; clear HB; have HO_541000 := n0_; have HO_545000 := n1_; have HO_550000 := n2_; have HO563 := n3_; have BK531 := n4_; have BK540 := n5_; have BK544 := n6_; have BK549 := n7_; have HB := n8_; clear n0_ n1_ n2_ n3_ n4_ n5_ n6_ n7_ n8_; (try clear hb); (try clear hb2); (try clear hk); (try clear hi); (try clear ho0); obtain ⟨Ao116, co116, eo116⟩ := Kd.R_slice HO563.out; subst eo116) | ((with_reducible refine gate_callee (f := 18) rfl ?_); refine goesL_ (some 81) rfl rfl Try.func18 (by kernel_rfl) rfl #[.agg #[.slice Ao116 t561.length co116], .int .i64 a1] rfl (by (try simp only [List.map_toArray, List.map_cons, List.map_nil]); first | done | rfl | (simp only [List.length_drop, List.length_take]; rfl)) ?_; (with_reducible refine (impl_FewAdd.calls kj60 _ _ t561 a1 t564 t567 _ ?side1 ?side2 A103.out).mono ?_); (case side1 => repeat (first | exact (Kd.R_reads' HO563.out).2.2 | (with_reducible refine Kd.C_alloc ?_ _) | (with_reducible refine Kd.C_drewN ?_ _) | (with_reducible refine Kd.C_drew ?_))); (case side2 => exact (Kd.R_reads' HO563.out).2.1); rintro e w117 ⟨v565, rfl, ho0, hb⟩; refine ⟨_, rfl, ?_⟩; have n0_ := Aside0.mk (Kd.R_elder' (by (with_reducible repeat (first | apply Kd.R_alloc | apply Kd.R_drewN | apply Kd.R_drew)); exact HO_541000.out) (Kd.R_base ho0) hb); have n1_ := Aside0.mk (Kd.R_elder' (by (with_reducible repeat (first | apply Kd.R_alloc | apply Kd.R_drewN | apply Kd.R_drew)); exact HO_545000.out) (Kd.R_base ho0) hb); have n2_ := Aside0.mk (Kd.R_elder' (by (with_reducible repeat (first | apply Kd.R_alloc | apply Kd.R_drewN | apply Kd.R_drew)); exact HO_550000.out) (Kd.R_base ho0) hb); have n3_ := Aside0.mk (Kd.R_elder' (by (with_reducible repeat (first | apply Kd.R_alloc | apply Kd.R_drewN | apply Kd.R_drew)); exact HO563.out) (Kd.R_base ho0) hb); have n4_ := Aside0.mk (Kd.R_lower (Kd.R_new' (Kd.R_new' (Kd.R_new' (Kd.R_new' ho0 (Kd.R_lt (by (with_reducible repeat (first | apply Kd.R_alloc | apply Kd.R_drewN | apply Kd.R_drew)); exact HO_541000.out))) (Kd.R_lt (by (with_reducible repeat (first | apply Kd.R_alloc | apply Kd.R_drewN | apply Kd.R_drew)); exact HO_545000.out))) (Kd.R_lt (by (with_reducible repeat (first | apply Kd.R_alloc | apply Kd.R_drewN | apply Kd.R_drew)); exact HO_550000.out))) (Kd.R_lt (by (with_reducible repeat (first | apply Kd.R_alloc | apply Kd.R_drewN | apply Kd.R_drew)); exact HO563.out))) (below_size (by repeat (first | (with_reducible first | exact HB.out | apply below_alloc | apply pw_below_drewN | apply below_drew1 | refine below_set ?_ GE531.out | refine below_set ?_ GE540.out | refine below_set ?_ GE544.out | refine below_set ?_ GE549.out) | exact HB.out)))); have n5_ := Aside0.mk (blk_below (g := gb531) (o := .cells #[.slice A0_0 l0_0.length c0_0] 37 (0, 0)) (by (with_reducible repeat (first | refine blk_drewN ?_ _ | refine blk_drew ?_ | refine blk_alloc ?_ _)); exact BK531.out) hb); have n6_ := Aside0.mk (blk_below (g := gb540) (o := .cells #[.slice Ao21 t536.length co21] 25 (0, 0)) (by (with_reducible repeat (first | refine blk_drewN ?_ _ | refine blk_drew ?_ | refine blk_alloc ?_ _)); exact BK540.out) hb); have n7_ := Aside0.mk (blk_below (g := gb544) (o := .cells #[.slice Ao27 t556.length co27] 25 (0, 0)) (by (with_reducible repeat (first | refine blk_drewN ?_ _ | refine blk_drew ?_ | refine blk_alloc ?_ _)); exact BK544.out) hb); have n8_ := Aside0.mk (blk_below (g := gb549) (o := .cells #[.slice Ao33 t545.length co33] 25 (0, 0)) (by (with_reducible repeat (first | refine blk_drewN ?_ _ | refine blk_drew ?_ | refine blk_alloc ?_ _)); exact BK549.out) hb); have n9_ := Aside0.mk (below_step (by repeat (first | (with_reducible first | exact HB.out | apply below_alloc | apply pw_below_drewN | apply below_drew1 | refine below_set ?_ GE531.out | refine below_set ?_ GE540.out | refine below_set ?_ GE544.out | refine below_set ?_ GE549.out) | exact HB.out)) hb); clear HO_541000; clear HO_545000; clear HO_550000; clear HO563; clear BK531; clear BK540; clear BK544; clear BK549; clear HB; have HO_541000 := n0_; have HO_545000 := n1_; have HO_550000 := n2_; have HO563 := n3_; have HO566 := n4_; have BK531 := n5_; have BK540 := n6_; have BK544 := n7_; have BK549 := n8_; have HB := n9_; clear n0_ n1_ n2_ n3_ n4_ n5_ n6_ n7_ n8_ n9_; (try clear hb); (try clear hb2); (try clear hk); (try clear hi); (try clear ho0)) | ((with_reducible refine gate_dst (N := 14) rfl ?_); refine box_event ?hg (N := 14) ?hd (cs := #[.slice none 0 0]) (t := 25) ?hr ?_; (case hd => rfl); (case hg => rfl); (case hr => first | (go_simp; done) | (go_simp; rfl)); intro gb568 hg w118 hbox hb; have n0_ := Aside0.mk (Kd.R_below (by (with_reducible repeat (first | apply Kd.R_alloc | apply Kd.R_drewN | apply Kd.R_drew)); exact HO_541000.out) hb); have n1_ := Aside0.mk (Kd.R_below (by (with_reducible repeat (first | apply Kd.R_alloc | apply Kd.R_drewN | apply Kd.R_drew)); exact HO_545000.out) hb); have n2_ := Aside0.mk (Kd.R_below (by (with_reducible repeat (first | apply Kd.R_alloc | apply Kd.R_drewN | apply Kd.R_drew)); exact HO_550000.out) hb); have n3_ := Aside0.mk (Kd.R_below (by (with_reducible repeat (first | apply Kd.R_alloc | apply Kd.R_drewN | apply Kd.R_drew)); exact HO563.out) hb); have n4_ := Aside0.mk (Kd.R_below (by (with_reducible repeat (first | apply Kd.R_alloc | apply Kd.R_drewN | apply Kd.R_drew)); exact HO566.out) hb); have n5_ := Aside0.mk (blk_below (g := gb531) (o := .cells #[.slice A0_0 l0_0.length c0_0] 37 (0, 0)) (by (with_reducible repeat (first | refine blk_drewN ?_ _ | refine blk_drew ?_ | refine blk_alloc ?_ _)); exact BK531.out) hb); have n6_ := Aside0.mk (blk_below (g := gb540) (o := .cells #[.slice Ao21 t536.length co21] 25 (0, 0)) (by (with_reducible repeat (first | refine blk_drewN ?_ _ | refine blk_drew ?_ | refine blk_alloc ?_ _)); exact BK540.out) hb); have n7_ := Aside0.mk (blk_below (g := gb544) (o := .cells #[.slice Ao27 t556.length co27] 25 (0, 0)) (by (with_reducible repeat (first | refine blk_drewN ?_ _ | refine blk_drew ?_ | refine blk_alloc ?_ _)); exact BK544.out) hb); have n8_ := Aside0.mk (blk_below (g := gb549) (o := .cells #[.slice Ao33 t545.length co33] 25 (0, 0)) (by (with_reducible repeat (first | refine blk_drewN ?_ _ | refine blk_drew ?_ | refine blk_alloc ?_ _)); exact BK549.out) hb); have n9_ := Aside0.mk (below_step (by repeat (first | (with_reducible first | exact HB.out | apply below_alloc | apply pw_below_drewN | apply below_drew1 | refine below_set ?_ GE531.out | refine below_set ?_ GE540.out | refine below_set ?_ GE544.out | refine below_set ?_ GE549.out) | exact HB.out)) hb); have n10_ := Aside0.mk (hbox); have n11_ := Aside0.mk ((by rw [hg]; exact (below_size (by repeat (first | (with_reducible first | exact HB.out | apply below_alloc | apply pw_below_drewN | apply below_drew1 | refine below_set ?_ GE531.out | refine below_set ?_ GE540.out | refine below_set ?_ GE544.out | refine below_set ?_ GE549.out) | exact HB.out))) : w.heap.size ≤ gb568)); have n12_ := Aside0.mk ((by rw [hg]; exact (below_size (by repeat (first | (with_reducible first | exact HB.out | apply below_alloc | apply pw_below_drewN | apply below_drew1 | refine below_set ?_ GE531.out | refine below_set ?_ GE540.out | refine below_set ?_ GE544.out | refine below_set ?_ GE549.out) | exact HB.out))) : w.heap.size ≤ gb568)); have n13_ := Aside0.mk ((by rw [hg]; exact Nat.ne_of_lt (blk_lt (g := gb531) (o := .cells #[.slice A0_0 l0_0.length c0_0] 37 (0, 0)) (by (with_reducible repeat (first | refine blk_drewN ?_ _ | refine blk_drew ?_ | refine blk_alloc ?_ _)); exact BK531.out)) : gb531 ≠ gb568)); have n14_ := Aside0.mk ((by rw [hg]; exact Nat.ne_of_gt (blk_lt (g := gb531) (o := .cells #[.slice A0_0 l0_0.length c0_0] 37 (0, 0)) (by (with_reducible repeat (first | refine blk_drewN ?_ _ | refine blk_drew ?_ | refine blk_alloc ?_ _)); exact BK531.out)) : gb568 ≠ gb531)); have n15_ := Aside0.mk ((by rw [hg]; exact Nat.ne_of_lt (blk_lt (g := gb540) (o := .cells #[.slice Ao21 t536.length co21] 25 (0, 0)) (by (with_reducible repeat (first | refine blk_drewN ?_ _ | refine blk_drew ?_ | refine blk_alloc ?_ _)); exact BK540.out)) : gb540 ≠ gb568)); have n16_ := Aside0.mk ((by rw [hg]; exact Nat.ne_of_gt (blk_lt (g := gb540) (o := .cells #[.slice Ao21 t536.length co21] 25 (0, 0)) (by (with_reducible repeat (first | refine blk_drewN ?_ _ | refine blk_drew ?_ | refine blk_alloc ?_ _)); exact BK540.out)) : gb568 ≠ gb540)); have n17_ := Aside0.mk ((by rw [hg]; exact Nat.ne_of_lt (blk_lt (g := gb544) (o := .cells #[.slice Ao27 t556.length co27] 25 (0, 0)) (by (with_reducible repeat (first | refine blk_drewN ?_ _ | refine blk_drew ?_ | refine blk_alloc ?_ _)); exact BK544.out)) : gb544 ≠ gb568)); have n18_ := Aside0.mk ((by rw [hg]; exact Nat.ne_of_gt (blk_lt (g := gb544) (o := .cells #[.slice Ao27 t556.length co27] 25 (0, 0)) (by (with_reducible repeat (first | refine blk_drewN ?_ _ | refine blk_drew ?_ | refine blk_alloc ?_ _)); exact BK544.out)) : gb568 ≠ gb544)); have n19_ := Aside0.mk ((by rw [hg]; exact Nat.ne_of_lt (blk_lt (g := gb549) (o := .cells #[.slice Ao33 t545.length co33] 25 (0, 0)) (by (with_reducible repeat (first | refine blk_drewN ?_ _ | refine blk_drew ?_ | refine blk_alloc ?_ _)); exact BK549.out)) : gb549 ≠ gb568)); have n20_ := Aside0.mk ((by rw [hg]; exact Nat.ne_of_gt (blk_lt (g := gb549) (o := .cells #[.slice Ao33 t545.length co33] 25 (0, 0)) (by (with_reducible repeat (first | refine blk_drewN ?_ _ | refine blk_drew ?_ | refine blk_alloc ?_ _)); exact BK549.out)) : gb568 ≠ gb549)); clear HO_541000; clear HO_545000; clear HO_550000; clear HO563; clear HO566; clear BK531; clear BK540; clear BK544; clear BK549; clear HB; have HO_541000 := n0_; have HO_545000 := n1_; have HO_550000 := n2_; have HO563 := n3_; have HO566 := n4_; have BK531 := n5_; have BK540 := n6_; have BK544 := n7_; have BK549 := n8_; have HB := n9_; have BK568 := n10_; have GW568 := n11_; have GE568 := n12_; have NB531_568 := n13_; have NB568_531 := n14_; have NB540_568 := n15_; have NB568_540 := n16_; have NB544_568 := n17_; have NB568_544 := n18_; have NB549_568 := n19_; have NB568_549 := n20_; clear n0_ n1_ n2_ n3_ n4_ n5_ n6_ n7_ n8_ n9_ n10_ n11_ n12_ n13_ n14_ n15_ n16_ n17_ n18_ n19_ n20_; clear hb hbox hg; obtain ⟨Ao119, co119, eo119⟩ := Kd.R_slice HO566.out; subst eo119; have hnb120 := NB568_531.out; have hnc120 := NB531_568.out; have hnb121 := NB568_540.out; have hnc121 := NB540_568.out; have hnb122 := NB568_544.out; have hnc122 := NB544_568.out; have hnb123 := NB568_549.out; have hnc123 := NB549_568.out; have hcz124_0 : w118.cell? ⟨gb568, 0, none⟩ = some (.slice none 0 0) := (blk_cell BK568.out 0).trans rfl; have hfz124_0 := blk_frozen BK568.out 0))
                      (try simp only [Act.put, List.setIfInBounds_toArray, List.set_cons_zero, List.set_cons_succ])
                      go_cut [92] (fun v92 wc => ∃ (kq : Nat) (x92_103 : Bool), v92 = .bool x92_103 ∧ Aside0 (laws_FnExactFewAdd.j2 kq t558 x92_103 t559 = some r) ∧ Aside0 (kq ≤ kj60) ∧ Aside0 (Kd.R (Kd.int .i64) 3 wc w.heap.size (fun k_ => some k_ ≠ ((.slice Ao27 t556.length co27) : Value).ownBlock ∧ some k_ ≠ ((.slice Ao33 t545.length co33) : Value).ownBlock ∧ some k_ ≠ ((.slice Ao119 t564.length co119) : Value).ownBlock) (.slice Ao21 t536.length co21) t536) ∧ Aside0 (Kd.R (Kd.int .i64) 3 wc w.heap.size (fun k_ => some k_ ≠ ((.slice Ao21 t536.length co21) : Value).ownBlock ∧ some k_ ≠ ((.slice Ao33 t545.length co33) : Value).ownBlock ∧ some k_ ≠ ((.slice Ao119 t564.length co119) : Value).ownBlock) (.slice Ao27 t556.length co27) t556) ∧ Aside0 (Kd.R (Kd.int .i64) 3 wc w.heap.size (fun k_ => some k_ ≠ ((.slice Ao21 t536.length co21) : Value).ownBlock ∧ some k_ ≠ ((.slice Ao27 t556.length co27) : Value).ownBlock ∧ some k_ ≠ ((.slice Ao119 t564.length co119) : Value).ownBlock) (.slice Ao33 t545.length co33) t559) ∧ Aside0 (Kd.R (Kd.int .i64) 3 wc w.heap.size (fun k_ => some k_ ≠ ((.slice Ao21 t536.length co21) : Value).ownBlock ∧ some k_ ≠ ((.slice Ao27 t556.length co27) : Value).ownBlock ∧ some k_ ≠ ((.slice Ao33 t545.length co33) : Value).ownBlock) (.slice Ao119 t564.length co119) t564) ∧ Aside0 (wc.heap[gb531]? = some (.cells #[(.slice A0_0 l0_0.length c0_0)] 37 (0, 0))) ∧ Aside0 (wc.heap[gb540]? = some (.cells #[(.slice Ao21 t536.length co21)] 25 (0, 0))) ∧ Aside0 (wc.heap[gb544]? = some (.cells #[(.slice Ao27 t556.length co27)] 25 (0, 0))) ∧ Aside0 (wc.heap[gb549]? = some (.cells #[(.slice Ao33 t545.length co33)] 25 (0, 0))) ∧ Aside0 (wc.heap[gb568]? = some (.cells #[(.slice Ao119 t564.length co119)] 25 (0, 0))) ∧ Aside0 (Below w.heap.size w wc))
                      case first =>
                        have H := HC104.out
                        clear HC104
                        replace H := Option.bind_eq_some_iff.mp H
                        obtain ⟨t569, A1250, H⟩ := H
                        replace H : (if t569 = true then (laws_FnExactFewAdd.j2 kj60 t558 (t567 != t539) t559) else (laws_FnExactFewAdd.j2 kj60 t558 true t559)) = some r := H
                        have A125 := Aside0.mk A1250
                        clear A1250
                        by_cases c126 : t569 = true
                        · subst c126
                          have H1 : (laws_FnExactFewAdd.j2 kj60 t558 (t567 != t539) t559) = some r := by rw [if_pos rfl] at H; exact H
                          clear H
                          have H := H1
                          clear H1
                          have H' := Aside0.mk H
                          clear H
                          have hnb127 := NB568_531.out
                          have hnc127 := NB531_568.out
                          have hnb128 := NB568_540.out
                          have hnc128 := NB540_568.out
                          have hnb129 := NB568_544.out
                          have hnc129 := NB544_568.out
                          have hnb130 := NB568_549.out
                          have hnc130 := NB549_568.out
                          have hcz131_0 : w118.cell? ⟨gb568, 0, none⟩ = some (.slice none 0 0) := (blk_cell BK568.out 0).trans rfl
                          have hfz131_0 := blk_frozen BK568.out 0
                          have hnb132 := NB540_531.out
                          have hnc132 := NB531_540.out
                          have hnb133 := NB540_544.out
                          have hnc133 := NB544_540.out
                          have hnb134 := NB540_549.out
                          have hnc134 := NB549_540.out
                          have hcz135_0 : w118.cell? ⟨gb540, 0, none⟩ = some (.slice Ao21 t536.length co21) := (blk_cell BK540.out 0).trans rfl
                          have hfz135_0 := blk_frozen BK540.out 0
                          go_wp2_with (first | ((with_reducible refine gate_callee (f := 21) rfl ?_); refine goesL_ (some 86) rfl rfl Try.func21 (by kernel_rfl) rfl #[.agg #[.slice Ao119 t564.length co119], .agg #[.slice Ao21 t536.length co21]] rfl (by (try simp only [List.map_toArray, List.map_cons, List.map_nil]); first | done | rfl | (simp only [List.length_drop, List.length_take]; rfl)) ?_; (with_reducible refine (laws_eqFew.calls kj60 _ _ t564 _ _ t536 true _ ?side1 ?side2 ?side3 ?side4 A125.out).mono ?_); (case side1 => refine (Kd.R_reads' (e := 3) (base := w.heap.size) (ok := fun k_ => ((((True ∧ some k_ ≠ (.slice Ao21 t536.length co21 : Value).ownBlock) ∧ some k_ ≠ (.slice Ao27 t556.length co27 : Value).ownBlock) ∧ some k_ ≠ (.slice Ao33 t545.length co33 : Value).ownBlock) ∧ some k_ ≠ (.slice Ao116 t561.length co116 : Value).ownBlock)) (n := t564.length) (c := co119) ?_).2.2; exact (by (with_reducible repeat (first | apply Kd.R_alloc | apply Kd.R_drewN | apply Kd.R_drew)); exact (Kd.R_mono (Kd.R_far (p := ⟨gb568, 0, none⟩) (Kd.R_types HO566.out BK568.out (by decide)) (fun _ hk => hk.2) (.slice Ao119 t564.length co119)) (fun _ h_ => h_.1)))); (case side2 => exact (Kd.R_reads' HO566.out).2.1); (case side3 => refine (Kd.R_reads' (e := 3) (base := w.heap.size) (ok := fun k_ => (((some k_ ≠ (.slice Ao27 t556.length co27 : Value).ownBlock ∧ some k_ ≠ (.slice Ao33 t545.length co33 : Value).ownBlock) ∧ some k_ ≠ (.slice Ao116 t561.length co116 : Value).ownBlock) ∧ some k_ ≠ (.slice Ao119 t564.length co119 : Value).ownBlock)) (n := t536.length) (c := co21) ?_).2.2; exact (by (with_reducible repeat (first | apply Kd.R_alloc | apply Kd.R_drewN | apply Kd.R_drew)); exact (Kd.R_mono (Kd.R_far (p := ⟨gb568, 0, none⟩) (Kd.R_types HO_541000.out BK568.out (by decide)) (fun _ hk => hk.2) (.slice Ao119 t564.length co119)) (fun _ h_ => h_.1)))); (case side4 => exact (Kd.R_reads' HO_541000.out).2.1); rintro e w136 ⟨rfl, hb⟩; refine ⟨_, rfl, ?_⟩; have n0_ := Aside0.mk (Kd.R_below (by (with_reducible repeat (first | apply Kd.R_alloc | apply Kd.R_drewN | apply Kd.R_drew)); exact (Kd.R_mono (Kd.R_far (p := ⟨gb568, 0, none⟩) (Kd.R_types HO_541000.out BK568.out (by decide)) (fun _ hk => hk.2) (.slice Ao119 t564.length co119)) (fun _ h_ => h_.1))) hb); have n1_ := Aside0.mk (Kd.R_below (by (with_reducible repeat (first | apply Kd.R_alloc | apply Kd.R_drewN | apply Kd.R_drew)); exact (Kd.R_mono (Kd.R_far (p := ⟨gb568, 0, none⟩) (Kd.R_types HO_545000.out BK568.out (by decide)) (fun _ hk => hk.2) (.slice Ao119 t564.length co119)) (fun _ h_ => h_.1))) hb); have n2_ := Aside0.mk (Kd.R_below (by (with_reducible repeat (first | apply Kd.R_alloc | apply Kd.R_drewN | apply Kd.R_drew)); exact (Kd.R_mono (Kd.R_far (p := ⟨gb568, 0, none⟩) (Kd.R_types HO_550000.out BK568.out (by decide)) (fun _ hk => hk.2) (.slice Ao119 t564.length co119)) (fun _ h_ => h_.1))) hb); have n3_ := Aside0.mk (Kd.R_below (by (with_reducible repeat (first | apply Kd.R_alloc | apply Kd.R_drewN | apply Kd.R_drew)); exact (Kd.R_mono (Kd.R_far (p := ⟨gb568, 0, none⟩) (Kd.R_types HO563.out BK568.out (by decide)) (fun _ hk => hk.2) (.slice Ao119 t564.length co119)) (fun _ h_ => h_.1))) hb); have n4_ := Aside0.mk (Kd.R_below (by (with_reducible repeat (first | apply Kd.R_alloc | apply Kd.R_drewN | apply Kd.R_drew)); exact (Kd.R_mono (Kd.R_far (p := ⟨gb568, 0, none⟩) (Kd.R_types HO566.out BK568.out (by decide)) (fun _ hk => hk.2) (.slice Ao119 t564.length co119)) (fun _ h_ => h_.1))) hb); have n5_ := Aside0.mk (blk_below (g := gb531) (o := .cells #[.slice A0_0 l0_0.length c0_0] 37 (0, 0)) (by (with_reducible repeat (first | refine blk_drewN ?_ _ | refine blk_drew ?_ | refine blk_alloc ?_ _)); refine blk_far ?_ NB531_568.out _; (with_reducible repeat (first | refine blk_drewN ?_ _ | refine blk_drew ?_ | refine blk_alloc ?_ _)); exact BK531.out) hb); have n6_ := Aside0.mk (blk_below (g := gb540) (o := .cells #[.slice Ao21 t536.length co21] 25 (0, 0)) (by (with_reducible repeat (first | refine blk_drewN ?_ _ | refine blk_drew ?_ | refine blk_alloc ?_ _)); refine blk_far ?_ NB540_568.out _; (with_reducible repeat (first | refine blk_drewN ?_ _ | refine blk_drew ?_ | refine blk_alloc ?_ _)); exact BK540.out) hb); have n7_ := Aside0.mk (blk_below (g := gb544) (o := .cells #[.slice Ao27 t556.length co27] 25 (0, 0)) (by (with_reducible repeat (first | refine blk_drewN ?_ _ | refine blk_drew ?_ | refine blk_alloc ?_ _)); refine blk_far ?_ NB544_568.out _; (with_reducible repeat (first | refine blk_drewN ?_ _ | refine blk_drew ?_ | refine blk_alloc ?_ _)); exact BK544.out) hb); have n8_ := Aside0.mk (blk_below (g := gb549) (o := .cells #[.slice Ao33 t545.length co33] 25 (0, 0)) (by (with_reducible repeat (first | refine blk_drewN ?_ _ | refine blk_drew ?_ | refine blk_alloc ?_ _)); refine blk_far ?_ NB549_568.out _; (with_reducible repeat (first | refine blk_drewN ?_ _ | refine blk_drew ?_ | refine blk_alloc ?_ _)); exact BK549.out) hb); have n9_ := Aside0.mk (blk_below (g := gb568) (o := .cells #[.slice Ao119 t564.length co119] 25 (0, 0)) (by (with_reducible repeat (first | refine blk_drewN ?_ _ | refine blk_drew ?_ | refine blk_alloc ?_ _)); refine blk_put (cs := #[.slice none 0 0]) ?_ 0 _ rfl; (with_reducible repeat (first | refine blk_drewN ?_ _ | refine blk_drew ?_ | refine blk_alloc ?_ _)); exact BK568.out) hb); have n10_ := Aside0.mk (below_step (by repeat (first | (with_reducible first | exact HB.out | apply below_alloc | apply pw_below_drewN | apply below_drew1 | refine below_set ?_ GE531.out | refine below_set ?_ GE540.out | refine below_set ?_ GE544.out | refine below_set ?_ GE549.out | refine below_set ?_ GE568.out) | exact HB.out)) hb); clear HO_541000; clear HO_545000; clear HO_550000; clear HO563; clear HO566; clear BK531; clear BK540; clear BK544; clear BK549; clear BK568; clear HB; have HO_541000 := n0_; have HO_545000 := n1_; have HO_550000 := n2_; have HO563 := n3_; have HO566 := n4_; have BK531 := n5_; have BK540 := n6_; have BK544 := n7_; have BK549 := n8_; have BK568 := n9_; have HB := n10_; clear n0_ n1_ n2_ n3_ n4_ n5_ n6_ n7_ n8_ n9_ n10_; (try clear hb); (try clear hb2); (try clear hk); (try clear hi)))
                          go_meet
                          case rel => exact ⟨_, ((t567 != t539)), (by first | rfl | (simp; done) | (simp [*]; done)), H', ⟨by have := HJ11.out; have := HJ60.out; first | omega | exact Nat.le_refl _⟩, ⟨by (try simp only [hl545000_60]); (with_reducible repeat (first | apply Kd.R_alloc | apply Kd.R_drewN | apply Kd.R_drew)); exact Kd.R_mono HO_541000.out (fun _ hk => ⟨hk.1.1.1, ⟨hk.1.1.2, hk.2⟩⟩)⟩, ⟨by (try simp only [hl545000_60]); (with_reducible repeat (first | apply Kd.R_alloc | apply Kd.R_drewN | apply Kd.R_drew)); exact Kd.R_mono HO_545000.out (fun _ hk => ⟨hk.1.1.1, ⟨hk.1.1.2, hk.2⟩⟩)⟩, ⟨by (try simp only [hl545000_60]); (with_reducible repeat (first | apply Kd.R_alloc | apply Kd.R_drewN | apply Kd.R_drew)); exact Kd.R_mono HO_550000.out (fun _ hk => ⟨hk.1.1.1, ⟨hk.1.1.2, hk.2⟩⟩)⟩, ⟨by (try simp only [hl545000_60]); (with_reducible repeat (first | apply Kd.R_alloc | apply Kd.R_drewN | apply Kd.R_drew)); exact Kd.R_mono HO566.out (fun _ hk => ⟨hk.1.1.1.2, ⟨hk.1.1.2, hk.1.2⟩⟩)⟩, ⟨by (try simp only [hl545000_60]); (with_reducible repeat (first | refine blk_drewN ?_ _ | refine blk_drew ?_ | refine blk_alloc ?_ _)); exact BK531.out⟩, ⟨by (try simp only [hl545000_60]); (with_reducible repeat (first | refine blk_drewN ?_ _ | refine blk_drew ?_ | refine blk_alloc ?_ _)); exact BK540.out⟩, ⟨by (try simp only [hl545000_60]); (with_reducible repeat (first | refine blk_drewN ?_ _ | refine blk_drew ?_ | refine blk_alloc ?_ _)); exact BK544.out⟩, ⟨by (try simp only [hl545000_60]); (with_reducible repeat (first | refine blk_drewN ?_ _ | refine blk_drew ?_ | refine blk_alloc ?_ _)); exact BK549.out⟩, ⟨by (try simp only [hl545000_60]); (with_reducible repeat (first | refine blk_drewN ?_ _ | refine blk_drew ?_ | refine blk_alloc ?_ _)); exact BK568.out⟩, ⟨by repeat (first | (with_reducible first | exact HB.out | apply below_alloc | apply pw_below_drewN | apply below_drew1 | refine below_set ?_ GE531.out | refine below_set ?_ GE540.out | refine below_set ?_ GE544.out | refine below_set ?_ GE549.out | refine below_set ?_ GE568.out) | exact HB.out)⟩⟩
                        · replace c126 := Bool.eq_false_iff.mpr c126
                          subst c126
                          have H1 : (laws_FnExactFewAdd.j2 kj60 t558 true t559) = some r := by rw [if_neg (show ¬ (false = true) by decide)] at H; exact H
                          clear H
                          have H := H1
                          clear H1
                          have H' := Aside0.mk H
                          clear H
                          have hnb137 := NB568_531.out
                          have hnc137 := NB531_568.out
                          have hnb138 := NB568_540.out
                          have hnc138 := NB540_568.out
                          have hnb139 := NB568_544.out
                          have hnc139 := NB544_568.out
                          have hnb140 := NB568_549.out
                          have hnc140 := NB549_568.out
                          have hcz141_0 : w118.cell? ⟨gb568, 0, none⟩ = some (.slice none 0 0) := (blk_cell BK568.out 0).trans rfl
                          have hfz141_0 := blk_frozen BK568.out 0
                          have hnb142 := NB540_531.out
                          have hnc142 := NB531_540.out
                          have hnb143 := NB540_544.out
                          have hnc143 := NB544_540.out
                          have hnb144 := NB540_549.out
                          have hnc144 := NB549_540.out
                          have hcz145_0 : w118.cell? ⟨gb540, 0, none⟩ = some (.slice Ao21 t536.length co21) := (blk_cell BK540.out 0).trans rfl
                          have hfz145_0 := blk_frozen BK540.out 0
                          go_wp2_with (first | ((with_reducible refine gate_callee (f := 21) rfl ?_); refine goesL_ (some 86) rfl rfl Try.func21 (by kernel_rfl) rfl #[.agg #[.slice Ao119 t564.length co119], .agg #[.slice Ao21 t536.length co21]] rfl (by (try simp only [List.map_toArray, List.map_cons, List.map_nil]); first | done | rfl | (simp only [List.length_drop, List.length_take]; rfl)) ?_; (with_reducible refine (laws_eqFew.calls kj60 _ _ t564 _ _ t536 false _ ?side1 ?side2 ?side3 ?side4 A125.out).mono ?_); (case side1 => refine (Kd.R_reads' (e := 3) (base := w.heap.size) (ok := fun k_ => ((((True ∧ some k_ ≠ (.slice Ao21 t536.length co21 : Value).ownBlock) ∧ some k_ ≠ (.slice Ao27 t556.length co27 : Value).ownBlock) ∧ some k_ ≠ (.slice Ao33 t545.length co33 : Value).ownBlock) ∧ some k_ ≠ (.slice Ao116 t561.length co116 : Value).ownBlock)) (n := t564.length) (c := co119) ?_).2.2; exact (by (with_reducible repeat (first | apply Kd.R_alloc | apply Kd.R_drewN | apply Kd.R_drew)); exact (Kd.R_mono (Kd.R_far (p := ⟨gb568, 0, none⟩) (Kd.R_types HO566.out BK568.out (by decide)) (fun _ hk => hk.2) (.slice Ao119 t564.length co119)) (fun _ h_ => h_.1)))); (case side2 => exact (Kd.R_reads' HO566.out).2.1); (case side3 => refine (Kd.R_reads' (e := 3) (base := w.heap.size) (ok := fun k_ => (((some k_ ≠ (.slice Ao27 t556.length co27 : Value).ownBlock ∧ some k_ ≠ (.slice Ao33 t545.length co33 : Value).ownBlock) ∧ some k_ ≠ (.slice Ao116 t561.length co116 : Value).ownBlock) ∧ some k_ ≠ (.slice Ao119 t564.length co119 : Value).ownBlock)) (n := t536.length) (c := co21) ?_).2.2; exact (by (with_reducible repeat (first | apply Kd.R_alloc | apply Kd.R_drewN | apply Kd.R_drew)); exact (Kd.R_mono (Kd.R_far (p := ⟨gb568, 0, none⟩) (Kd.R_types HO_541000.out BK568.out (by decide)) (fun _ hk => hk.2) (.slice Ao119 t564.length co119)) (fun _ h_ => h_.1)))); (case side4 => exact (Kd.R_reads' HO_541000.out).2.1); rintro e w146 ⟨rfl, hb⟩; refine ⟨_, rfl, ?_⟩; have n0_ := Aside0.mk (Kd.R_below (by (with_reducible repeat (first | apply Kd.R_alloc | apply Kd.R_drewN | apply Kd.R_drew)); exact (Kd.R_mono (Kd.R_far (p := ⟨gb568, 0, none⟩) (Kd.R_types HO_541000.out BK568.out (by decide)) (fun _ hk => hk.2) (.slice Ao119 t564.length co119)) (fun _ h_ => h_.1))) hb); have n1_ := Aside0.mk (Kd.R_below (by (with_reducible repeat (first | apply Kd.R_alloc | apply Kd.R_drewN | apply Kd.R_drew)); exact (Kd.R_mono (Kd.R_far (p := ⟨gb568, 0, none⟩) (Kd.R_types HO_545000.out BK568.out (by decide)) (fun _ hk => hk.2) (.slice Ao119 t564.length co119)) (fun _ h_ => h_.1))) hb); have n2_ := Aside0.mk (Kd.R_below (by (with_reducible repeat (first | apply Kd.R_alloc | apply Kd.R_drewN | apply Kd.R_drew)); exact (Kd.R_mono (Kd.R_far (p := ⟨gb568, 0, none⟩) (Kd.R_types HO_550000.out BK568.out (by decide)) (fun _ hk => hk.2) (.slice Ao119 t564.length co119)) (fun _ h_ => h_.1))) hb); have n3_ := Aside0.mk (Kd.R_below (by (with_reducible repeat (first | apply Kd.R_alloc | apply Kd.R_drewN | apply Kd.R_drew)); exact (Kd.R_mono (Kd.R_far (p := ⟨gb568, 0, none⟩) (Kd.R_types HO563.out BK568.out (by decide)) (fun _ hk => hk.2) (.slice Ao119 t564.length co119)) (fun _ h_ => h_.1))) hb); have n4_ := Aside0.mk (Kd.R_below (by (with_reducible repeat (first | apply Kd.R_alloc | apply Kd.R_drewN | apply Kd.R_drew)); exact (Kd.R_mono (Kd.R_far (p := ⟨gb568, 0, none⟩) (Kd.R_types HO566.out BK568.out (by decide)) (fun _ hk => hk.2) (.slice Ao119 t564.length co119)) (fun _ h_ => h_.1))) hb); have n5_ := Aside0.mk (blk_below (g := gb531) (o := .cells #[.slice A0_0 l0_0.length c0_0] 37 (0, 0)) (by (with_reducible repeat (first | refine blk_drewN ?_ _ | refine blk_drew ?_ | refine blk_alloc ?_ _)); refine blk_far ?_ NB531_568.out _; (with_reducible repeat (first | refine blk_drewN ?_ _ | refine blk_drew ?_ | refine blk_alloc ?_ _)); exact BK531.out) hb); have n6_ := Aside0.mk (blk_below (g := gb540) (o := .cells #[.slice Ao21 t536.length co21] 25 (0, 0)) (by (with_reducible repeat (first | refine blk_drewN ?_ _ | refine blk_drew ?_ | refine blk_alloc ?_ _)); refine blk_far ?_ NB540_568.out _; (with_reducible repeat (first | refine blk_drewN ?_ _ | refine blk_drew ?_ | refine blk_alloc ?_ _)); exact BK540.out) hb); have n7_ := Aside0.mk (blk_below (g := gb544) (o := .cells #[.slice Ao27 t556.length co27] 25 (0, 0)) (by (with_reducible repeat (first | refine blk_drewN ?_ _ | refine blk_drew ?_ | refine blk_alloc ?_ _)); refine blk_far ?_ NB544_568.out _; (with_reducible repeat (first | refine blk_drewN ?_ _ | refine blk_drew ?_ | refine blk_alloc ?_ _)); exact BK544.out) hb); have n8_ := Aside0.mk (blk_below (g := gb549) (o := .cells #[.slice Ao33 t545.length co33] 25 (0, 0)) (by (with_reducible repeat (first | refine blk_drewN ?_ _ | refine blk_drew ?_ | refine blk_alloc ?_ _)); refine blk_far ?_ NB549_568.out _; (with_reducible repeat (first | refine blk_drewN ?_ _ | refine blk_drew ?_ | refine blk_alloc ?_ _)); exact BK549.out) hb); have n9_ := Aside0.mk (blk_below (g := gb568) (o := .cells #[.slice Ao119 t564.length co119] 25 (0, 0)) (by (with_reducible repeat (first | refine blk_drewN ?_ _ | refine blk_drew ?_ | refine blk_alloc ?_ _)); refine blk_put (cs := #[.slice none 0 0]) ?_ 0 _ rfl; (with_reducible repeat (first | refine blk_drewN ?_ _ | refine blk_drew ?_ | refine blk_alloc ?_ _)); exact BK568.out) hb); have n10_ := Aside0.mk (below_step (by repeat (first | (with_reducible first | exact HB.out | apply below_alloc | apply pw_below_drewN | apply below_drew1 | refine below_set ?_ GE531.out | refine below_set ?_ GE540.out | refine below_set ?_ GE544.out | refine below_set ?_ GE549.out | refine below_set ?_ GE568.out) | exact HB.out)) hb); clear HO_541000; clear HO_545000; clear HO_550000; clear HO563; clear HO566; clear BK531; clear BK540; clear BK544; clear BK549; clear BK568; clear HB; have HO_541000 := n0_; have HO_545000 := n1_; have HO_550000 := n2_; have HO563 := n3_; have HO566 := n4_; have BK531 := n5_; have BK540 := n6_; have BK544 := n7_; have BK549 := n8_; have BK568 := n9_; have HB := n10_; clear n0_ n1_ n2_ n3_ n4_ n5_ n6_ n7_ n8_ n9_ n10_; (try clear hb); (try clear hb2); (try clear hk); (try clear hi)))
                          go_meet
                          case rel => exact ⟨_, (true), (by first | rfl | (simp; done) | (simp [*]; done)), H', ⟨by have := HJ11.out; have := HJ60.out; first | omega | exact Nat.le_refl _⟩, ⟨by (try simp only [hl545000_60]); (with_reducible repeat (first | apply Kd.R_alloc | apply Kd.R_drewN | apply Kd.R_drew)); exact Kd.R_mono HO_541000.out (fun _ hk => ⟨hk.1.1.1, ⟨hk.1.1.2, hk.2⟩⟩)⟩, ⟨by (try simp only [hl545000_60]); (with_reducible repeat (first | apply Kd.R_alloc | apply Kd.R_drewN | apply Kd.R_drew)); exact Kd.R_mono HO_545000.out (fun _ hk => ⟨hk.1.1.1, ⟨hk.1.1.2, hk.2⟩⟩)⟩, ⟨by (try simp only [hl545000_60]); (with_reducible repeat (first | apply Kd.R_alloc | apply Kd.R_drewN | apply Kd.R_drew)); exact Kd.R_mono HO_550000.out (fun _ hk => ⟨hk.1.1.1, ⟨hk.1.1.2, hk.2⟩⟩)⟩, ⟨by (try simp only [hl545000_60]); (with_reducible repeat (first | apply Kd.R_alloc | apply Kd.R_drewN | apply Kd.R_drew)); exact Kd.R_mono HO566.out (fun _ hk => ⟨hk.1.1.1.2, ⟨hk.1.1.2, hk.1.2⟩⟩)⟩, ⟨by (try simp only [hl545000_60]); (with_reducible repeat (first | refine blk_drewN ?_ _ | refine blk_drew ?_ | refine blk_alloc ?_ _)); exact BK531.out⟩, ⟨by (try simp only [hl545000_60]); (with_reducible repeat (first | refine blk_drewN ?_ _ | refine blk_drew ?_ | refine blk_alloc ?_ _)); exact BK540.out⟩, ⟨by (try simp only [hl545000_60]); (with_reducible repeat (first | refine blk_drewN ?_ _ | refine blk_drew ?_ | refine blk_alloc ?_ _)); exact BK544.out⟩, ⟨by (try simp only [hl545000_60]); (with_reducible repeat (first | refine blk_drewN ?_ _ | refine blk_drew ?_ | refine blk_alloc ?_ _)); exact BK549.out⟩, ⟨by (try simp only [hl545000_60]); (with_reducible repeat (first | refine blk_drewN ?_ _ | refine blk_drew ?_ | refine blk_alloc ?_ _)); exact BK568.out⟩, ⟨by repeat (first | (with_reducible first | exact HB.out | apply below_alloc | apply pw_below_drewN | apply below_drew1 | refine below_set ?_ GE531.out | refine below_set ?_ GE540.out | refine below_set ?_ GE544.out | refine below_set ?_ GE549.out | refine below_set ?_ GE568.out) | exact HB.out)⟩⟩
                      case rest =>
                        clear HC104
                        try clear c1
                        try clear c2
                        try clear p2
                        try clear c3
                        try clear c4
                        try clear c4b0
                        try clear c5
                        try clear c6
                        try clear c7
                        try clear c8
                        try clear c9
                        try clear c10
                        try clear c11
                        try clear c12
                        try clear c13
                        try clear c14
                        try clear c17
                        try clear c18
                        try clear c19
                        try clear c20
                        try clear c21
                        try clear c22
                        try clear c23
                        try clear c28
                        try clear c29
                        try clear c34
                        try clear c35
                        try clear c36
                        try clear c39
                        try clear c40
                        try clear c41
                        try clear c42
                        try clear c44
                        try clear c45
                        try clear c48
                        try clear c49
                        try clear c50
                        try clear c52
                        try clear c53
                        try clear c56
                        try clear c59
                        try clear c66
                        try clear c67
                        try clear c68
                        try clear c71
                        try clear c71b0
                        try clear c73
                        try clear c74
                        try clear c75
                        try clear c76
                        try clear c78
                        try clear c79
                        try clear c82
                        try clear c83
                        try clear c84
                        try clear c86
                        try clear c87
                        try clear c90
                        try clear c93
                        try clear c93b0
                        try clear c94
                        try clear c95
                        try clear c96
                        try clear c101
                        try clear c101b0
                        try clear c101b1
                        try clear c105
                        try clear c106
                        try clear c107
                        try clear c112
                        try clear c113
                        try clear c120
                        try clear c121
                        try clear c122
                        try clear c123
                        try clear c126
                        try clear c127
                        try clear c128
                        try clear c129
                        try clear c130
                        try clear c132
                        try clear c133
                        try clear c134
                        try clear c137
                        try clear c138
                        try clear c139
                        try clear c140
                        try clear c142
                        try clear c143
                        try clear c144
                        try clear hcz108_0
                        try clear hcz110_0
                        try clear hcz114_0
                        try clear hcz124_0
                        try clear hcz131_0
                        try clear hcz135_0
                        try clear hcz141_0
                        try clear hcz145_0
                        try clear hcz14_0
                        try clear hcz16_0
                        try clear hcz23_0
                        try clear hcz24_0
                        try clear hcz30_0
                        try clear hcz37_0
                        try clear hcz43_0
                        try clear hcz46_0
                        try clear hcz51_0
                        try clear hcz54_0
                        try clear hcz69_0
                        try clear hcz6_0
                        try clear hcz77_0
                        try clear hcz80_0
                        try clear hcz85_0
                        try clear hcz88_0
                        try clear hcz97_0
                        try clear hcz99_0
                        try clear hfz108_0
                        try clear hfz110_0
                        try clear hfz114_0
                        try clear hfz124_0
                        try clear hfz131_0
                        try clear hfz135_0
                        try clear hfz141_0
                        try clear hfz145_0
                        try clear hfz14_0
                        try clear hfz16_0
                        try clear hfz23_0
                        try clear hfz24_0
                        try clear hfz30_0
                        try clear hfz37_0
                        try clear hfz43_0
                        try clear hfz46_0
                        try clear hfz51_0
                        try clear hfz54_0
                        try clear hfz69_0
                        try clear hfz6_0
                        try clear hfz77_0
                        try clear hfz80_0
                        try clear hfz85_0
                        try clear hfz88_0
                        try clear hfz97_0
                        try clear hfz99_0
                        try clear p2
                        obtain ⟨kq, x92_103, rfl, HA, HJ103, HO_541000, HO_545000, HO_550000, HO_569000, BK531, BK540, BK544, BK549, BK568, HB⟩ := hcut
                        have hl550000_103 := (Kd.R_reads' HO_550000.out).1
                        rw [hl550000_103] at HO_550000
                        (try simp only [hl550000_103])
                        (try simp only [hl550000_103] at BK531)
                        (try simp only [hl550000_103] at BK540)
                        (try simp only [hl550000_103] at BK544)
                        (try simp only [hl550000_103] at BK549)
                        (try simp only [hl550000_103] at BK568)
                        (try simp only [hl550000_103] at HO_541000)
                        (try simp only [hl550000_103] at HO_545000)
                        (try simp only [hl550000_103] at HO_569000)
                        cases kq with
                        | zero => exact absurd HA.out (by simp [laws_FnExactFewAdd.j2])
                        | succ kj103 =>
                          have H := HA.out
                          clear HA
                          simp only [laws_FnExactFewAdd.j2] at H
                          by_cases c147 : x92_103 = true
                          · subst c147
                            have H1 : (some false) = some r := by rw [if_pos rfl] at H; exact H
                            clear H
                            have H := H1
                            clear H1
                            obtain rfl := Option.some.inj H
                            go_wp2
                            go_ret
                            exact ⟨by first | rfl | (simp [errW_none, errW_some] <;> rfl) | (simp [*, errW_none, errW_some] <;> rfl), by repeat (first | (with_reducible first | exact HB.out | apply below_alloc | apply pw_below_drewN | apply below_drew1 | refine below_set ?_ GE531.out | refine below_set ?_ GE540.out | refine below_set ?_ GE544.out | refine below_set ?_ GE549.out | refine below_set ?_ GE568.out) | exact HB.out)⟩
                          · replace c147 := Bool.eq_false_iff.mpr c147
                            subst c147
                            have H1 : ((laws_heldFew.f kj103 t559 1).bind fun t570 => (if t570 < 0 then (some false) else (if t570 = t558 then (some true) else (some false)))) = some r := by rw [if_neg (show ¬ (false = true) by decide)] at H; exact H
                            clear H
                            have H := H1
                            clear H1
                            replace H := Option.bind_eq_some_iff.mp H
                            obtain ⟨t570, A1480, H⟩ := H
                            replace H : (if t570 < 0 then (some false) else (if t570 = t558 then (some true) else (some false))) = some r := H
                            have A148 := Aside0.mk A1480
                            clear A1480
                            by_cases c149 : t570 < 0
                            · rw [if_pos c149] at H
                              have c149b0 : decide (t570 < 0) = true := decide_eq_true c149
                              clear c149
                              obtain rfl := Option.some.inj H
                              have hnb150 := NB549_531.out
                              have hnc150 := NB531_549.out
                              have hnb151 := NB549_540.out
                              have hnc151 := NB540_549.out
                              have hnb152 := NB549_544.out
                              have hnc152 := NB544_549.out
                              have hnb153 := NB549_568.out
                              have hnc153 := NB568_549.out
                              have hcz154_0 : wc.cell? ⟨gb549, 0, none⟩ = some (.slice Ao33 t559.length co33) := (blk_cell BK549.out 0).trans rfl
                              have hfz154_0 := blk_frozen BK549.out 0
                              go_wp2_with (first | ((with_reducible refine gate_callee (f := 23) rfl ?_); refine goesL_ (some 95) rfl rfl Try.func23 (by kernel_rfl) rfl #[.agg #[.slice Ao33 t559.length co33], .int .i64 1] rfl (by (try simp only [List.map_toArray, List.map_cons, List.map_nil]); first | done | rfl | (simp only [List.length_drop, List.length_take]; rfl)) ?_; (with_reducible refine (laws_heldFew.calls kj103 _ _ t559 1 t570 _ ?side1 ?side2 A148.out).mono ?_); (case side1 => repeat (first | exact (Kd.R_reads' HO_550000.out).2.2 | (with_reducible refine Kd.C_alloc ?_ _) | (with_reducible refine Kd.C_drewN ?_ _) | (with_reducible refine Kd.C_drew ?_))); (case side2 => exact (Kd.R_reads' HO_550000.out).2.1); rintro e w155 ⟨rfl, hb⟩; refine ⟨_, rfl, ?_⟩; have n0_ := Aside0.mk (Kd.R_below (by (with_reducible repeat (first | apply Kd.R_alloc | apply Kd.R_drewN | apply Kd.R_drew)); exact HO_541000.out) hb); have n1_ := Aside0.mk (Kd.R_below (by (with_reducible repeat (first | apply Kd.R_alloc | apply Kd.R_drewN | apply Kd.R_drew)); exact HO_545000.out) hb); have n2_ := Aside0.mk (Kd.R_below (by (with_reducible repeat (first | apply Kd.R_alloc | apply Kd.R_drewN | apply Kd.R_drew)); exact HO_550000.out) hb); have n3_ := Aside0.mk (Kd.R_below (by (with_reducible repeat (first | apply Kd.R_alloc | apply Kd.R_drewN | apply Kd.R_drew)); exact HO_569000.out) hb); have n4_ := Aside0.mk (blk_below (g := gb531) (o := .cells #[.slice A0_0 l0_0.length c0_0] 37 (0, 0)) (by (with_reducible repeat (first | refine blk_drewN ?_ _ | refine blk_drew ?_ | refine blk_alloc ?_ _)); exact BK531.out) hb); have n5_ := Aside0.mk (blk_below (g := gb540) (o := .cells #[.slice Ao21 t536.length co21] 25 (0, 0)) (by (with_reducible repeat (first | refine blk_drewN ?_ _ | refine blk_drew ?_ | refine blk_alloc ?_ _)); exact BK540.out) hb); have n6_ := Aside0.mk (blk_below (g := gb544) (o := .cells #[.slice Ao27 t556.length co27] 25 (0, 0)) (by (with_reducible repeat (first | refine blk_drewN ?_ _ | refine blk_drew ?_ | refine blk_alloc ?_ _)); exact BK544.out) hb); have n7_ := Aside0.mk (blk_below (g := gb549) (o := .cells #[.slice Ao33 t559.length co33] 25 (0, 0)) (by (with_reducible repeat (first | refine blk_drewN ?_ _ | refine blk_drew ?_ | refine blk_alloc ?_ _)); exact BK549.out) hb); have n8_ := Aside0.mk (blk_below (g := gb568) (o := .cells #[.slice Ao119 t564.length co119] 25 (0, 0)) (by (with_reducible repeat (first | refine blk_drewN ?_ _ | refine blk_drew ?_ | refine blk_alloc ?_ _)); exact BK568.out) hb); have n9_ := Aside0.mk (below_step (by repeat (first | (with_reducible first | exact HB.out | apply below_alloc | apply pw_below_drewN | apply below_drew1 | refine below_set ?_ GE531.out | refine below_set ?_ GE540.out | refine below_set ?_ GE544.out | refine below_set ?_ GE549.out | refine below_set ?_ GE568.out) | exact HB.out)) hb); clear HO_541000; clear HO_545000; clear HO_550000; clear HO_569000; clear BK531; clear BK540; clear BK544; clear BK549; clear BK568; clear HB; have HO_541000 := n0_; have HO_545000 := n1_; have HO_550000 := n2_; have HO_569000 := n3_; have BK531 := n4_; have BK540 := n5_; have BK544 := n6_; have BK549 := n7_; have BK568 := n8_; have HB := n9_; clear n0_ n1_ n2_ n3_ n4_ n5_ n6_ n7_ n8_ n9_; (try clear hb); (try clear hb2); (try clear hk); (try clear hi)))
                              go_ret
                              exact ⟨by first | rfl | (simp [errW_none, errW_some] <;> rfl) | (simp [*, errW_none, errW_some] <;> rfl), by repeat (first | (with_reducible first | exact HB.out | apply below_alloc | apply pw_below_drewN | apply below_drew1 | refine below_set ?_ GE531.out | refine below_set ?_ GE540.out | refine below_set ?_ GE544.out | refine below_set ?_ GE549.out | refine below_set ?_ GE568.out) | exact HB.out)⟩
                            · rw [if_neg c149] at H
                              have c149b0 : decide (t570 < 0) = false := decide_eq_false c149
                              clear c149
                              by_cases c156 : t570 = t558
                              · rw [if_pos c156] at H
                                have c156b0 : (t570 == t558) = true := beq_iff_eq.mpr c156
                                have c156b1 : (t570 != t558) = false := bne_eq_false_iff_eq.mpr c156
                                clear c156
                                obtain rfl := Option.some.inj H
                                have hnb157 := NB549_531.out
                                have hnc157 := NB531_549.out
                                have hnb158 := NB549_540.out
                                have hnc158 := NB540_549.out
                                have hnb159 := NB549_544.out
                                have hnc159 := NB544_549.out
                                have hnb160 := NB549_568.out
                                have hnc160 := NB568_549.out
                                have hcz161_0 : wc.cell? ⟨gb549, 0, none⟩ = some (.slice Ao33 t559.length co33) := (blk_cell BK549.out 0).trans rfl
                                have hfz161_0 := blk_frozen BK549.out 0
                                go_wp2_with (first | ((with_reducible refine gate_callee (f := 23) rfl ?_); refine goesL_ (some 95) rfl rfl Try.func23 (by kernel_rfl) rfl #[.agg #[.slice Ao33 t559.length co33], .int .i64 1] rfl (by (try simp only [List.map_toArray, List.map_cons, List.map_nil]); first | done | rfl | (simp only [List.length_drop, List.length_take]; rfl)) ?_; (with_reducible refine (laws_heldFew.calls kj103 _ _ t559 1 t570 _ ?side1 ?side2 A148.out).mono ?_); (case side1 => repeat (first | exact (Kd.R_reads' HO_550000.out).2.2 | (with_reducible refine Kd.C_alloc ?_ _) | (with_reducible refine Kd.C_drewN ?_ _) | (with_reducible refine Kd.C_drew ?_))); (case side2 => exact (Kd.R_reads' HO_550000.out).2.1); rintro e w162 ⟨rfl, hb⟩; refine ⟨_, rfl, ?_⟩; have n0_ := Aside0.mk (Kd.R_below (by (with_reducible repeat (first | apply Kd.R_alloc | apply Kd.R_drewN | apply Kd.R_drew)); exact HO_541000.out) hb); have n1_ := Aside0.mk (Kd.R_below (by (with_reducible repeat (first | apply Kd.R_alloc | apply Kd.R_drewN | apply Kd.R_drew)); exact HO_545000.out) hb); have n2_ := Aside0.mk (Kd.R_below (by (with_reducible repeat (first | apply Kd.R_alloc | apply Kd.R_drewN | apply Kd.R_drew)); exact HO_550000.out) hb); have n3_ := Aside0.mk (Kd.R_below (by (with_reducible repeat (first | apply Kd.R_alloc | apply Kd.R_drewN | apply Kd.R_drew)); exact HO_569000.out) hb); have n4_ := Aside0.mk (blk_below (g := gb531) (o := .cells #[.slice A0_0 l0_0.length c0_0] 37 (0, 0)) (by (with_reducible repeat (first | refine blk_drewN ?_ _ | refine blk_drew ?_ | refine blk_alloc ?_ _)); exact BK531.out) hb); have n5_ := Aside0.mk (blk_below (g := gb540) (o := .cells #[.slice Ao21 t536.length co21] 25 (0, 0)) (by (with_reducible repeat (first | refine blk_drewN ?_ _ | refine blk_drew ?_ | refine blk_alloc ?_ _)); exact BK540.out) hb); have n6_ := Aside0.mk (blk_below (g := gb544) (o := .cells #[.slice Ao27 t556.length co27] 25 (0, 0)) (by (with_reducible repeat (first | refine blk_drewN ?_ _ | refine blk_drew ?_ | refine blk_alloc ?_ _)); exact BK544.out) hb); have n7_ := Aside0.mk (blk_below (g := gb549) (o := .cells #[.slice Ao33 t559.length co33] 25 (0, 0)) (by (with_reducible repeat (first | refine blk_drewN ?_ _ | refine blk_drew ?_ | refine blk_alloc ?_ _)); exact BK549.out) hb); have n8_ := Aside0.mk (blk_below (g := gb568) (o := .cells #[.slice Ao119 t564.length co119] 25 (0, 0)) (by (with_reducible repeat (first | refine blk_drewN ?_ _ | refine blk_drew ?_ | refine blk_alloc ?_ _)); exact BK568.out) hb); have n9_ := Aside0.mk (below_step (by repeat (first | (with_reducible first | exact HB.out | apply below_alloc | apply pw_below_drewN | apply below_drew1 | refine below_set ?_ GE531.out | refine below_set ?_ GE540.out | refine below_set ?_ GE544.out | refine below_set ?_ GE549.out | refine below_set ?_ GE568.out) | exact HB.out)) hb); clear HO_541000; clear HO_545000; clear HO_550000; clear HO_569000; clear BK531; clear BK540; clear BK544; clear BK549; clear BK568; clear HB; have HO_541000 := n0_; have HO_545000 := n1_; have HO_550000 := n2_; have HO_569000 := n3_; have BK531 := n4_; have BK540 := n5_; have BK544 := n6_; have BK549 := n7_; have BK568 := n8_; have HB := n9_; clear n0_ n1_ n2_ n3_ n4_ n5_ n6_ n7_ n8_ n9_; (try clear hb); (try clear hb2); (try clear hk); (try clear hi)))
                                go_ret
                                exact ⟨by first | rfl | (simp [errW_none, errW_some] <;> rfl) | (simp [*, errW_none, errW_some] <;> rfl), by repeat (first | (with_reducible first | exact HB.out | apply below_alloc | apply pw_below_drewN | apply below_drew1 | refine below_set ?_ GE531.out | refine below_set ?_ GE540.out | refine below_set ?_ GE544.out | refine below_set ?_ GE549.out | refine below_set ?_ GE568.out) | exact HB.out)⟩
                              · rw [if_neg c156] at H
                                have c156b0 : (t570 == t558) = false := beq_eq_false_iff_ne.mpr c156
                                have c156b1 : (t570 != t558) = true := bne_iff_ne.mpr c156
                                obtain rfl := Option.some.inj H
                                have hnb163 := NB549_531.out
                                have hnc163 := NB531_549.out
                                have hnb164 := NB549_540.out
                                have hnc164 := NB540_549.out
                                have hnb165 := NB549_544.out
                                have hnc165 := NB544_549.out
                                have hnb166 := NB549_568.out
                                have hnc166 := NB568_549.out
                                have hcz167_0 : wc.cell? ⟨gb549, 0, none⟩ = some (.slice Ao33 t559.length co33) := (blk_cell BK549.out 0).trans rfl
                                have hfz167_0 := blk_frozen BK549.out 0
                                go_wp2_with (first | ((with_reducible refine gate_callee (f := 23) rfl ?_); refine goesL_ (some 95) rfl rfl Try.func23 (by kernel_rfl) rfl #[.agg #[.slice Ao33 t559.length co33], .int .i64 1] rfl (by (try simp only [List.map_toArray, List.map_cons, List.map_nil]); first | done | rfl | (simp only [List.length_drop, List.length_take]; rfl)) ?_; (with_reducible refine (laws_heldFew.calls kj103 _ _ t559 1 t570 _ ?side1 ?side2 A148.out).mono ?_); (case side1 => repeat (first | exact (Kd.R_reads' HO_550000.out).2.2 | (with_reducible refine Kd.C_alloc ?_ _) | (with_reducible refine Kd.C_drewN ?_ _) | (with_reducible refine Kd.C_drew ?_))); (case side2 => exact (Kd.R_reads' HO_550000.out).2.1); rintro e w168 ⟨rfl, hb⟩; refine ⟨_, rfl, ?_⟩; have n0_ := Aside0.mk (Kd.R_below (by (with_reducible repeat (first | apply Kd.R_alloc | apply Kd.R_drewN | apply Kd.R_drew)); exact HO_541000.out) hb); have n1_ := Aside0.mk (Kd.R_below (by (with_reducible repeat (first | apply Kd.R_alloc | apply Kd.R_drewN | apply Kd.R_drew)); exact HO_545000.out) hb); have n2_ := Aside0.mk (Kd.R_below (by (with_reducible repeat (first | apply Kd.R_alloc | apply Kd.R_drewN | apply Kd.R_drew)); exact HO_550000.out) hb); have n3_ := Aside0.mk (Kd.R_below (by (with_reducible repeat (first | apply Kd.R_alloc | apply Kd.R_drewN | apply Kd.R_drew)); exact HO_569000.out) hb); have n4_ := Aside0.mk (blk_below (g := gb531) (o := .cells #[.slice A0_0 l0_0.length c0_0] 37 (0, 0)) (by (with_reducible repeat (first | refine blk_drewN ?_ _ | refine blk_drew ?_ | refine blk_alloc ?_ _)); exact BK531.out) hb); have n5_ := Aside0.mk (blk_below (g := gb540) (o := .cells #[.slice Ao21 t536.length co21] 25 (0, 0)) (by (with_reducible repeat (first | refine blk_drewN ?_ _ | refine blk_drew ?_ | refine blk_alloc ?_ _)); exact BK540.out) hb); have n6_ := Aside0.mk (blk_below (g := gb544) (o := .cells #[.slice Ao27 t556.length co27] 25 (0, 0)) (by (with_reducible repeat (first | refine blk_drewN ?_ _ | refine blk_drew ?_ | refine blk_alloc ?_ _)); exact BK544.out) hb); have n7_ := Aside0.mk (blk_below (g := gb549) (o := .cells #[.slice Ao33 t559.length co33] 25 (0, 0)) (by (with_reducible repeat (first | refine blk_drewN ?_ _ | refine blk_drew ?_ | refine blk_alloc ?_ _)); exact BK549.out) hb); have n8_ := Aside0.mk (blk_below (g := gb568) (o := .cells #[.slice Ao119 t564.length co119] 25 (0, 0)) (by (with_reducible repeat (first | refine blk_drewN ?_ _ | refine blk_drew ?_ | refine blk_alloc ?_ _)); exact BK568.out) hb); have n9_ := Aside0.mk (below_step (by repeat (first | (with_reducible first | exact HB.out | apply below_alloc | apply pw_below_drewN | apply below_drew1 | refine below_set ?_ GE531.out | refine below_set ?_ GE540.out | refine below_set ?_ GE544.out | refine below_set ?_ GE549.out | refine below_set ?_ GE568.out) | exact HB.out)) hb); clear HO_541000; clear HO_545000; clear HO_550000; clear HO_569000; clear BK531; clear BK540; clear BK544; clear BK549; clear BK568; clear HB; have HO_541000 := n0_; have HO_545000 := n1_; have HO_550000 := n2_; have HO_569000 := n3_; have BK531 := n4_; have BK540 := n5_; have BK544 := n6_; have BK549 := n7_; have BK568 := n8_; have HB := n9_; clear n0_ n1_ n2_ n3_ n4_ n5_ n6_ n7_ n8_ n9_; (try clear hb); (try clear hb2); (try clear hk); (try clear hi)))
                                go_ret
                                exact ⟨by first | rfl | (simp [errW_none, errW_some] <;> rfl) | (simp [*, errW_none, errW_some] <;> rfl), by repeat (first | (with_reducible first | exact HB.out | apply below_alloc | apply pw_below_drewN | apply below_drew1 | refine below_set ?_ GE531.out | refine below_set ?_ GE540.out | refine below_set ?_ GE544.out | refine below_set ?_ GE549.out | refine below_set ?_ GE568.out) | exact HB.out)⟩
                    · rw [if_neg c101] at H
                      have c101b0 : (t560 == t558) = false := beq_eq_false_iff_ne.mpr c101
                      have c101b1 : (t560 != t558) = true := bne_iff_ne.mpr c101
                      obtain rfl := Option.some.inj H
                      have hnb169 := NB549_531.out
                      have hnc169 := NB531_549.out
                      have hnb170 := NB549_540.out
                      have hnc170 := NB540_549.out
                      have hnb171 := NB549_544.out
                      have hnc171 := NB544_549.out
                      have hcz172_0 : wc.cell? ⟨gb549, 0, none⟩ = some (.slice Ao33 t545.length co33) := (blk_cell BK549.out 0).trans rfl
                      have hfz172_0 := blk_frozen BK549.out 0
                      go_wp2_with (first | ((with_reducible refine gate_callee (f := 22) rfl ?_); refine goesL_ (some 68) rfl rfl Try.func22 (by kernel_rfl) rfl #[.agg #[.slice Ao33 t545.length co33], .int .i64 1] rfl (by (try simp only [List.map_toArray, List.map_cons, List.map_nil]); first | done | rfl | (simp only [List.length_drop, List.length_take]; rfl)) ?_; (with_reducible refine (laws_markFew.calls kj60 (fun k_ => some k_ = (.slice Ao33 t545.length co33 : Value).ownBlock) (.slice Ao33 t545.length co33) t545 1 t558 t559 w _ ?side1 ?side2 A91.out).mono ?_); (case side1 => repeat (first | (with_reducible first | exact HB.out | apply below_alloc | apply pw_below_drewN | apply below_drew1 | refine below_set ?_ GE531.out | refine below_set ?_ GE540.out | refine below_set ?_ GE544.out | refine below_set ?_ GE549.out) | exact HB.out)); (case side2 => exact Kd.R_tight rfl HO_550000.out); rintro e w173 ⟨rfl, hy0, hb, hkp⟩; refine ⟨_, rfl, ?_⟩; have n0_ := Aside0.mk (Kd.R_mono (ok' := fun k_ => some k_ ≠ (.slice Ao27 t556.length co27 : Value).ownBlock ∧ some k_ ≠ (.slice Ao33 t545.length co33 : Value).ownBlock) (Kd.R_keptB (HO_541000.out) hkp (fun k_ hk_ hs_ => (hk_.2) hs_)) (fun k_ hk_ => ⟨hk_.1.1, hk_.1.2⟩)); have n1_ := Aside0.mk (Kd.R_mono (ok' := fun k_ => some k_ ≠ (.slice Ao21 t536.length co21 : Value).ownBlock ∧ some k_ ≠ (.slice Ao33 t545.length co33 : Value).ownBlock) (Kd.R_keptB (HO_545000.out) hkp (fun k_ hk_ hs_ => (hk_.2) hs_)) (fun k_ hk_ => ⟨hk_.1.1, hk_.1.2⟩)); have n2_ := Aside0.mk (Kd.R_reok rfl hy0 (fun k_ e_ => HO_550000.out.1 k_ e_)); have n3_ := Aside0.mk (blk_kept (by (with_reducible repeat (first | refine blk_drewN ?_ _ | refine blk_drew ?_ | refine blk_alloc ?_ _)); exact BK531.out) hkp (fun hs_ => (fun e_ => (Kd.R_ne HO_550000.out BK531.out (by decide)) e_) hs_)); have n4_ := Aside0.mk (blk_kept (by (with_reducible repeat (first | refine blk_drewN ?_ _ | refine blk_drew ?_ | refine blk_alloc ?_ _)); exact BK540.out) hkp (fun hs_ => (fun e_ => (Kd.R_ne HO_550000.out BK540.out (by decide)) e_) hs_)); have n5_ := Aside0.mk (blk_kept (by (with_reducible repeat (first | refine blk_drewN ?_ _ | refine blk_drew ?_ | refine blk_alloc ?_ _)); exact BK544.out) hkp (fun hs_ => (fun e_ => (Kd.R_ne HO_550000.out BK544.out (by decide)) e_) hs_)); have n6_ := Aside0.mk (blk_kept (by (with_reducible repeat (first | refine blk_drewN ?_ _ | refine blk_drew ?_ | refine blk_alloc ?_ _)); exact BK549.out) hkp (fun hs_ => (fun e_ => (Kd.R_ne HO_550000.out BK549.out (by decide)) e_) hs_)); have n7_ := Aside0.mk (hb); clear HO_541000; clear HO_545000; clear HO_550000; clear BK531; clear BK540; clear BK544; clear BK549; clear HB; have HO_541000 := n0_; have HO_545000 := n1_; have HO_550000 := n2_; have BK531 := n3_; have BK540 := n4_; have BK544 := n5_; have BK549 := n6_; have HB := n7_; clear n0_ n1_ n2_ n3_ n4_ n5_ n6_ n7_; (try clear hb); (try clear hkp); (try clear hy0); have hcz174_0 : w173.cell? ⟨gb549, 0, none⟩ = some (.slice Ao33 t545.length co33) := (blk_cell BK549.out 0).trans rfl; have hfz174_0 := blk_frozen BK549.out 0) | ((with_reducible refine gate_callee (f := 23) rfl ?_); refine goesL_ (some 71) rfl rfl Try.func23 (by kernel_rfl) rfl #[.agg #[.slice Ao33 t559.length co33], .int .i64 1] rfl (by (try simp only [List.map_toArray, List.map_cons, List.map_nil]); first | done | (rw [show t559.length = t545.length from (Kd.R_reads' HO_550000.out).1.symm] <;> rfl) | rfl | (simp only [List.length_drop, List.length_take]; rfl)) ?_; (with_reducible refine (laws_heldFew.calls kj60 _ _ t559 1 t560 _ ?side1 ?side2 A92.out).mono ?_); (case side1 => repeat (first | exact (Kd.R_reads' HO_550000.out).2.2 | (with_reducible refine Kd.C_alloc ?_ _) | (with_reducible refine Kd.C_drewN ?_ _) | (with_reducible refine Kd.C_drew ?_))); (case side2 => rw [show t559.length = t545.length from (Kd.R_reads' HO_550000.out).1.symm]; exact (Kd.R_reads' HO_550000.out).2.1); rintro e w175 ⟨rfl, hb⟩; refine ⟨_, rfl, ?_⟩; have n0_ := Aside0.mk (Kd.R_below (by (with_reducible repeat (first | apply Kd.R_alloc | apply Kd.R_drewN | apply Kd.R_drew)); exact HO_541000.out) hb); have n1_ := Aside0.mk (Kd.R_below (by (with_reducible repeat (first | apply Kd.R_alloc | apply Kd.R_drewN | apply Kd.R_drew)); exact HO_545000.out) hb); have n2_ := Aside0.mk (Kd.R_below (by (with_reducible repeat (first | apply Kd.R_alloc | apply Kd.R_drewN | apply Kd.R_drew)); exact HO_550000.out) hb); have n3_ := Aside0.mk (blk_below (g := gb531) (o := .cells #[.slice A0_0 l0_0.length c0_0] 37 (0, 0)) (by (with_reducible repeat (first | refine blk_drewN ?_ _ | refine blk_drew ?_ | refine blk_alloc ?_ _)); exact BK531.out) hb); have n4_ := Aside0.mk (blk_below (g := gb540) (o := .cells #[.slice Ao21 t536.length co21] 25 (0, 0)) (by (with_reducible repeat (first | refine blk_drewN ?_ _ | refine blk_drew ?_ | refine blk_alloc ?_ _)); exact BK540.out) hb); have n5_ := Aside0.mk (blk_below (g := gb544) (o := .cells #[.slice Ao27 t556.length co27] 25 (0, 0)) (by (with_reducible repeat (first | refine blk_drewN ?_ _ | refine blk_drew ?_ | refine blk_alloc ?_ _)); exact BK544.out) hb); have n6_ := Aside0.mk (blk_below (g := gb549) (o := .cells #[.slice Ao33 t545.length co33] 25 (0, 0)) (by (with_reducible repeat (first | refine blk_drewN ?_ _ | refine blk_drew ?_ | refine blk_alloc ?_ _)); exact BK549.out) hb); have n7_ := Aside0.mk (below_step (by repeat (first | (with_reducible first | exact HB.out | apply below_alloc | apply pw_below_drewN | apply below_drew1 | refine below_set ?_ GE531.out | refine below_set ?_ GE540.out | refine below_set ?_ GE544.out | refine below_set ?_ GE549.out) | exact HB.out)) hb); clear HO_541000; clear HO_545000; clear HO_550000; clear BK531; clear BK540; clear BK544; clear BK549; clear HB; have HO_541000 := n0_; have HO_545000 := n1_; have HO_550000 := n2_; have BK531 := n3_; have BK540 := n4_; have BK544 := n5_; have BK549 := n6_; have HB := n7_; clear n0_ n1_ n2_ n3_ n4_ n5_ n6_ n7_; (try clear hb); (try clear hb2); (try clear hk); (try clear hi)))
                      go_ret
                      exact ⟨by first | rfl | (simp [errW_none, errW_some] <;> rfl) | (simp [*, errW_none, errW_some] <;> rfl), by repeat (first | (with_reducible first | exact HB.out | apply below_alloc | apply pw_below_drewN | apply below_drew1 | refine below_set ?_ GE531.out | refine below_set ?_ GE540.out | refine below_set ?_ GE544.out | refine below_set ?_ GE549.out) | exact HB.out)⟩
          · replace c59 := Bool.eq_false_iff.mpr c59
            subst c59
            have H1 : (some false) = some r := by rw [if_neg (show ¬ (false = true) by decide)] at H; exact H
            clear H
            have H := H1
            clear H1
            obtain rfl := Option.some.inj H
            try go_wp2
            have n0_ := Aside0.mk (Kd.R_drew HO_541000.out)
            have n1_ := Aside0.mk (Kd.R_drew HO_545000.out)
            have n2_ := Aside0.mk (Kd.R_drew HO_550000.out)
            have n3_ := Aside0.mk (blk_drew BK531.out)
            have n4_ := Aside0.mk (blk_drew BK540.out)
            have n5_ := Aside0.mk (blk_drew BK544.out)
            have n6_ := Aside0.mk (blk_drew BK549.out)
            have n7_ := Aside0.mk (below_drew1 HB.out)
            clear HO_541000
            clear HO_545000
            clear HO_550000
            clear BK531
            clear BK540
            clear BK544
            clear BK549
            clear HB
            have HO_541000 := n0_
            have HO_545000 := n1_
            have HO_550000 := n2_
            have BK531 := n3_
            have BK540 := n4_
            have BK544 := n5_
            have BK549 := n6_
            have HB := n7_
            clear n0_ n1_ n2_ n3_ n4_ n5_ n6_ n7_
            refine start_ (n := 5) (S := fun w' => w'.cell? ⟨gb544, 0, none⟩ = some (.slice Ao27 t541.length co27) ∧ w'.cell? ⟨gb531, 0, none⟩ = some (.slice A0_0 l0_0.length c0_0)) (ds := []) #[false, false, false, false, false] (by kernel_rfl) rfl rfl ⟨(blk_cell BK544.out 0).trans rfl, (blk_cell BK531.out 0).trans rfl⟩ (fun hHeld => ?_)
            generalize wc.drew = w176 at HO_541000 HO_545000 HO_550000 BK531 BK540 BK544 BK549 HB hHeld ⊢
            refine take_ (i := 0) (N := some 45) (v := ?_) (a' := ?_) #[true, false, false, false, false] rfl rfl (by kernel_rfl) (fun _ _ _ h => h) (Or.inl ⟨by rfl, ?_⟩) hHeld ?_ ?_
            rotate_left
            · rintro w' ⟨s0, s1⟩
              go_simp
              with_reducible rfl
            rotate_left
            · simp only [Act.put, List.setIfInBounds_toArray, List.set_cons_zero, List.set_cons_succ, i64_w, i32_w]
              rfl
            refine take_ (i := 1) (N := some 46) (v := ?_) (a' := ?_) #[true, true, false, false, false] rfl rfl (by kernel_rfl) (fun _ _ _ h => h) (Or.inl ⟨by rfl, ?_⟩) hHeld ?_ ?_
            rotate_left
            · rintro w' ⟨s0, s1⟩
              go_simp
              with_reducible rfl
            rotate_left
            · simp only [Act.put, List.setIfInBounds_toArray, List.set_cons_zero, List.set_cons_succ, i64_w, i32_w]
              rfl
            refine one_ (i := 2) (N := some 47) #[true, true, true, false, false] rfl rfl (by kernel_rfl) (by decide) (fun K hK => ?_)
            refine goes_ Try.func20 (by kernel_rfl) rfl #[.agg #[.slice A0_0 l0_0.length c0_0]] (by rfl) rfl rfl (by (try simp only [List.map_toArray, List.map_cons, List.map_nil]); first | done | rfl | (simp only [List.length_drop, List.length_take]; rfl)) ?_
            with_reducible refine (laws_toFew.calls kj11 _ _ l0_0 t551 _ ?side1 ?side2 A57.out).mono ?_
            (case side1 => repeat (first | exact (Kd.C_below HR0_0.out HB.out) | (with_reducible refine Kd.C_alloc ?_ _) | (with_reducible refine Kd.C_drewN ?_ _) | (with_reducible refine Kd.C_drew ?_)))
            (case side2 => exact HC0_0.out)
            rintro e w177 ⟨v552, rfl, ho0, hb⟩
            refine ⟨_, rfl, ?_⟩
            have n0_ := Aside0.mk (Kd.R_elder' (by (with_reducible repeat (first | apply Kd.R_alloc | apply Kd.R_drewN | apply Kd.R_drew)); exact HO_541000.out) (Kd.R_base ho0) hb)
            have n1_ := Aside0.mk (Kd.R_elder' (by (with_reducible repeat (first | apply Kd.R_alloc | apply Kd.R_drewN | apply Kd.R_drew)); exact HO_545000.out) (Kd.R_base ho0) hb)
            have n2_ := Aside0.mk (Kd.R_elder' (by (with_reducible repeat (first | apply Kd.R_alloc | apply Kd.R_drewN | apply Kd.R_drew)); exact HO_550000.out) (Kd.R_base ho0) hb)
            have n3_ := Aside0.mk (Kd.R_lower (Kd.R_new' (Kd.R_new' (Kd.R_new' ho0 (Kd.R_lt (by (with_reducible repeat (first | apply Kd.R_alloc | apply Kd.R_drewN | apply Kd.R_drew)); exact HO_541000.out))) (Kd.R_lt (by (with_reducible repeat (first | apply Kd.R_alloc | apply Kd.R_drewN | apply Kd.R_drew)); exact HO_545000.out))) (Kd.R_lt (by (with_reducible repeat (first | apply Kd.R_alloc | apply Kd.R_drewN | apply Kd.R_drew)); exact HO_550000.out))) (below_size (by repeat (first | (with_reducible first | exact HB.out | apply below_alloc | apply pw_below_drewN | apply below_drew1 | refine below_set ?_ GE531.out | refine below_set ?_ GE540.out | refine below_set ?_ GE544.out | refine below_set ?_ GE549.out) | exact HB.out))))
            have n4_ := Aside0.mk (blk_below (g := gb531) (o := .cells #[.slice A0_0 l0_0.length c0_0] 37 (0, 0)) (by (with_reducible repeat (first | refine blk_drewN ?_ _ | refine blk_drew ?_ | refine blk_alloc ?_ _)); exact BK531.out) hb)
            have n5_ := Aside0.mk (blk_below (g := gb540) (o := .cells #[.slice Ao21 t536.length co21] 25 (0, 0)) (by (with_reducible repeat (first | refine blk_drewN ?_ _ | refine blk_drew ?_ | refine blk_alloc ?_ _)); exact BK540.out) hb)
            have n6_ := Aside0.mk (blk_below (g := gb544) (o := .cells #[.slice Ao27 t541.length co27] 25 (0, 0)) (by (with_reducible repeat (first | refine blk_drewN ?_ _ | refine blk_drew ?_ | refine blk_alloc ?_ _)); exact BK544.out) hb)
            have n7_ := Aside0.mk (blk_below (g := gb549) (o := .cells #[.slice Ao33 t545.length co33] 25 (0, 0)) (by (with_reducible repeat (first | refine blk_drewN ?_ _ | refine blk_drew ?_ | refine blk_alloc ?_ _)); exact BK549.out) hb)
            have n8_ := Aside0.mk (below_step (by repeat (first | (with_reducible first | exact HB.out | apply below_alloc | apply pw_below_drewN | apply below_drew1 | refine below_set ?_ GE531.out | refine below_set ?_ GE540.out | refine below_set ?_ GE544.out | refine below_set ?_ GE549.out) | exact HB.out)) hb)
            clear HO_541000
            clear HO_545000
            clear HO_550000
            clear BK531
            clear BK540
            clear BK544
            clear BK549
            clear HB
            have HO_541000 := n0_
            have HO_545000 := n1_
            have HO_550000 := n2_
            have HO553 := n3_
            have BK531 := n4_
            have BK540 := n5_
            have BK544 := n6_
            have BK549 := n7_
            have HB := n8_
            clear n0_ n1_ n2_ n3_ n4_ n5_ n6_ n7_ n8_
            (try clear hb)
            (try clear hb2)
            (try clear hk)
            (try clear hi)
            (try clear ho0)
            obtain ⟨Ao178, co178, eo178⟩ := Kd.R_slice HO553.out
            (first | subst eo178 | (injection eo178 with f1_ f2_ f3_; have f4_ := f1_.symm; have f5_ := f3_.symm; clear f1_ f2_ f3_; subst f4_; subst f5_))
            refine hK.out _ _ ⟨(blk_cell BK544.out 0).trans rfl, (blk_cell BK531.out 0).trans rfl⟩ (fun hHeld => ?_)
            clear hK K
            refine norm_ (a' := ?_) ?_ ?_
            rotate_left
            · show Act.put _ (some 47) _ = _
              simp only [Act.put, List.setIfInBounds_toArray, List.set_cons_zero, List.set_cons_succ, i64_w, i32_w]
              rfl
            refine one_ (i := 3) (N := some 48) #[true, true, true, true, false] rfl rfl (by kernel_rfl) (by decide) (fun K hK => ?_)
            refine goes_ Try.func21 (by kernel_rfl) rfl #[.agg #[.slice Ao27 t541.length co27], .agg #[.slice Ao178 t551.length co178]] (by rfl) rfl rfl (by (try simp only [List.map_toArray, List.map_cons, List.map_nil]); first | done | rfl | (simp only [List.length_drop, List.length_take]; rfl)) ?_
            with_reducible refine (laws_eqFew.calls kj11 _ _ t541 _ _ t551 false _ ?side1 ?side2 ?side3 ?side4 A58.out).mono ?_
            (case side1 => repeat (first | exact (Kd.R_reads' HO_545000.out).2.2 | (with_reducible refine Kd.C_alloc ?_ _) | (with_reducible refine Kd.C_drewN ?_ _) | (with_reducible refine Kd.C_drew ?_)))
            (case side2 => exact (Kd.R_reads' HO_545000.out).2.1)
            (case side3 => repeat (first | exact (Kd.R_reads' HO553.out).2.2 | (with_reducible refine Kd.C_alloc ?_ _) | (with_reducible refine Kd.C_drewN ?_ _) | (with_reducible refine Kd.C_drew ?_)))
            (case side4 => exact (Kd.R_reads' HO553.out).2.1)
            rintro e w179 ⟨rfl, hb⟩
            refine ⟨_, rfl, ?_⟩
            have n0_ := Aside0.mk (Kd.R_below (by (with_reducible repeat (first | apply Kd.R_alloc | apply Kd.R_drewN | apply Kd.R_drew)); exact HO_541000.out) hb)
            have n1_ := Aside0.mk (Kd.R_below (by (with_reducible repeat (first | apply Kd.R_alloc | apply Kd.R_drewN | apply Kd.R_drew)); exact HO_545000.out) hb)
            have n2_ := Aside0.mk (Kd.R_below (by (with_reducible repeat (first | apply Kd.R_alloc | apply Kd.R_drewN | apply Kd.R_drew)); exact HO_550000.out) hb)
            have n3_ := Aside0.mk (Kd.R_below (by (with_reducible repeat (first | apply Kd.R_alloc | apply Kd.R_drewN | apply Kd.R_drew)); exact HO553.out) hb)
            have n4_ := Aside0.mk (blk_below (g := gb531) (o := .cells #[.slice A0_0 l0_0.length c0_0] 37 (0, 0)) (by (with_reducible repeat (first | refine blk_drewN ?_ _ | refine blk_drew ?_ | refine blk_alloc ?_ _)); exact BK531.out) hb)
            have n5_ := Aside0.mk (blk_below (g := gb540) (o := .cells #[.slice Ao21 t536.length co21] 25 (0, 0)) (by (with_reducible repeat (first | refine blk_drewN ?_ _ | refine blk_drew ?_ | refine blk_alloc ?_ _)); exact BK540.out) hb)
            have n6_ := Aside0.mk (blk_below (g := gb544) (o := .cells #[.slice Ao27 t541.length co27] 25 (0, 0)) (by (with_reducible repeat (first | refine blk_drewN ?_ _ | refine blk_drew ?_ | refine blk_alloc ?_ _)); exact BK544.out) hb)
            have n7_ := Aside0.mk (blk_below (g := gb549) (o := .cells #[.slice Ao33 t545.length co33] 25 (0, 0)) (by (with_reducible repeat (first | refine blk_drewN ?_ _ | refine blk_drew ?_ | refine blk_alloc ?_ _)); exact BK549.out) hb)
            have n8_ := Aside0.mk (below_step (by repeat (first | (with_reducible first | exact HB.out | apply below_alloc | apply pw_below_drewN | apply below_drew1 | refine below_set ?_ GE531.out | refine below_set ?_ GE540.out | refine below_set ?_ GE544.out | refine below_set ?_ GE549.out) | exact HB.out)) hb)
            clear HO_541000
            clear HO_545000
            clear HO_550000
            clear HO553
            clear BK531
            clear BK540
            clear BK544
            clear BK549
            clear HB
            have HO_541000 := n0_
            have HO_545000 := n1_
            have HO_550000 := n2_
            have HO553 := n3_
            have BK531 := n4_
            have BK540 := n5_
            have BK544 := n6_
            have BK549 := n7_
            have HB := n8_
            clear n0_ n1_ n2_ n3_ n4_ n5_ n6_ n7_ n8_
            (try clear hb)
            (try clear hb2)
            (try clear hk)
            (try clear hi)
            refine hK.out _ _ ⟨(blk_cell BK544.out 0).trans rfl, (blk_cell BK531.out 0).trans rfl⟩ (fun hHeld => ?_)
            clear hK K
            refine norm_ (a' := ?_) ?_ ?_
            rotate_left
            · show Act.put _ (some 48) _ = _
              simp only [Act.put, List.setIfInBounds_toArray, List.set_cons_zero, List.set_cons_succ, i64_w, i32_w]
              rfl
            refine pure_ (i := 4) (N := some 49) (v := ?_) (a' := ?_) #[true, true, true, true, true] rfl rfl (by kernel_rfl) (fun _ _ _ h => h) (Or.inl ⟨by rfl, ?_⟩) ?_ ?_
            rotate_left
            · intro w'
              go_simp
              with_reducible rfl
            rotate_left
            · simp only [Act.put, List.setIfInBounds_toArray, List.set_cons_zero, List.set_cons_succ, i64_w, i32_w]
              rfl
            refine done_ (by kernel_rfl) ?_
            try go_wp2
            go_ret
            exact ⟨by first | rfl | (simp [errW_none, errW_some] <;> rfl) | (simp [*, errW_none, errW_some] <;> rfl), by repeat (first | (with_reducible first | exact HB.out | apply below_alloc | apply pw_below_drewN | apply below_drew1 | refine below_set ?_ GE531.out | refine below_set ?_ GE540.out | refine below_set ?_ GE544.out | refine below_set ?_ GE549.out) | exact HB.out)⟩

end Go.Proofs.Ytnolipncjjclcaa.PA
