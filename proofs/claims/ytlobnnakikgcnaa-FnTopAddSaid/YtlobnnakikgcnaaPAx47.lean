-- Made by a program of this session (wip/tools/pr2.sh) out of the translation, by way of the printer: shared by the seat's laws.
import Derived.Test.YtlobnnakikgcnaaPAx0
import Derived.Test.YtlobnnakikgcnaaPAx10
import Derived.Test.YtlobnnakikgcnaaPAx15
import Derived.Test.YtlobnnakikgcnaaPAx16
import Derived.Test.YtlobnnakikgcnaaPAx44
import Derived.Test.YtlobnnakikgcnaaPAx45
import Derived.Test.YtlobnnakikgcnaaPAx46
namespace Go.Proofs.Ytlobnnakikgcnaa.PA
open Go.RowKit Go.Proofs.YtlobnnakikgcnaaW.PrintWords Go.Proofs.YtlobnnakikgcnaaW.PrintLast Go.Proofs.YtlobnnakikgcnaaW.PrintMore
attribute [local go_sem] max2_int min2_int max_two min_two max_three min_three max_four min_four   -- for this text's walks alone
set_option linter.unusedVariables false
set_option linter.unusedSimpArgs false

/-! ### laws_FnTopAdd: function 3 -/
def laws_FnTopAdd.j0 : Nat → Int → Bool → Bool → Bool → List (S54) → Int → Int → List (S54) → Int → Int → List (S54) → Int → Int → Option (Bool)
  | 0, _, _, _, _, _, _, _, _, _, _, _, _, _ => none
  | k + 1, x4, x6, x8, x45, x314000, x314001, x314002, x321000, x321001, x321002, x328000, x328001, x328002 => if x45 = true then (if (x8 == x6) = true then ((laws_lkTop.f k x328000 x328001 x328002 x321000 x321001 x321002).bind fun t329 => (some t329)) else (some false)) else ((impl_TopGet.f k x314000 x314001 x314002 x4).bind fun bt330 => ((impl_TopGet.f k x328000 x328001 x328002 x4).bind fun bt332 => ((impl_TopOk.f k x328000 x328001 x328002).bind fun t334 => (if t334 = true then (if x328002 = (wrap64 (x314002 + 1)) then (if (wrap64 (x328001 - x314001)) ≥ 0 then (if (wrap64 (x328001 - x314001)) ≤ 1 then (if bt332.1 ≤ (wrap64 (bt330.1 + 1)) then (some (decide (bt332.2 ≥ bt330.2))) else (some false)) else (some false)) else (some false)) else (some false)) else (some false)))))
def laws_FnTopAdd.f (k : Nat) (l0 : List Int) : Option (Bool) := if (l0.length : Int) > 1048576 then (some true) else ((spec_DrawTopAdd.f k l0).bind fun bt307 => ((spec_TopAdd.f k bt307.1 bt307.2.1 bt307.2.2.1 bt307.2.2.2).bind fun bt314 => ((impl_TopAdd.f k bt307.1 bt307.2.1 bt307.2.2.1 bt307.2.2.2).bind fun bt321 => (if (bt321.2.2.2 != bt314.2.2.2) = true then (laws_FnTopAdd.j0 k bt307.2.2.2 bt314.2.2.2 bt321.2.2.2 true bt307.1 bt307.2.1 bt307.2.2.1 bt314.1 bt314.2.1 bt314.2.2.1 bt321.1 bt321.2.1 bt321.2.2.1) else ((laws_lkTop.f k bt321.1 bt321.2.1 bt321.2.2.1 bt314.1 bt314.2.1 bt314.2.2.1).bind fun t328 => (if t328 = true then (laws_FnTopAdd.j0 k bt307.2.2.2 bt314.2.2.2 bt321.2.2.2 (!bt321.2.2.2) bt307.1 bt307.2.1 bt307.2.2.1 bt314.1 bt314.2.1 bt314.2.2.1 bt321.1 bt321.2.1 bt321.2.2.1) else (laws_FnTopAdd.j0 k bt307.2.2.2 bt314.2.2.2 bt321.2.2.2 true bt307.1 bt307.2.1 bt307.2.2.1 bt314.1 bt314.2.1 bt314.2.2.1 bt321.1 bt321.2.1 bt321.2.2.1)))))))
theorem laws_FnTopAdd.mono_l : ∀ k, (∀ y0 y1 y2 y3 y4 y5 y6 y7 y8 y9 y10 y11 y12, LeO (laws_FnTopAdd.j0 k y0 y1 y2 y3 y4 y5 y6 y7 y8 y9 y10 y11 y12) (laws_FnTopAdd.j0 (k + 1) y0 y1 y2 y3 y4 y5 y6 y7 y8 y9 y10 y11 y12))
  | 0 => fun _ _ _ _ _ _ _ _ _ _ _ _ _ r h => by simp [laws_FnTopAdd.j0] at h
  | k + 1 => by
    have ih0 := laws_FnTopAdd.mono_l k
    · intro y0 y1 y2 y3 y4 y5 y6 y7 y8 y9 y10 y11 y12
      unfold laws_FnTopAdd.j0
      repeat' first
      | (with_reducible exact ih0 _ _ _ _ _ _ _ _ _ _ _ _ _)
      | (with_reducible exact impl_TopAdd.mono _ _ _ _ _)
      | (with_reducible exact impl_TopGet.mono _ _ _ _ _)
      | (with_reducible exact impl_TopOk.mono _ _ _ _)
      | (with_reducible exact laws_lkTop.mono _ _ _ _ _ _ _)
      | (with_reducible exact spec_DrawTopAdd.mono _ _)
      | (with_reducible exact spec_TopAdd.mono _ _ _ _ _)
      | (with_reducible exact LeO.refl _)
      | (with_reducible exact LeO.none _)
      | (with_reducible refine LeO.ite ?_ ?_)
      | (with_reducible refine LeO.bind ?_ (fun _ => ?_))
      | exact ih0 _ _ _ _ _ _ _ _ _ _ _ _ _
      | exact impl_TopAdd.mono _ _ _ _ _
      | exact impl_TopGet.mono _ _ _ _ _
      | exact impl_TopOk.mono _ _ _ _
      | exact laws_lkTop.mono _ _ _ _ _ _ _
      | exact spec_DrawTopAdd.mono _ _
      | exact spec_TopAdd.mono _ _ _ _ _
      | exact LeO.none _
      | refine LeO.ite ?_ ?_
      | refine LeO.bind ?_ (fun _ => ?_)
theorem laws_FnTopAdd.mono : ∀ a0 k, LeO (laws_FnTopAdd.f k a0) (laws_FnTopAdd.f (k + 1) a0) := by
  intro a0 k
  have ih0 := laws_FnTopAdd.mono_l k
  unfold laws_FnTopAdd.f
  repeat' first
      | (with_reducible exact ih0 _ _ _ _ _ _ _ _ _ _ _ _ _)
      | (with_reducible exact impl_TopAdd.mono _ _ _ _ _)
      | (with_reducible exact impl_TopGet.mono _ _ _ _ _)
      | (with_reducible exact impl_TopOk.mono _ _ _ _)
      | (with_reducible exact laws_lkTop.mono _ _ _ _ _ _ _)
      | (with_reducible exact spec_DrawTopAdd.mono _ _)
      | (with_reducible exact spec_TopAdd.mono _ _ _ _ _)
      | (with_reducible exact LeO.refl _)
      | (with_reducible exact LeO.none _)
      | (with_reducible refine LeO.ite ?_ ?_)
      | (with_reducible refine LeO.bind ?_ (fun _ => ?_))
      | exact ih0 _ _ _ _ _ _ _ _ _ _ _ _ _
      | exact impl_TopAdd.mono _ _ _ _ _
      | exact impl_TopGet.mono _ _ _ _ _
      | exact impl_TopOk.mono _ _ _ _
      | exact laws_lkTop.mono _ _ _ _ _ _ _
      | exact spec_DrawTopAdd.mono _ _
      | exact spec_TopAdd.mono _ _ _ _ _
      | exact LeO.none _
      | refine LeO.ite ?_ ?_
      | refine LeO.bind ?_ (fun _ => ?_)
theorem z3bb {w W w1 : World} {g : Nat} {o : Obj} (h : Aside0 (w.heap[g]? = some o)) (hb : Below W.heap.size W w1) (hp : W.heap[g]? = some o := by (with_reducible repeat (first | refine blk_drewN ?_ _ | refine blk_drew ?_ | refine blk_alloc ?_ _)); exact Aside0.out (by assumption)) : Aside0 (w1.heap[g]? = some o) := ⟨blk_below hp hb⟩
theorem z3bc {w : World} {g t : Nat} {cs : Array Value} (h : Aside0 (w.heap[g]? = some (.cells cs t (0, 0)))) (i : Nat) {u : Value} (e : cs[i]? = some u := by rfl) : w.cell? ⟨g, i, none⟩ = some u := (blk_cell h.out i).trans e
variable {p : Prop}
theorem q3_0 (h : p := by repeat (first | (with_reducible first | exact HB.out | apply below_alloc | apply pw_below_drewN | apply below_drew1 | refine below_set ?_ GE313.out | refine below_set ?_ GE320.out | refine below_set ?_ GE327.out) | exact HB.out)) : p := h
theorem q3_1 (h : p := by (try simp only [List.map_toArray, List.map_cons, List.map_nil]); first | done | rfl | (simp only [List.length_drop, List.length_take]; rfl)) : p := h
theorem q3_2 (h : p := by repeat (first | exact (Kd.R_reads' HO_328000.out).2.2 | (with_reducible refine Kd.C_alloc ?_ _) | (with_reducible refine Kd.C_drewN ?_ _) | (with_reducible refine Kd.C_drew ?_))) : p := h
theorem q3_3 (h : p := by (with_reducible repeat (first | apply Kd.R_alloc | apply Kd.R_drewN | apply Kd.R_drew)); exact HO_314000.out) : p := h
theorem q3_4 (h : p := by (with_reducible repeat (first | apply Kd.R_alloc | apply Kd.R_drewN | apply Kd.R_drew)); exact HO_321000.out) : p := h
theorem q3_5 (h : p := by (with_reducible repeat (first | apply Kd.R_alloc | apply Kd.R_drewN | apply Kd.R_drew)); exact HO_328000.out) : p := h
theorem q3_6 (h : p := by (with_reducible repeat (first | apply Kd.R_alloc | apply Kd.R_drewN | apply Kd.R_drew)); exact (Kd.R_mono (Kd.R_far (p := ⟨gb327, 2, none⟩) (Kd.R_far (p := ⟨gb327, 1, none⟩) (Kd.R_far (p := ⟨gb327, 0, none⟩) (Kd.R_types HO323.out BK327.out (by decide)) (fun _ hk => hk.2) (.slice Ao19 t321.length co19)) (fun _ hk => hk.2) (.int .i64 t324)) (fun _ hk => hk.2) (.int .i64 t325)) (fun _ h_ => h_.1))) : p := h
theorem q3_7 (h : p := by (with_reducible repeat (first | apply Kd.R_alloc | apply Kd.R_drewN | apply Kd.R_drew)); exact (Kd.R_mono (Kd.R_far (p := ⟨gb327, 2, none⟩) (Kd.R_far (p := ⟨gb327, 1, none⟩) (Kd.R_far (p := ⟨gb327, 0, none⟩) (Kd.R_types HO316.out BK327.out (by decide)) (fun _ hk => hk.2) (.slice Ao19 t321.length co19)) (fun _ hk => hk.2) (.int .i64 t324)) (fun _ hk => hk.2) (.int .i64 t325)) (fun _ h_ => h_.1))) : p := h
theorem q3_8 (h : p := by repeat (first | exact (Kd.R_reads' HO_314000.out).2.2 | (with_reducible refine Kd.C_alloc ?_ _) | (with_reducible refine Kd.C_drewN ?_ _) | (with_reducible refine Kd.C_drew ?_))) : p := h
theorem q3_9 (h : p := by (with_reducible repeat (first | apply Kd.R_alloc | apply Kd.R_drewN | apply Kd.R_drew)); exact (Kd.R_mono (Kd.R_far (p := ⟨gb320, 2, none⟩) (Kd.R_far (p := ⟨gb320, 1, none⟩) (Kd.R_far (p := ⟨gb320, 0, none⟩) (Kd.R_types HO309.out BK320.out (by decide)) (fun _ hk => hk.2) (.slice Ao13 t314.length co13)) (fun _ hk => hk.2) (.int .i64 t317)) (fun _ hk => hk.2) (.int .i64 t318)) (fun _ h_ => h_.1))) : p := h
theorem q3_10 (h : p := by (with_reducible repeat (first | apply Kd.R_alloc | apply Kd.R_drewN | apply Kd.R_drew)); exact (Kd.R_mono (Kd.R_far (p := ⟨gb313, 2, none⟩) (Kd.R_far (p := ⟨gb313, 1, none⟩) (Kd.R_far (p := ⟨gb313, 0, none⟩) (Kd.R_types HO309.out BK313.out (by decide)) (fun _ hk => hk.2) (.slice Ao9 t307.length co9)) (fun _ hk => hk.2) (.int .i64 t310)) (fun _ hk => hk.2) (.int .i64 t311)) (fun _ h_ => h_.1))) : p := h
theorem q3_11 (h : p := by repeat (first | (with_reducible first | exact HB.out | apply below_alloc | apply pw_below_drewN | apply below_drew1 | refine below_set ?_ GE313.out | refine below_set ?_ GE320.out) | exact HB.out)) : p := h
theorem q3_12 (h : p := by first | rfl | (simp [errW_none, errW_some] <;> rfl) | (simp [*, errW_none, errW_some] <;> rfl)) : p := h
theorem q3_13 (h : p := by (with_reducible repeat (first | refine blk_drewN ?_ _ | refine blk_drew ?_ | refine blk_alloc ?_ _)); refine blk_put (cs := #[.slice Ao19 t321.length co19, .int .i64 t324, .int .i64 0]) ?_ 2 _ rfl; (with_reducible repeat (first | refine blk_drewN ?_ _ | refine blk_drew ?_ | refine blk_alloc ?_ _)); refine blk_put (cs := #[.slice Ao19 t321.length co19, .int .i64 0, .int .i64 0]) ?_ 1 _ rfl; (with_reducible repeat (first | refine blk_drewN ?_ _ | refine blk_drew ?_ | refine blk_alloc ?_ _)); refine blk_put (cs := #[.slice none 0 0, .int .i64 0, .int .i64 0]) ?_ 0 _ rfl; (with_reducible repeat (first | refine blk_drewN ?_ _ | refine blk_drew ?_ | refine blk_alloc ?_ _)); exact BK327.out) : p := h
theorem q3_14 (h : p := by repeat (first | (with_reducible first | exact HB.out | apply below_alloc | apply pw_below_drewN | apply below_drew1 | refine below_set ?_ GE313.out) | exact HB.out)) : p := h
theorem q3_15 (h : p := by repeat (first | (with_reducible first | exact HB.out | apply below_alloc | apply pw_below_drewN | apply below_drew1) | exact HB.out)) : p := h
theorem q3_16 (h : p := by (with_reducible repeat (first | refine blk_drewN ?_ _ | refine blk_drew ?_ | refine blk_alloc ?_ _)); refine blk_far ?_ NB313_327.out _; (with_reducible repeat (first | refine blk_drewN ?_ _ | refine blk_drew ?_ | refine blk_alloc ?_ _)); refine blk_far ?_ NB313_327.out _; (with_reducible repeat (first | refine blk_drewN ?_ _ | refine blk_drew ?_ | refine blk_alloc ?_ _)); refine blk_far ?_ NB313_327.out _; (with_reducible repeat (first | refine blk_drewN ?_ _ | refine blk_drew ?_ | refine blk_alloc ?_ _)); exact BK313.out) : p := h
theorem q3_17 (h : p := by (with_reducible repeat (first | refine blk_drewN ?_ _ | refine blk_drew ?_ | refine blk_alloc ?_ _)); refine blk_far ?_ NB320_327.out _; (with_reducible repeat (first | refine blk_drewN ?_ _ | refine blk_drew ?_ | refine blk_alloc ?_ _)); refine blk_far ?_ NB320_327.out _; (with_reducible repeat (first | refine blk_drewN ?_ _ | refine blk_drew ?_ | refine blk_alloc ?_ _)); refine blk_far ?_ NB320_327.out _; (with_reducible repeat (first | refine blk_drewN ?_ _ | refine blk_drew ?_ | refine blk_alloc ?_ _)); exact BK320.out) : p := h
theorem q3_18 (h : p := by (with_reducible repeat (first | apply Kd.R_alloc | apply Kd.R_drewN | apply Kd.R_drew)); exact (Kd.R_mono (Kd.R_far (p := ⟨gb320, 2, none⟩) (Kd.R_far (p := ⟨gb320, 1, none⟩) (Kd.R_far (p := ⟨gb320, 0, none⟩) (Kd.R_types HO316.out BK320.out (by decide)) (fun _ hk => hk.2) (.slice Ao13 t314.length co13)) (fun _ hk => hk.2) (.int .i64 t317)) (fun _ hk => hk.2) (.int .i64 t318)) (fun _ h_ => h_.1))) : p := h
theorem q3_19 (h : p := by (with_reducible repeat (first | apply Kd.R_alloc | apply Kd.R_drewN | apply Kd.R_drew)); exact (Kd.R_mono (Kd.R_far (p := ⟨gb327, 2, none⟩) (Kd.R_far (p := ⟨gb327, 1, none⟩) (Kd.R_far (p := ⟨gb327, 0, none⟩) (Kd.R_types HO309.out BK327.out (by decide)) (fun _ hk => hk.2) (.slice Ao19 t321.length co19)) (fun _ hk => hk.2) (.int .i64 t324)) (fun _ hk => hk.2) (.int .i64 t325)) (fun _ h_ => h_.1))) : p := h
theorem q3_20 (h : p := by (with_reducible repeat (first | refine blk_drewN ?_ _ | refine blk_drew ?_ | refine blk_alloc ?_ _)); exact BK313.out) : p := h
theorem q3_21 (h : p := by refine (Kd.R_reads' (e := 54) (base := w.heap.size) (ok := fun k_ => ((True ∧ some k_ ≠ (.slice Ao9 t307.length co9 : Value).ownBlock) ∧ some k_ ≠ (.slice Ao13 t314.length co13 : Value).ownBlock)) (n := t321.length) (c := co19) ?_).2.2; exact q3_6) : p := h
theorem q3_22 (h : p := by refine (Kd.R_reads' (e := 54) (base := w.heap.size) (ok := fun k_ => ((True ∧ some k_ ≠ (.slice Ao9 t307.length co9 : Value).ownBlock) ∧ some k_ ≠ (.slice Ao19 t321.length co19 : Value).ownBlock)) (n := t314.length) (c := co13) ?_).2.2; exact q3_7) : p := h
theorem q3_23 (h : p := by (with_reducible repeat (first | apply Kd.R_alloc | apply Kd.R_drewN | apply Kd.R_drew)); exact HO309.out) : p := h
theorem q3_24 (h : p := by rw [hg]; exact Nat.ne_of_lt (blk_lt (g := gb313) (o := .cells #[.slice Ao9 t307.length co9, .int .i64 t310, .int .i64 t311] 25 (0, 0)) q3_20)) : p := h
theorem q3_25 (h : p := by rw [hg]; exact Nat.ne_of_gt (blk_lt (g := gb313) (o := .cells #[.slice Ao9 t307.length co9, .int .i64 t310, .int .i64 t311] 25 (0, 0)) q3_20)) : p := h
theorem q3_26 (h : p := by (with_reducible repeat (first | refine blk_drewN ?_ _ | refine blk_drew ?_ | refine blk_alloc ?_ _)); exact BK320.out) : p := h
theorem q3_27 (h : p := by (with_reducible repeat (first | apply Kd.R_alloc | apply Kd.R_drewN | apply Kd.R_drew)); exact HO316.out) : p := h
set_option maxHeartbeats 8000000 in
set_option maxRecDepth 100000 in
theorem laws_FnTopAdd.calls (k : Nat) (A0 : Option Addr) (c0 : Nat) (l0 : List Int) (r : Bool) (w : World) (hr0 : Kd.C (Kd.int .u8) w A0 l0.length l0) (hc0 : l0.length ≤ c0) (h : laws_FnTopAdd.f k l0 = some r) :
    Calls Try.prog 3 #[.slice A0 l0.length c0] w fun e w' => e = .returned (.bool r) ∧ Below w.heap.size w w' := by
  have hu25 := Try.underlying25;have HR0 := Aside0.mk hr0;have HC0 := Aside0.mk hc0;clear hr0 hc0;have HB := Aside0.mk (Below.refl w.heap.size w)
  have H : (if (l0.length : Int) > 1048576 then (some true) else ((spec_DrawTopAdd.f k l0).bind fun bt307 => ((spec_TopAdd.f k bt307.1 bt307.2.1 bt307.2.2.1 bt307.2.2.2).bind fun bt314 => ((impl_TopAdd.f k bt307.1 bt307.2.1 bt307.2.2.1 bt307.2.2.2).bind fun bt321 => (if (bt321.2.2.2 != bt314.2.2.2) = true then (laws_FnTopAdd.j0 k bt307.2.2.2 bt314.2.2.2 bt321.2.2.2 true bt307.1 bt307.2.1 bt307.2.2.1 bt314.1 bt314.2.1 bt314.2.2.1 bt321.1 bt321.2.1 bt321.2.2.1) else ((laws_lkTop.f k bt321.1 bt321.2.1 bt321.2.2.1 bt314.1 bt314.2.1 bt314.2.2.1).bind fun t328 => (if t328 = true then (laws_FnTopAdd.j0 k bt307.2.2.2 bt314.2.2.2 bt321.2.2.2 (!bt321.2.2.2) bt307.1 bt307.2.1 bt307.2.2.1 bt314.1 bt314.2.1 bt314.2.2.1 bt321.1 bt321.2.1 bt321.2.2.1) else (laws_FnTopAdd.j0 k bt307.2.2.2 bt314.2.2.2 bt321.2.2.2 true bt307.1 bt307.2.1 bt307.2.2.1 bt314.1 bt314.2.1 bt314.2.2.1 bt321.1 bt321.2.1 bt321.2.2.1)))))))) = some r := h
  clear h
  by_cases c2 : (l0.length : Int) > 1048576
  · rw [if_pos c2] at H
    have c2b0 : decide (1048576 < (l0.length : Int)) = true := decide_eq_true c2
    have c2b1 : decide (1048576 < l0.length) = true := decide_eq_true (by omega)
    clear c2
    obtain rfl := Option.some.inj H
    go_enter Try.func3, Try.ntmps3
    go_wp2
    go_ret
    exact ⟨q3_12, q3_15⟩
  · rw [if_neg c2] at H
    have c2b0 : decide (1048576 < (l0.length : Int)) = false := decide_eq_false c2
    have c2b1 : decide (1048576 < l0.length) = false := decide_eq_false (by omega)
    clear c2
    replace H := Option.bind_eq_some_iff.mp H
    obtain ⟨⟨t307, t310, t311, t312⟩, A30, H⟩ := H
    replace H : ((spec_TopAdd.f k t307 t310 t311 t312).bind fun bt314 => ((impl_TopAdd.f k t307 t310 t311 t312).bind fun bt321 => (if (bt321.2.2.2 != bt314.2.2.2) = true then (laws_FnTopAdd.j0 k t312 bt314.2.2.2 bt321.2.2.2 true t307 t310 t311 bt314.1 bt314.2.1 bt314.2.2.1 bt321.1 bt321.2.1 bt321.2.2.1) else ((laws_lkTop.f k bt321.1 bt321.2.1 bt321.2.2.1 bt314.1 bt314.2.1 bt314.2.2.1).bind fun t328 => (if t328 = true then (laws_FnTopAdd.j0 k t312 bt314.2.2.2 bt321.2.2.2 (!bt321.2.2.2) t307 t310 t311 bt314.1 bt314.2.1 bt314.2.2.1 bt321.1 bt321.2.1 bt321.2.2.1) else (laws_FnTopAdd.j0 k t312 bt314.2.2.2 bt321.2.2.2 true t307 t310 t311 bt314.1 bt314.2.1 bt314.2.2.1 bt321.1 bt321.2.1 bt321.2.2.1)))))) = some r := H
    have A3 := Aside0.mk A30;clear A30
    replace H := Option.bind_eq_some_iff.mp H
    obtain ⟨⟨t314, t317, t318, t319⟩, A40, H⟩ := H
    replace H : ((impl_TopAdd.f k t307 t310 t311 t312).bind fun bt321 => (if (bt321.2.2.2 != t319) = true then (laws_FnTopAdd.j0 k t312 t319 bt321.2.2.2 true t307 t310 t311 t314 t317 t318 bt321.1 bt321.2.1 bt321.2.2.1) else ((laws_lkTop.f k bt321.1 bt321.2.1 bt321.2.2.1 t314 t317 t318).bind fun t328 => (if t328 = true then (laws_FnTopAdd.j0 k t312 t319 bt321.2.2.2 (!bt321.2.2.2) t307 t310 t311 t314 t317 t318 bt321.1 bt321.2.1 bt321.2.2.1) else (laws_FnTopAdd.j0 k t312 t319 bt321.2.2.2 true t307 t310 t311 t314 t317 t318 bt321.1 bt321.2.1 bt321.2.2.1))))) = some r := H
    have A4 := Aside0.mk A40;clear A40
    replace H := Option.bind_eq_some_iff.mp H
    obtain ⟨⟨t321, t324, t325, t326⟩, A50, H⟩ := H
    replace H : (if (t326 != t319) = true then (laws_FnTopAdd.j0 k t312 t319 t326 true t307 t310 t311 t314 t317 t318 t321 t324 t325) else ((laws_lkTop.f k t321 t324 t325 t314 t317 t318).bind fun t328 => (if t328 = true then (laws_FnTopAdd.j0 k t312 t319 t326 (!t326) t307 t310 t311 t314 t317 t318 t321 t324 t325) else (laws_FnTopAdd.j0 k t312 t319 t326 true t307 t310 t311 t314 t317 t318 t321 t324 t325)))) = some r := H
    have A5 := Aside0.mk A50;clear A50;have HC6 := Aside0.mk H;clear H
    go_enter Try.func3, Try.ntmps3
    go_upto_region 6 with (first | ((with_reducible refine gate_callee (f := 7) rfl ?_); refine goesL_ (some 18) rfl rfl Try.func7 (by kernel_rfl) rfl #[.slice A0 l0.length c0] rfl q3_1 ?_; (with_reducible refine (spec_DrawTopAdd.calls k _ _ l0 t307 t310 t311 t312 _ ?side1 ?side2 A3.out).mono ?_); (case side1 => repeat (first | exact HR0.out | (with_reducible refine Kd.C_alloc ?_ _) | (with_reducible refine Kd.C_drewN ?_ _) | (with_reducible refine Kd.C_drew ?_))); (case side2 => exact HC0.out); rintro e w7 ⟨v308, rfl, ho0, hb⟩; refine ⟨_, rfl, ?_⟩; have n0_ := Aside0.mk (Kd.R_lower ho0 (below_size q3_15)); replace HB := Aside0.mk (below_step q3_15 hb); have HO309 := n0_; clear n0_; (try clear hb); (try clear hb2); (try clear hk); (try clear hi); (try clear ho0)) | ((with_reducible refine gate_dst (N := 3) rfl ?_); refine box_event ?hg (N := 3) ?hd (cs := #[.slice none 0 0, .int .i64 0, .int .i64 0]) (t := 25) ?hr ?_; (case hd => rfl); (case hg => rfl); (case hr => first | (go_simp; done) | (go_simp; rfl)); intro gb313 hg w8 hbox hb; have n2_ := Aside0.mk (hbox); have n3_ := Aside0.mk ((by rw [hg]; exact (below_size q3_15) : w.heap.size ≤ gb313)); have n4_ := Aside0.mk ((by rw [hg]; exact (below_size q3_15) : w.heap.size ≤ gb313)); replace HO309 := Aside0.mk (Kd.R_below q3_23 hb); replace HB := Aside0.mk (below_step q3_15 hb); have BK313 := n2_; have GW313 := n3_; have GE313 := n4_; clear n2_ n3_ n4_; clear hb hbox hg; obtain ⟨Ao9, co9, eo9⟩ := Kd.R_slice HO309.out; subst eo9; have hcz10_0 := z3bc BK313 0; have hcz10_1 := z3bc BK313 1; have hcz10_2 := z3bc BK313 2; have hfz10_0 := blk_frozen BK313.out 0; have hfz10_1 := blk_frozen BK313.out 1; have hfz10_2 := blk_frozen BK313.out 2) | ((with_reducible refine gate_callee (f := 8) rfl ?_); refine goesL_ (some 24) rfl rfl Try.func8 (by kernel_rfl) rfl #[.agg #[.slice Ao9 t307.length co9, .int .i64 t310, .int .i64 t311], .int .i64 t312] rfl q3_1 ?_; (with_reducible refine (spec_TopAdd.calls k _ _ t307 t310 t311 t312 t314 t317 t318 t319 _ ?side1 ?side2 A4.out).mono ?_); (case side1 => refine (Kd.R_reads' (e := 54) (base := w.heap.size) (ok := fun k_ => True) (n := t307.length) (c := co9) ?_).2.2; exact q3_10); (case side2 => exact (Kd.R_reads' HO309.out).2.1); rintro e w11 ⟨v315, rfl, ho0, hb⟩; refine ⟨_, rfl, ?_⟩; have n0_ := Aside0.mk (Kd.R_elder' q3_10 (Kd.R_base ho0) hb); have n1_ := Aside0.mk (Kd.R_lower (Kd.R_new' ho0 (Kd.R_lt q3_10)) (below_size q3_14)); replace BK313 := Aside0.mk (blk_below (g := gb313) (o := .cells #[.slice Ao9 t307.length co9, .int .i64 t310, .int .i64 t311] 25 (0, 0)) (by (with_reducible repeat (first | refine blk_drewN ?_ _ | refine blk_drew ?_ | refine blk_alloc ?_ _)); refine blk_put (cs := #[.slice Ao9 t307.length co9, .int .i64 t310, .int .i64 0]) ?_ 2 _ rfl; (with_reducible repeat (first | refine blk_drewN ?_ _ | refine blk_drew ?_ | refine blk_alloc ?_ _)); refine blk_put (cs := #[.slice Ao9 t307.length co9, .int .i64 0, .int .i64 0]) ?_ 1 _ rfl; (with_reducible repeat (first | refine blk_drewN ?_ _ | refine blk_drew ?_ | refine blk_alloc ?_ _)); refine blk_put (cs := #[.slice none 0 0, .int .i64 0, .int .i64 0]) ?_ 0 _ rfl; (with_reducible repeat (first | refine blk_drewN ?_ _ | refine blk_drew ?_ | refine blk_alloc ?_ _)); exact BK313.out) hb); replace HB := Aside0.mk (below_step q3_14 hb); clear HO309; have HO309 := n0_; have HO316 := n1_; clear n0_ n1_; (try clear hb); (try clear hb2); (try clear hk); (try clear hi); (try clear ho0)) | ((with_reducible refine gate_dst (N := 5) rfl ?_); refine box_event ?hg (N := 5) ?hd (cs := #[.slice none 0 0, .int .i64 0, .int .i64 0]) (t := 25) ?hr ?_; (case hd => rfl); (case hg => rfl); (case hr => first | (go_simp; done) | (go_simp; rfl)); intro gb320 hg w12 hbox hb; have n4_ := Aside0.mk (hbox); have n5_ := Aside0.mk ((by rw [hg]; exact (below_size q3_14) : w.heap.size ≤ gb320)); have n6_ := Aside0.mk ((by rw [hg]; exact (below_size q3_14) : w.heap.size ≤ gb320)); have n7_ := Aside0.mk ((q3_24 : gb313 ≠ gb320)); have n8_ := Aside0.mk ((q3_25 : gb320 ≠ gb313)); replace HO309 := Aside0.mk (Kd.R_below q3_23 hb); replace HO316 := Aside0.mk (Kd.R_below q3_27 hb); replace BK313 := z3bb BK313 hb; replace HB := Aside0.mk (below_step q3_14 hb); have BK320 := n4_; have GW320 := n5_; have GE320 := n6_; have NB313_320 := n7_; have NB320_313 := n8_; clear n4_ n5_ n6_ n7_ n8_; clear hb hbox hg; obtain ⟨Ao13, co13, eo13⟩ := Kd.R_slice HO316.out; subst eo13; have hnb14 := NB320_313.out; have hnc14 := NB313_320.out; have hcz15_0 := z3bc BK320 0; have hcz15_1 := z3bc BK320 1; have hcz15_2 := z3bc BK320 2; have hfz15_0 := blk_frozen BK320.out 0; have hfz15_1 := blk_frozen BK320.out 1; have hfz15_2 := blk_frozen BK320.out 2; have hcz16_0 := z3bc BK313 0; have hcz16_1 := z3bc BK313 1; have hcz16_2 := z3bc BK313 2; have hfz16_0 := blk_frozen BK313.out 0; have hfz16_1 := blk_frozen BK313.out 1; have hfz16_2 := blk_frozen BK313.out 2) | ((with_reducible refine gate_callee (f := 9) rfl ?_); refine goesL_ (some 30) rfl rfl Try.func9 (by kernel_rfl) rfl #[.agg #[.slice Ao9 t307.length co9, .int .i64 t310, .int .i64 t311], .int .i64 t312] rfl q3_1 ?_; (with_reducible refine (impl_TopAdd.calls k _ _ t307 t310 t311 t312 t321 t324 t325 t326 _ ?side1 ?side2 A5.out).mono ?_); (case side1 => refine (Kd.R_reads' (e := 54) (base := w.heap.size) (ok := fun k_ => (True ∧ some k_ ≠ (.slice Ao13 t314.length co13 : Value).ownBlock)) (n := t307.length) (c := co9) ?_).2.2; exact q3_9); (case side2 => exact (Kd.R_reads' HO309.out).2.1); rintro e w17 ⟨v322, rfl, ho0, hb⟩; refine ⟨_, rfl, ?_⟩; have n0_ := Aside0.mk (Kd.R_elder' q3_9 (Kd.R_base ho0) hb); have n1_ := Aside0.mk (Kd.R_elder' q3_18 (Kd.R_base ho0) hb); have n2_ := Aside0.mk (Kd.R_lower (Kd.R_new' (Kd.R_new' ho0 (Kd.R_lt q3_9)) (Kd.R_lt q3_18)) (below_size q3_11)); replace BK313 := Aside0.mk (blk_below (g := gb313) (o := .cells #[.slice Ao9 t307.length co9, .int .i64 t310, .int .i64 t311] 25 (0, 0)) (by (with_reducible repeat (first | refine blk_drewN ?_ _ | refine blk_drew ?_ | refine blk_alloc ?_ _)); refine blk_far ?_ NB313_320.out _; (with_reducible repeat (first | refine blk_drewN ?_ _ | refine blk_drew ?_ | refine blk_alloc ?_ _)); refine blk_far ?_ NB313_320.out _; (with_reducible repeat (first | refine blk_drewN ?_ _ | refine blk_drew ?_ | refine blk_alloc ?_ _)); refine blk_far ?_ NB313_320.out _; (with_reducible repeat (first | refine blk_drewN ?_ _ | refine blk_drew ?_ | refine blk_alloc ?_ _)); exact BK313.out) hb); replace BK320 := Aside0.mk (blk_below (g := gb320) (o := .cells #[.slice Ao13 t314.length co13, .int .i64 t317, .int .i64 t318] 25 (0, 0)) (by (with_reducible repeat (first | refine blk_drewN ?_ _ | refine blk_drew ?_ | refine blk_alloc ?_ _)); refine blk_put (cs := #[.slice Ao13 t314.length co13, .int .i64 t317, .int .i64 0]) ?_ 2 _ rfl; (with_reducible repeat (first | refine blk_drewN ?_ _ | refine blk_drew ?_ | refine blk_alloc ?_ _)); refine blk_put (cs := #[.slice Ao13 t314.length co13, .int .i64 0, .int .i64 0]) ?_ 1 _ rfl; (with_reducible repeat (first | refine blk_drewN ?_ _ | refine blk_drew ?_ | refine blk_alloc ?_ _)); refine blk_put (cs := #[.slice none 0 0, .int .i64 0, .int .i64 0]) ?_ 0 _ rfl; (with_reducible repeat (first | refine blk_drewN ?_ _ | refine blk_drew ?_ | refine blk_alloc ?_ _)); exact BK320.out) hb); replace HB := Aside0.mk (below_step q3_11 hb); clear HO309; clear HO316; have HO309 := n0_; have HO316 := n1_; have HO323 := n2_; clear n0_ n1_ n2_; (try clear hb); (try clear hb2); (try clear hk); (try clear hi); (try clear ho0)) | ((with_reducible refine gate_dst (N := 7) rfl ?_); refine box_event ?hg (N := 7) ?hd (cs := #[.slice none 0 0, .int .i64 0, .int .i64 0]) (t := 25) ?hr ?_; (case hd => rfl); (case hg => rfl); (case hr => first | (go_simp; done) | (go_simp; rfl)); intro gb327 hg w18 hbox hb; have n6_ := Aside0.mk (hbox); have n7_ := Aside0.mk ((by rw [hg]; exact (below_size q3_11) : w.heap.size ≤ gb327)); have n8_ := Aside0.mk ((by rw [hg]; exact (below_size q3_11) : w.heap.size ≤ gb327)); have n9_ := Aside0.mk ((q3_24 : gb313 ≠ gb327)); have n10_ := Aside0.mk ((q3_25 : gb327 ≠ gb313)); have n11_ := Aside0.mk ((by rw [hg]; exact Nat.ne_of_lt (blk_lt (g := gb320) (o := .cells #[.slice Ao13 t314.length co13, .int .i64 t317, .int .i64 t318] 25 (0, 0)) q3_26) : gb320 ≠ gb327)); have n12_ := Aside0.mk ((by rw [hg]; exact Nat.ne_of_gt (blk_lt (g := gb320) (o := .cells #[.slice Ao13 t314.length co13, .int .i64 t317, .int .i64 t318] 25 (0, 0)) q3_26) : gb327 ≠ gb320)); replace HO309 := Aside0.mk (Kd.R_below q3_23 hb); replace HO316 := Aside0.mk (Kd.R_below q3_27 hb); replace HO323 := Aside0.mk (Kd.R_below (by (with_reducible repeat (first | apply Kd.R_alloc | apply Kd.R_drewN | apply Kd.R_drew)); exact HO323.out) hb); replace BK313 := z3bb BK313 hb; replace BK320 := z3bb BK320 hb; replace HB := Aside0.mk (below_step q3_11 hb); have BK327 := n6_; have GW327 := n7_; have GE327 := n8_; have NB313_327 := n9_; have NB327_313 := n10_; have NB320_327 := n11_; have NB327_320 := n12_; clear n6_ n7_ n8_ n9_ n10_ n11_ n12_; clear hb hbox hg; obtain ⟨Ao19, co19, eo19⟩ := Kd.R_slice HO323.out; subst eo19; have hnb20 := NB327_313.out; have hnc20 := NB313_327.out; have hnb21 := NB327_320.out; have hnc21 := NB320_327.out; have hcz22_0 := z3bc BK327 0; have hcz22_1 := z3bc BK327 1; have hcz22_2 := z3bc BK327 2; have hfz22_0 := blk_frozen BK327.out 0; have hfz22_1 := blk_frozen BK327.out 1; have hfz22_2 := blk_frozen BK327.out 2))
    (try simp only [Act.put, List.setIfInBounds_toArray, List.set_cons_zero, List.set_cons_succ])
    go_cut [45] (fun v45 wc => ∃ (kq : Nat) (x45_5 : Bool), v45 = .bool x45_5 ∧ Aside0 (laws_FnTopAdd.j0 kq t312 t319 t326 x45_5 t307 t310 t311 t314 t317 t318 t321 t324 t325 = some r) ∧ Aside0 (kq ≤ k) ∧ Aside0 (Kd.R k54 54 wc w.heap.size (fun k_ => some k_ ≠ ((.slice Ao13 t314.length co13) : Value).ownBlock ∧ some k_ ≠ ((.slice Ao19 t321.length co19) : Value).ownBlock) (.slice Ao9 t307.length co9) t307) ∧ Aside0 (Kd.R k54 54 wc w.heap.size (fun k_ => some k_ ≠ ((.slice Ao9 t307.length co9) : Value).ownBlock ∧ some k_ ≠ ((.slice Ao19 t321.length co19) : Value).ownBlock) (.slice Ao13 t314.length co13) t314) ∧ Aside0 (Kd.R k54 54 wc w.heap.size (fun k_ => some k_ ≠ ((.slice Ao9 t307.length co9) : Value).ownBlock ∧ some k_ ≠ ((.slice Ao13 t314.length co13) : Value).ownBlock) (.slice Ao19 t321.length co19) t321) ∧ Aside0 (wc.heap[gb313]? = some (.cells #[(.slice Ao9 t307.length co9), .int .i64 t310, .int .i64 t311] 25 (0, 0))) ∧ Aside0 (wc.heap[gb320]? = some (.cells #[(.slice Ao13 t314.length co13), .int .i64 t317, .int .i64 t318] 25 (0, 0))) ∧ Aside0 (wc.heap[gb327]? = some (.cells #[(.slice Ao19 t321.length co19), .int .i64 t324, .int .i64 t325] 25 (0, 0))) ∧ Aside0 (Below w.heap.size w wc))
    case first =>
      have H := HC6.out;clear HC6
      by_cases c23 : (t326 != t319) = true
      · rw [if_pos c23] at H
        have c23b0 : (t326 != t319) = true := c23
        (try (have c23b1 : decide (t326 = t319) = false := by simpa using c23))
        (try (have c23b2 : (t326 == t319) = false := by simpa using c23))
        (try (have c23b3 : ¬ (t326 = t319) := by simpa using c23))
        clear c23;(first | rw [c23b0] | (simp only [i64_w, i32_w]; rw [c23b0]) | skip)
        have H' := Aside0.mk H
        clear H
        go_wp2
        go_meet
        case rel => exact ⟨_, (true), (by first | rfl | (simp; done) | (simp [*]; done)), H', ⟨by first | omega | exact Nat.le_refl _⟩, ⟨by (with_reducible repeat (first | apply Kd.R_alloc | apply Kd.R_drewN | apply Kd.R_drew)); exact Kd.R_mono (Kd.R_far (p := ⟨gb327, 2, none⟩) (Kd.R_far (p := ⟨gb327, 1, none⟩) (Kd.R_far (p := ⟨gb327, 0, none⟩) (Kd.R_types HO309.out BK327.out (by decide)) (fun _ hk => hk.2) (.slice Ao19 t321.length co19)) (fun _ hk => hk.2) (.int .i64 t324)) (fun _ hk => hk.2) (.int .i64 t325)) (fun _ hk => ⟨hk.1.1.2, hk.1.2⟩)⟩, ⟨by (with_reducible repeat (first | apply Kd.R_alloc | apply Kd.R_drewN | apply Kd.R_drew)); exact Kd.R_mono (Kd.R_far (p := ⟨gb327, 2, none⟩) (Kd.R_far (p := ⟨gb327, 1, none⟩) (Kd.R_far (p := ⟨gb327, 0, none⟩) (Kd.R_types HO316.out BK327.out (by decide)) (fun _ hk => hk.2) (.slice Ao19 t321.length co19)) (fun _ hk => hk.2) (.int .i64 t324)) (fun _ hk => hk.2) (.int .i64 t325)) (fun _ hk => ⟨hk.1.1.2, hk.1.2⟩)⟩, ⟨by (with_reducible repeat (first | apply Kd.R_alloc | apply Kd.R_drewN | apply Kd.R_drew)); exact Kd.R_mono (Kd.R_far (p := ⟨gb327, 2, none⟩) (Kd.R_far (p := ⟨gb327, 1, none⟩) (Kd.R_far (p := ⟨gb327, 0, none⟩) (Kd.R_types HO323.out BK327.out (by decide)) (fun _ hk => hk.2) (.slice Ao19 t321.length co19)) (fun _ hk => hk.2) (.int .i64 t324)) (fun _ hk => hk.2) (.int .i64 t325)) (fun _ hk => ⟨hk.1.1.2, hk.1.2⟩)⟩, ⟨by (with_reducible repeat (first | refine blk_drewN ?_ _ | refine blk_drew ?_ | refine blk_alloc ?_ _)); refine blk_far ?_ NB313_327.out _; (with_reducible repeat (first | refine blk_drewN ?_ _ | refine blk_drew ?_ | refine blk_alloc ?_ _)); refine blk_far ?_ NB313_327.out _; (with_reducible repeat (first | refine blk_drewN ?_ _ | refine blk_drew ?_ | refine blk_alloc ?_ _)); refine blk_far ?_ NB313_327.out _; (with_reducible repeat (first | refine blk_drewN ?_ _ | refine blk_drew ?_ | refine blk_alloc ?_ _)); exact BK313.out⟩, ⟨by (with_reducible repeat (first | refine blk_drewN ?_ _ | refine blk_drew ?_ | refine blk_alloc ?_ _)); refine blk_far ?_ NB320_327.out _; (with_reducible repeat (first | refine blk_drewN ?_ _ | refine blk_drew ?_ | refine blk_alloc ?_ _)); refine blk_far ?_ NB320_327.out _; (with_reducible repeat (first | refine blk_drewN ?_ _ | refine blk_drew ?_ | refine blk_alloc ?_ _)); refine blk_far ?_ NB320_327.out _; (with_reducible repeat (first | refine blk_drewN ?_ _ | refine blk_drew ?_ | refine blk_alloc ?_ _)); exact BK320.out⟩, ⟨by (with_reducible repeat (first | refine blk_drewN ?_ _ | refine blk_drew ?_ | refine blk_alloc ?_ _)); refine blk_put (cs := #[.slice Ao19 t321.length co19, .int .i64 t324, .int .i64 0]) ?_ 2 _ rfl; (with_reducible repeat (first | refine blk_drewN ?_ _ | refine blk_drew ?_ | refine blk_alloc ?_ _)); refine blk_put (cs := #[.slice Ao19 t321.length co19, .int .i64 0, .int .i64 0]) ?_ 1 _ rfl; (with_reducible repeat (first | refine blk_drewN ?_ _ | refine blk_drew ?_ | refine blk_alloc ?_ _)); refine blk_put (cs := #[.slice none 0 0, .int .i64 0, .int .i64 0]) ?_ 0 _ rfl; (with_reducible repeat (first | refine blk_drewN ?_ _ | refine blk_drew ?_ | refine blk_alloc ?_ _)); exact BK327.out⟩, ⟨q3_0⟩⟩
      · rw [if_neg c23] at H
        have c23b0 : (t326 != t319) = false := by simpa using c23
        (try (have c23b1 : decide (t326 = t319) = true := by simpa using c23))
        (try (have c23b2 : (t326 == t319) = true := by simpa using c23))
        clear c23;(first | rw [c23b0] | (simp only [i64_w, i32_w]; rw [c23b0]) | skip)
        replace H := Option.bind_eq_some_iff.mp H
        obtain ⟨t328, A240, H⟩ := H
        replace H : (if t328 = true then (laws_FnTopAdd.j0 k t312 t319 t326 (!t326) t307 t310 t311 t314 t317 t318 t321 t324 t325) else (laws_FnTopAdd.j0 k t312 t319 t326 true t307 t310 t311 t314 t317 t318 t321 t324 t325)) = some r := H
        have A24 := Aside0.mk A240;clear A240
        by_cases c25 : t328 = true
        · subst c25
          have H1 : (laws_FnTopAdd.j0 k t312 t319 t326 (!t326) t307 t310 t311 t314 t317 t318 t321 t324 t325) = some r := by rw [if_pos rfl] at H; exact H
          clear H;have H := H1;clear H1
          have H' := Aside0.mk H
          clear H;have hnb26 := NB327_313.out;have hnc26 := NB313_327.out;have hnb27 := NB327_320.out;have hnc27 := NB320_327.out;have hcz28_0 := z3bc BK327 0;have hcz28_1 := z3bc BK327 1;have hcz28_2 := z3bc BK327 2;have hfz28_0 := blk_frozen BK327.out 0;have hfz28_1 := blk_frozen BK327.out 1;have hfz28_2 := blk_frozen BK327.out 2;have hnb29 := NB320_313.out;have hnc29 := NB313_320.out;have hcz30_0 := z3bc BK320 0;have hcz30_1 := z3bc BK320 1;have hcz30_2 := z3bc BK320 2;have hfz30_0 := blk_frozen BK320.out 0;have hfz30_1 := blk_frozen BK320.out 1;have hfz30_2 := blk_frozen BK320.out 2
          go_wp2_with (first | (go_at_call 10; (with_reducible refine (laws_lkTop.calls k _ _ t321 t324 t325 _ _ t314 t317 t318 true _ ?side1 ?side2 ?side3 ?side4 A24.out).mono ?_); (case side1 => exact q3_21); (case side2 => exact (Kd.R_reads' HO323.out).2.1); (case side3 => exact q3_22); (case side4 => exact (Kd.R_reads' HO316.out).2.1); rintro e w31 ⟨rfl, hb⟩; have n0_ := Aside0.mk (Kd.R_below q3_19 hb); have n1_ := Aside0.mk (Kd.R_below q3_7 hb); have n2_ := Aside0.mk (Kd.R_below q3_6 hb); replace BK313 := Aside0.mk (blk_below (g := gb313) (o := .cells #[.slice Ao9 t307.length co9, .int .i64 t310, .int .i64 t311] 25 (0, 0)) q3_16 hb); replace BK320 := Aside0.mk (blk_below (g := gb320) (o := .cells #[.slice Ao13 t314.length co13, .int .i64 t317, .int .i64 t318] 25 (0, 0)) q3_17 hb); replace BK327 := Aside0.mk (blk_below (g := gb327) (o := .cells #[.slice Ao19 t321.length co19, .int .i64 t324, .int .i64 t325] 25 (0, 0)) q3_13 hb); replace HB := Aside0.mk (below_step q3_0 hb); clear HO309; clear HO316; clear HO323; have HO309 := n0_; have HO316 := n1_; have HO323 := n2_; clear n0_ n1_ n2_; (try clear hb); (try clear hb2); (try clear hk); (try clear hi)))
          go_meet
          case rel => exact ⟨_, (!t326), (by first | rfl | (simp; done) | (simp [*]; done)), H', ⟨by first | omega | exact Nat.le_refl _⟩, ⟨by (with_reducible repeat (first | apply Kd.R_alloc | apply Kd.R_drewN | apply Kd.R_drew)); exact Kd.R_mono HO309.out (fun _ hk => ⟨hk.1.2, hk.2⟩)⟩, ⟨by (with_reducible repeat (first | apply Kd.R_alloc | apply Kd.R_drewN | apply Kd.R_drew)); exact Kd.R_mono HO316.out (fun _ hk => ⟨hk.1.2, hk.2⟩)⟩, ⟨by (with_reducible repeat (first | apply Kd.R_alloc | apply Kd.R_drewN | apply Kd.R_drew)); exact Kd.R_mono HO323.out (fun _ hk => ⟨hk.1.2, hk.2⟩)⟩, ⟨by (with_reducible repeat (first | refine blk_drewN ?_ _ | refine blk_drew ?_ | refine blk_alloc ?_ _)); exact BK313.out⟩, ⟨by (with_reducible repeat (first | refine blk_drewN ?_ _ | refine blk_drew ?_ | refine blk_alloc ?_ _)); exact BK320.out⟩, ⟨by (with_reducible repeat (first | refine blk_drewN ?_ _ | refine blk_drew ?_ | refine blk_alloc ?_ _)); exact BK327.out⟩, ⟨q3_0⟩⟩
        · replace c25 := Bool.eq_false_iff.mpr c25
          subst c25
          have H1 : (laws_FnTopAdd.j0 k t312 t319 t326 true t307 t310 t311 t314 t317 t318 t321 t324 t325) = some r := by rw [if_neg (show ¬ (false = true) by decide)] at H; exact H
          clear H;have H := H1;clear H1
          have H' := Aside0.mk H
          clear H;have hnb32 := NB327_313.out;have hnc32 := NB313_327.out;have hnb33 := NB327_320.out;have hnc33 := NB320_327.out;have hcz34_0 := z3bc BK327 0;have hcz34_1 := z3bc BK327 1;have hcz34_2 := z3bc BK327 2;have hfz34_0 := blk_frozen BK327.out 0;have hfz34_1 := blk_frozen BK327.out 1;have hfz34_2 := blk_frozen BK327.out 2;have hnb35 := NB320_313.out;have hnc35 := NB313_320.out;have hcz36_0 := z3bc BK320 0;have hcz36_1 := z3bc BK320 1;have hcz36_2 := z3bc BK320 2;have hfz36_0 := blk_frozen BK320.out 0;have hfz36_1 := blk_frozen BK320.out 1;have hfz36_2 := blk_frozen BK320.out 2
          go_wp2_with (first | (go_at_call 10; (with_reducible refine (laws_lkTop.calls k _ _ t321 t324 t325 _ _ t314 t317 t318 false _ ?side1 ?side2 ?side3 ?side4 A24.out).mono ?_); (case side1 => exact q3_21); (case side2 => exact (Kd.R_reads' HO323.out).2.1); (case side3 => exact q3_22); (case side4 => exact (Kd.R_reads' HO316.out).2.1); rintro e w37 ⟨rfl, hb⟩; have n0_ := Aside0.mk (Kd.R_below q3_19 hb); have n1_ := Aside0.mk (Kd.R_below q3_7 hb); have n2_ := Aside0.mk (Kd.R_below q3_6 hb); replace BK313 := Aside0.mk (blk_below (g := gb313) (o := .cells #[.slice Ao9 t307.length co9, .int .i64 t310, .int .i64 t311] 25 (0, 0)) q3_16 hb); replace BK320 := Aside0.mk (blk_below (g := gb320) (o := .cells #[.slice Ao13 t314.length co13, .int .i64 t317, .int .i64 t318] 25 (0, 0)) q3_17 hb); replace BK327 := Aside0.mk (blk_below (g := gb327) (o := .cells #[.slice Ao19 t321.length co19, .int .i64 t324, .int .i64 t325] 25 (0, 0)) q3_13 hb); replace HB := Aside0.mk (below_step q3_0 hb); clear HO309; clear HO316; clear HO323; have HO309 := n0_; have HO316 := n1_; have HO323 := n2_; clear n0_ n1_ n2_; (try clear hb); (try clear hb2); (try clear hk); (try clear hi)))
          go_meet
          case rel => exact ⟨_, (true), (by first | rfl | (simp; done) | (simp [*]; done)), H', ⟨by first | omega | exact Nat.le_refl _⟩, ⟨by (with_reducible repeat (first | apply Kd.R_alloc | apply Kd.R_drewN | apply Kd.R_drew)); exact Kd.R_mono HO309.out (fun _ hk => ⟨hk.1.2, hk.2⟩)⟩, ⟨by (with_reducible repeat (first | apply Kd.R_alloc | apply Kd.R_drewN | apply Kd.R_drew)); exact Kd.R_mono HO316.out (fun _ hk => ⟨hk.1.2, hk.2⟩)⟩, ⟨by (with_reducible repeat (first | apply Kd.R_alloc | apply Kd.R_drewN | apply Kd.R_drew)); exact Kd.R_mono HO323.out (fun _ hk => ⟨hk.1.2, hk.2⟩)⟩, ⟨by (with_reducible repeat (first | refine blk_drewN ?_ _ | refine blk_drew ?_ | refine blk_alloc ?_ _)); exact BK313.out⟩, ⟨by (with_reducible repeat (first | refine blk_drewN ?_ _ | refine blk_drew ?_ | refine blk_alloc ?_ _)); exact BK320.out⟩, ⟨by (with_reducible repeat (first | refine blk_drewN ?_ _ | refine blk_drew ?_ | refine blk_alloc ?_ _)); exact BK327.out⟩, ⟨q3_0⟩⟩
    case rest =>
      clear HC6
      try clear c1
      try clear c2
      try clear c2b0
      try clear c2b1
      try clear p2
      try clear c3
      try clear c7
      try clear c8
      try clear c9
      try clear c14
      try clear c20
      try clear c21
      try clear c23
      try clear c23b0
      try clear c23b1
      try clear c23b2
      try clear c25
      try clear c26
      try clear c27
      try clear c29
      try clear c32
      try clear c33
      try clear c35
      try clear hcz10_0
      try clear hcz10_1
      try clear hcz10_2
      try clear hcz15_0
      try clear hcz15_1
      try clear hcz15_2
      try clear hcz16_0
      try clear hcz16_1
      try clear hcz16_2
      try clear hcz22_0
      try clear hcz22_1
      try clear hcz22_2
      try clear hcz28_0
      try clear hcz28_1
      try clear hcz28_2
      try clear hcz30_0
      try clear hcz30_1
      try clear hcz30_2
      try clear hcz34_0
      try clear hcz34_1
      try clear hcz34_2
      try clear hcz36_0
      try clear hcz36_1
      try clear hcz36_2
      try clear hfz10_0
      try clear hfz10_1
      try clear hfz10_2
      try clear hfz15_0
      try clear hfz15_1
      try clear hfz15_2
      try clear hfz16_0
      try clear hfz16_1
      try clear hfz16_2
      try clear hfz22_0
      try clear hfz22_1
      try clear hfz22_2
      try clear hfz28_0
      try clear hfz28_1
      try clear hfz28_2
      try clear hfz30_0
      try clear hfz30_1
      try clear hfz30_2
      try clear hfz34_0
      try clear hfz34_1
      try clear hfz34_2
      try clear hfz36_0
      try clear hfz36_1
      try clear hfz36_2
      obtain ⟨kq, x45_5, rfl, HA, HJ5, HO_314000, HO_321000, HO_328000, BK313, BK320, BK327, HB⟩ := hcut
      cases kq with
      | zero => exact absurd HA.out (by simp [laws_FnTopAdd.j0])
      | succ kj5 =>
        have H := HA.out;clear HA
        simp only [laws_FnTopAdd.j0] at H
        by_cases c38 : x45_5 = true
        · subst c38
          have H1 : (if (t326 == t319) = true then ((laws_lkTop.f kj5 t321 t324 t325 t314 t317 t318).bind fun t329 => (some t329)) else (some false)) = some r := by rw [if_pos rfl] at H; exact H
          clear H;have H := H1;clear H1
          by_cases c39 : (t326 == t319) = true
          · rw [if_pos c39] at H
            have c39b0 : (t326 == t319) = true := c39
            (try (have c39b1 : decide (t326 = t319) = true := by simpa using c39))
            (try (have c39b2 : (t326 == t319) = true := by simpa using c39))
            clear c39
            replace H := Option.bind_eq_some_iff.mp H
            obtain ⟨t329, A400, H⟩ := H
            replace H : (some t329) = some r := H
            have A40 := Aside0.mk A400;clear A400
            obtain rfl := Option.some.inj H
            have hnb41 := NB327_313.out;have hnc41 := NB313_327.out;have hnb42 := NB327_320.out;have hnc42 := NB320_327.out;have hcz43_0 := z3bc BK327 0;have hcz43_1 := z3bc BK327 1;have hcz43_2 := z3bc BK327 2;have hfz43_0 := blk_frozen BK327.out 0;have hfz43_1 := blk_frozen BK327.out 1;have hfz43_2 := blk_frozen BK327.out 2;have hnb44 := NB320_313.out;have hnc44 := NB313_320.out;have hcz45_0 := z3bc BK320 0;have hcz45_1 := z3bc BK320 1;have hcz45_2 := z3bc BK320 2;have hfz45_0 := blk_frozen BK320.out 0;have hfz45_1 := blk_frozen BK320.out 1;have hfz45_2 := blk_frozen BK320.out 2
            go_wp2_with (first | (go_at_call 10; (with_reducible refine (laws_lkTop.calls kj5 _ _ t321 t324 t325 _ _ t314 t317 t318 t329 _ ?side1 ?side2 ?side3 ?side4 A40.out).mono ?_); (case side1 => exact q3_2); (case side2 => exact (Kd.R_reads' HO_328000.out).2.1); (case side3 => repeat (first | exact (Kd.R_reads' HO_321000.out).2.2 | (with_reducible refine Kd.C_alloc ?_ _) | (with_reducible refine Kd.C_drewN ?_ _) | (with_reducible refine Kd.C_drew ?_))); (case side4 => exact (Kd.R_reads' HO_321000.out).2.1); rintro e w46 ⟨rfl, hb⟩; replace HO_314000 := Aside0.mk (Kd.R_below q3_3 hb); replace HO_321000 := Aside0.mk (Kd.R_below q3_4 hb); replace HO_328000 := Aside0.mk (Kd.R_below q3_5 hb); replace BK313 := z3bb BK313 hb; replace BK320 := z3bb BK320 hb; replace BK327 := z3bb BK327 hb; replace HB := Aside0.mk (below_step q3_0 hb); (try clear hb); (try clear hb2); (try clear hk); (try clear hi)))
            go_ret
            exact ⟨q3_12, q3_0⟩
          · rw [if_neg c39] at H
            have c39b0 : (t326 == t319) = false := by simpa using c39
            (try (have c39b1 : decide (t326 = t319) = false := by simpa using c39))
            (try (have c39b2 : (t326 == t319) = false := by simpa using c39))
            (try (have c39b3 : ¬ (t326 = t319) := by simpa using c39))
            clear c39
            obtain rfl := Option.some.inj H
            go_wp2
            go_ret
            exact ⟨q3_12, q3_0⟩
        · replace c38 := Bool.eq_false_iff.mpr c38
          subst c38
          have H1 : ((impl_TopGet.f kj5 t307 t310 t311 t312).bind fun bt330 => ((impl_TopGet.f kj5 t321 t324 t325 t312).bind fun bt332 => ((impl_TopOk.f kj5 t321 t324 t325).bind fun t334 => (if t334 = true then (if t325 = (wrap64 (t311 + 1)) then (if (wrap64 (t324 - t310)) ≥ 0 then (if (wrap64 (t324 - t310)) ≤ 1 then (if bt332.1 ≤ (wrap64 (bt330.1 + 1)) then (some (decide (bt332.2 ≥ bt330.2))) else (some false)) else (some false)) else (some false)) else (some false)) else (some false))))) = some r := by rw [if_neg (show ¬ (false = true) by decide)] at H; exact H
          clear H;have H := H1;clear H1
          replace H := Option.bind_eq_some_iff.mp H
          obtain ⟨⟨t330, t331⟩, A470, H⟩ := H
          replace H : ((impl_TopGet.f kj5 t321 t324 t325 t312).bind fun bt332 => ((impl_TopOk.f kj5 t321 t324 t325).bind fun t334 => (if t334 = true then (if t325 = (wrap64 (t311 + 1)) then (if (wrap64 (t324 - t310)) ≥ 0 then (if (wrap64 (t324 - t310)) ≤ 1 then (if bt332.1 ≤ (wrap64 (t330 + 1)) then (some (decide (bt332.2 ≥ t331))) else (some false)) else (some false)) else (some false)) else (some false)) else (some false)))) = some r := H
          have A47 := Aside0.mk A470;clear A470
          replace H := Option.bind_eq_some_iff.mp H
          obtain ⟨⟨t332, t333⟩, A480, H⟩ := H
          replace H : ((impl_TopOk.f kj5 t321 t324 t325).bind fun t334 => (if t334 = true then (if t325 = (wrap64 (t311 + 1)) then (if (wrap64 (t324 - t310)) ≥ 0 then (if (wrap64 (t324 - t310)) ≤ 1 then (if t332 ≤ (wrap64 (t330 + 1)) then (some (decide (t333 ≥ t331))) else (some false)) else (some false)) else (some false)) else (some false)) else (some false))) = some r := H
          have A48 := Aside0.mk A480;clear A480
          replace H := Option.bind_eq_some_iff.mp H
          obtain ⟨t334, A490, H⟩ := H
          replace H : (if t334 = true then (if t325 = (wrap64 (t311 + 1)) then (if (wrap64 (t324 - t310)) ≥ 0 then (if (wrap64 (t324 - t310)) ≤ 1 then (if t332 ≤ (wrap64 (t330 + 1)) then (some (decide (t333 ≥ t331))) else (some false)) else (some false)) else (some false)) else (some false)) else (some false)) = some r := H
          have A49 := Aside0.mk A490;clear A490
          by_cases c50 : t334 = true
          · subst c50
            have H1 : (if t325 = (wrap64 (t311 + 1)) then (if (wrap64 (t324 - t310)) ≥ 0 then (if (wrap64 (t324 - t310)) ≤ 1 then (if t332 ≤ (wrap64 (t330 + 1)) then (some (decide (t333 ≥ t331))) else (some false)) else (some false)) else (some false)) else (some false)) = some r := by rw [if_pos rfl] at H; exact H
            clear H;have H := H1;clear H1
            by_cases c51 : t325 = (wrap64 (t311 + 1))
            · rw [if_pos c51] at H
              have c51b0 : (t325 == (wrap64 (t311 + 1))) = true := beq_iff_eq.mpr c51
              have c51b1 : (t325 != (wrap64 (t311 + 1))) = false := bne_eq_false_iff_eq.mpr c51
              clear c51
              by_cases c52 : (wrap64 (t324 - t310)) ≥ 0
              · rw [if_pos c52] at H
                have c52b0 : decide (0 ≤ (wrap64 (t324 - t310))) = true := decide_eq_true c52
                clear c52
                by_cases c53 : (wrap64 (t324 - t310)) ≤ 1
                · rw [if_pos c53] at H
                  have c53b0 : decide ((wrap64 (t324 - t310)) ≤ 1) = true := decide_eq_true c53
                  clear c53
                  by_cases c54 : t332 ≤ (wrap64 (t330 + 1))
                  · rw [if_pos c54] at H
                    have c54b0 : decide (t332 ≤ (wrap64 (t330 + 1))) = true := decide_eq_true c54
                    clear c54
                    obtain rfl := Option.some.inj H
                    have hnb55 := NB313_320.out;have hnc55 := NB320_313.out;have hnb56 := NB313_327.out;have hnc56 := NB327_313.out;have hcz57_0 := z3bc BK313 0;have hcz57_1 := z3bc BK313 1;have hcz57_2 := z3bc BK313 2;have hfz57_0 := blk_frozen BK313.out 0;have hfz57_1 := blk_frozen BK313.out 1;have hfz57_2 := blk_frozen BK313.out 2
                    go_wp2_with (first | ((with_reducible refine gate_callee (f := 11) rfl ?_); refine goesL_ (some 57) rfl rfl Try.func11 (by kernel_rfl) rfl #[.agg #[.slice Ao9 t307.length co9, .int .i64 t310, .int .i64 t311], .int .i64 t312] rfl q3_1 ?_; (with_reducible refine (impl_TopGet.calls kj5 _ _ t307 t310 t311 t312 t330 t331 _ ?side1 ?side2 A47.out).mono ?_); (case side1 => exact q3_8); (case side2 => exact (Kd.R_reads' HO_314000.out).2.1); rintro e w58 ⟨rfl, hb⟩; refine ⟨_, rfl, ?_⟩; replace HO_314000 := Aside0.mk (Kd.R_below q3_3 hb); replace HO_321000 := Aside0.mk (Kd.R_below q3_4 hb); replace HO_328000 := Aside0.mk (Kd.R_below q3_5 hb); replace BK313 := z3bb BK313 hb; replace BK320 := z3bb BK320 hb; replace BK327 := z3bb BK327 hb; replace HB := Aside0.mk (below_step q3_0 hb); (try clear hb); (try clear hb2); (try clear hk); (try clear hi); have hnb59 := NB327_320.out; have hnc59 := NB320_327.out; have hcz60_0 := z3bc BK327 0; have hcz60_1 := z3bc BK327 1; have hcz60_2 := z3bc BK327 2; have hfz60_0 := blk_frozen BK327.out 0; have hfz60_1 := blk_frozen BK327.out 1; have hfz60_2 := blk_frozen BK327.out 2) | ((with_reducible refine gate_callee (f := 11) rfl ?_); refine goesL_ (some 63) rfl rfl Try.func11 (by kernel_rfl) rfl #[.agg #[.slice Ao19 t321.length co19, .int .i64 t324, .int .i64 t325], .int .i64 t312] rfl q3_1 ?_; (with_reducible refine (impl_TopGet.calls kj5 _ _ t321 t324 t325 t312 t332 t333 _ ?side1 ?side2 A48.out).mono ?_); (case side1 => exact q3_2); (case side2 => exact (Kd.R_reads' HO_328000.out).2.1); rintro e w61 ⟨rfl, hb⟩; refine ⟨_, rfl, ?_⟩; replace HO_314000 := Aside0.mk (Kd.R_below q3_3 hb); replace HO_321000 := Aside0.mk (Kd.R_below q3_4 hb); replace HO_328000 := Aside0.mk (Kd.R_below q3_5 hb); replace BK313 := z3bb BK313 hb; replace BK320 := z3bb BK320 hb; replace BK327 := z3bb BK327 hb; replace HB := Aside0.mk (below_step q3_0 hb); (try clear hb); (try clear hb2); (try clear hk); (try clear hi); have hcz62_0 := z3bc BK327 0; have hcz62_1 := z3bc BK327 1; have hcz62_2 := z3bc BK327 2; have hfz62_0 := blk_frozen BK327.out 0; have hfz62_1 := blk_frozen BK327.out 1; have hfz62_2 := blk_frozen BK327.out 2) | ((with_reducible refine gate_callee (f := 12) rfl ?_); refine goesL_ (some 67) rfl rfl Try.func12 (by kernel_rfl) rfl #[.agg #[.slice Ao19 t321.length co19, .int .i64 t324, .int .i64 t325]] rfl q3_1 ?_; (with_reducible refine (impl_TopOk.calls kj5 _ _ t321 t324 t325 true _ ?side1 ?side2 A49.out).mono ?_); (case side1 => exact q3_2); (case side2 => exact (Kd.R_reads' HO_328000.out).2.1); rintro e w63 ⟨rfl, hb⟩; refine ⟨_, rfl, ?_⟩; replace HO_314000 := Aside0.mk (Kd.R_below q3_3 hb); replace HO_321000 := Aside0.mk (Kd.R_below q3_4 hb); replace HO_328000 := Aside0.mk (Kd.R_below q3_5 hb); replace BK313 := z3bb BK313 hb; replace BK320 := z3bb BK320 hb; replace BK327 := z3bb BK327 hb; replace HB := Aside0.mk (below_step q3_0 hb); (try clear hb); (try clear hb2); (try clear hk); (try clear hi); have hcz64_0 := z3bc BK327 0; have hcz64_1 := z3bc BK327 1; have hcz64_2 := z3bc BK327 2; have hfz64_0 := blk_frozen BK327.out 0; have hfz64_1 := blk_frozen BK327.out 1; have hfz64_2 := blk_frozen BK327.out 2; have hcz65_0 := z3bc BK313 0; have hcz65_1 := z3bc BK313 1; have hcz65_2 := z3bc BK313 2; have hfz65_0 := blk_frozen BK313.out 0; have hfz65_1 := blk_frozen BK313.out 1; have hfz65_2 := blk_frozen BK313.out 2))
                    go_ret
                    exact ⟨q3_12, q3_0⟩
                  · rw [if_neg c54] at H
                    have c54b0 : decide (t332 ≤ (wrap64 (t330 + 1))) = false := decide_eq_false c54
                    clear c54
                    obtain rfl := Option.some.inj H
                    have hnb66 := NB313_320.out;have hnc66 := NB320_313.out;have hnb67 := NB313_327.out;have hnc67 := NB327_313.out;have hcz68_0 := z3bc BK313 0;have hcz68_1 := z3bc BK313 1;have hcz68_2 := z3bc BK313 2;have hfz68_0 := blk_frozen BK313.out 0;have hfz68_1 := blk_frozen BK313.out 1;have hfz68_2 := blk_frozen BK313.out 2
                    go_wp2_with (first | ((with_reducible refine gate_callee (f := 11) rfl ?_); refine goesL_ (some 57) rfl rfl Try.func11 (by kernel_rfl) rfl #[.agg #[.slice Ao9 t307.length co9, .int .i64 t310, .int .i64 t311], .int .i64 t312] rfl q3_1 ?_; (with_reducible refine (impl_TopGet.calls kj5 _ _ t307 t310 t311 t312 t330 t331 _ ?side1 ?side2 A47.out).mono ?_); (case side1 => exact q3_8); (case side2 => exact (Kd.R_reads' HO_314000.out).2.1); rintro e w69 ⟨rfl, hb⟩; refine ⟨_, rfl, ?_⟩; replace HO_314000 := Aside0.mk (Kd.R_below q3_3 hb); replace HO_321000 := Aside0.mk (Kd.R_below q3_4 hb); replace HO_328000 := Aside0.mk (Kd.R_below q3_5 hb); replace BK313 := z3bb BK313 hb; replace BK320 := z3bb BK320 hb; replace BK327 := z3bb BK327 hb; replace HB := Aside0.mk (below_step q3_0 hb); (try clear hb); (try clear hb2); (try clear hk); (try clear hi); have hnb70 := NB327_320.out; have hnc70 := NB320_327.out; have hcz71_0 := z3bc BK327 0; have hcz71_1 := z3bc BK327 1; have hcz71_2 := z3bc BK327 2; have hfz71_0 := blk_frozen BK327.out 0; have hfz71_1 := blk_frozen BK327.out 1; have hfz71_2 := blk_frozen BK327.out 2) | ((with_reducible refine gate_callee (f := 11) rfl ?_); refine goesL_ (some 63) rfl rfl Try.func11 (by kernel_rfl) rfl #[.agg #[.slice Ao19 t321.length co19, .int .i64 t324, .int .i64 t325], .int .i64 t312] rfl q3_1 ?_; (with_reducible refine (impl_TopGet.calls kj5 _ _ t321 t324 t325 t312 t332 t333 _ ?side1 ?side2 A48.out).mono ?_); (case side1 => exact q3_2); (case side2 => exact (Kd.R_reads' HO_328000.out).2.1); rintro e w72 ⟨rfl, hb⟩; refine ⟨_, rfl, ?_⟩; replace HO_314000 := Aside0.mk (Kd.R_below q3_3 hb); replace HO_321000 := Aside0.mk (Kd.R_below q3_4 hb); replace HO_328000 := Aside0.mk (Kd.R_below q3_5 hb); replace BK313 := z3bb BK313 hb; replace BK320 := z3bb BK320 hb; replace BK327 := z3bb BK327 hb; replace HB := Aside0.mk (below_step q3_0 hb); (try clear hb); (try clear hb2); (try clear hk); (try clear hi); have hcz73_0 := z3bc BK327 0; have hcz73_1 := z3bc BK327 1; have hcz73_2 := z3bc BK327 2; have hfz73_0 := blk_frozen BK327.out 0; have hfz73_1 := blk_frozen BK327.out 1; have hfz73_2 := blk_frozen BK327.out 2) | ((with_reducible refine gate_callee (f := 12) rfl ?_); refine goesL_ (some 67) rfl rfl Try.func12 (by kernel_rfl) rfl #[.agg #[.slice Ao19 t321.length co19, .int .i64 t324, .int .i64 t325]] rfl q3_1 ?_; (with_reducible refine (impl_TopOk.calls kj5 _ _ t321 t324 t325 true _ ?side1 ?side2 A49.out).mono ?_); (case side1 => exact q3_2); (case side2 => exact (Kd.R_reads' HO_328000.out).2.1); rintro e w74 ⟨rfl, hb⟩; refine ⟨_, rfl, ?_⟩; replace HO_314000 := Aside0.mk (Kd.R_below q3_3 hb); replace HO_321000 := Aside0.mk (Kd.R_below q3_4 hb); replace HO_328000 := Aside0.mk (Kd.R_below q3_5 hb); replace BK313 := z3bb BK313 hb; replace BK320 := z3bb BK320 hb; replace BK327 := z3bb BK327 hb; replace HB := Aside0.mk (below_step q3_0 hb); (try clear hb); (try clear hb2); (try clear hk); (try clear hi); have hcz75_0 := z3bc BK327 0; have hcz75_1 := z3bc BK327 1; have hcz75_2 := z3bc BK327 2; have hfz75_0 := blk_frozen BK327.out 0; have hfz75_1 := blk_frozen BK327.out 1; have hfz75_2 := blk_frozen BK327.out 2; have hcz76_0 := z3bc BK313 0; have hcz76_1 := z3bc BK313 1; have hcz76_2 := z3bc BK313 2; have hfz76_0 := blk_frozen BK313.out 0; have hfz76_1 := blk_frozen BK313.out 1; have hfz76_2 := blk_frozen BK313.out 2))
                    go_ret
                    exact ⟨q3_12, q3_0⟩
                · rw [if_neg c53] at H
                  have c53b0 : decide ((wrap64 (t324 - t310)) ≤ 1) = false := decide_eq_false c53
                  clear c53
                  obtain rfl := Option.some.inj H
                  have hnb77 := NB313_320.out;have hnc77 := NB320_313.out;have hnb78 := NB313_327.out;have hnc78 := NB327_313.out;have hcz79_0 := z3bc BK313 0;have hcz79_1 := z3bc BK313 1;have hcz79_2 := z3bc BK313 2;have hfz79_0 := blk_frozen BK313.out 0;have hfz79_1 := blk_frozen BK313.out 1;have hfz79_2 := blk_frozen BK313.out 2
                  go_wp2_with (first | ((with_reducible refine gate_callee (f := 11) rfl ?_); refine goesL_ (some 57) rfl rfl Try.func11 (by kernel_rfl) rfl #[.agg #[.slice Ao9 t307.length co9, .int .i64 t310, .int .i64 t311], .int .i64 t312] rfl q3_1 ?_; (with_reducible refine (impl_TopGet.calls kj5 _ _ t307 t310 t311 t312 t330 t331 _ ?side1 ?side2 A47.out).mono ?_); (case side1 => exact q3_8); (case side2 => exact (Kd.R_reads' HO_314000.out).2.1); rintro e w80 ⟨rfl, hb⟩; refine ⟨_, rfl, ?_⟩; replace HO_314000 := Aside0.mk (Kd.R_below q3_3 hb); replace HO_321000 := Aside0.mk (Kd.R_below q3_4 hb); replace HO_328000 := Aside0.mk (Kd.R_below q3_5 hb); replace BK313 := z3bb BK313 hb; replace BK320 := z3bb BK320 hb; replace BK327 := z3bb BK327 hb; replace HB := Aside0.mk (below_step q3_0 hb); (try clear hb); (try clear hb2); (try clear hk); (try clear hi); have hnb81 := NB327_320.out; have hnc81 := NB320_327.out; have hcz82_0 := z3bc BK327 0; have hcz82_1 := z3bc BK327 1; have hcz82_2 := z3bc BK327 2; have hfz82_0 := blk_frozen BK327.out 0; have hfz82_1 := blk_frozen BK327.out 1; have hfz82_2 := blk_frozen BK327.out 2) | ((with_reducible refine gate_callee (f := 11) rfl ?_); refine goesL_ (some 63) rfl rfl Try.func11 (by kernel_rfl) rfl #[.agg #[.slice Ao19 t321.length co19, .int .i64 t324, .int .i64 t325], .int .i64 t312] rfl q3_1 ?_; (with_reducible refine (impl_TopGet.calls kj5 _ _ t321 t324 t325 t312 t332 t333 _ ?side1 ?side2 A48.out).mono ?_); (case side1 => exact q3_2); (case side2 => exact (Kd.R_reads' HO_328000.out).2.1); rintro e w83 ⟨rfl, hb⟩; refine ⟨_, rfl, ?_⟩; replace HO_314000 := Aside0.mk (Kd.R_below q3_3 hb); replace HO_321000 := Aside0.mk (Kd.R_below q3_4 hb); replace HO_328000 := Aside0.mk (Kd.R_below q3_5 hb); replace BK313 := z3bb BK313 hb; replace BK320 := z3bb BK320 hb; replace BK327 := z3bb BK327 hb; replace HB := Aside0.mk (below_step q3_0 hb); (try clear hb); (try clear hb2); (try clear hk); (try clear hi); have hcz84_0 := z3bc BK327 0; have hcz84_1 := z3bc BK327 1; have hcz84_2 := z3bc BK327 2; have hfz84_0 := blk_frozen BK327.out 0; have hfz84_1 := blk_frozen BK327.out 1; have hfz84_2 := blk_frozen BK327.out 2) | ((with_reducible refine gate_callee (f := 12) rfl ?_); refine goesL_ (some 67) rfl rfl Try.func12 (by kernel_rfl) rfl #[.agg #[.slice Ao19 t321.length co19, .int .i64 t324, .int .i64 t325]] rfl q3_1 ?_; (with_reducible refine (impl_TopOk.calls kj5 _ _ t321 t324 t325 true _ ?side1 ?side2 A49.out).mono ?_); (case side1 => exact q3_2); (case side2 => exact (Kd.R_reads' HO_328000.out).2.1); rintro e w85 ⟨rfl, hb⟩; refine ⟨_, rfl, ?_⟩; replace HO_314000 := Aside0.mk (Kd.R_below q3_3 hb); replace HO_321000 := Aside0.mk (Kd.R_below q3_4 hb); replace HO_328000 := Aside0.mk (Kd.R_below q3_5 hb); replace BK313 := z3bb BK313 hb; replace BK320 := z3bb BK320 hb; replace BK327 := z3bb BK327 hb; replace HB := Aside0.mk (below_step q3_0 hb); (try clear hb); (try clear hb2); (try clear hk); (try clear hi); have hcz86_0 := z3bc BK327 0; have hcz86_1 := z3bc BK327 1; have hcz86_2 := z3bc BK327 2; have hfz86_0 := blk_frozen BK327.out 0; have hfz86_1 := blk_frozen BK327.out 1; have hfz86_2 := blk_frozen BK327.out 2; have hcz87_0 := z3bc BK313 0; have hcz87_1 := z3bc BK313 1; have hcz87_2 := z3bc BK313 2; have hfz87_0 := blk_frozen BK313.out 0; have hfz87_1 := blk_frozen BK313.out 1; have hfz87_2 := blk_frozen BK313.out 2))
                  go_ret
                  exact ⟨q3_12, q3_0⟩
              · rw [if_neg c52] at H
                have c52b0 : decide (0 ≤ (wrap64 (t324 - t310))) = false := decide_eq_false c52
                clear c52
                obtain rfl := Option.some.inj H
                have hnb88 := NB313_320.out;have hnc88 := NB320_313.out;have hnb89 := NB313_327.out;have hnc89 := NB327_313.out;have hcz90_0 := z3bc BK313 0;have hcz90_1 := z3bc BK313 1;have hcz90_2 := z3bc BK313 2;have hfz90_0 := blk_frozen BK313.out 0;have hfz90_1 := blk_frozen BK313.out 1;have hfz90_2 := blk_frozen BK313.out 2
                go_wp2_with (first | ((with_reducible refine gate_callee (f := 11) rfl ?_); refine goesL_ (some 57) rfl rfl Try.func11 (by kernel_rfl) rfl #[.agg #[.slice Ao9 t307.length co9, .int .i64 t310, .int .i64 t311], .int .i64 t312] rfl q3_1 ?_; (with_reducible refine (impl_TopGet.calls kj5 _ _ t307 t310 t311 t312 t330 t331 _ ?side1 ?side2 A47.out).mono ?_); (case side1 => exact q3_8); (case side2 => exact (Kd.R_reads' HO_314000.out).2.1); rintro e w91 ⟨rfl, hb⟩; refine ⟨_, rfl, ?_⟩; replace HO_314000 := Aside0.mk (Kd.R_below q3_3 hb); replace HO_321000 := Aside0.mk (Kd.R_below q3_4 hb); replace HO_328000 := Aside0.mk (Kd.R_below q3_5 hb); replace BK313 := z3bb BK313 hb; replace BK320 := z3bb BK320 hb; replace BK327 := z3bb BK327 hb; replace HB := Aside0.mk (below_step q3_0 hb); (try clear hb); (try clear hb2); (try clear hk); (try clear hi); have hnb92 := NB327_320.out; have hnc92 := NB320_327.out; have hcz93_0 := z3bc BK327 0; have hcz93_1 := z3bc BK327 1; have hcz93_2 := z3bc BK327 2; have hfz93_0 := blk_frozen BK327.out 0; have hfz93_1 := blk_frozen BK327.out 1; have hfz93_2 := blk_frozen BK327.out 2) | ((with_reducible refine gate_callee (f := 11) rfl ?_); refine goesL_ (some 63) rfl rfl Try.func11 (by kernel_rfl) rfl #[.agg #[.slice Ao19 t321.length co19, .int .i64 t324, .int .i64 t325], .int .i64 t312] rfl q3_1 ?_; (with_reducible refine (impl_TopGet.calls kj5 _ _ t321 t324 t325 t312 t332 t333 _ ?side1 ?side2 A48.out).mono ?_); (case side1 => exact q3_2); (case side2 => exact (Kd.R_reads' HO_328000.out).2.1); rintro e w94 ⟨rfl, hb⟩; refine ⟨_, rfl, ?_⟩; replace HO_314000 := Aside0.mk (Kd.R_below q3_3 hb); replace HO_321000 := Aside0.mk (Kd.R_below q3_4 hb); replace HO_328000 := Aside0.mk (Kd.R_below q3_5 hb); replace BK313 := z3bb BK313 hb; replace BK320 := z3bb BK320 hb; replace BK327 := z3bb BK327 hb; replace HB := Aside0.mk (below_step q3_0 hb); (try clear hb); (try clear hb2); (try clear hk); (try clear hi); have hcz95_0 := z3bc BK327 0; have hcz95_1 := z3bc BK327 1; have hcz95_2 := z3bc BK327 2; have hfz95_0 := blk_frozen BK327.out 0; have hfz95_1 := blk_frozen BK327.out 1; have hfz95_2 := blk_frozen BK327.out 2) | ((with_reducible refine gate_callee (f := 12) rfl ?_); refine goesL_ (some 67) rfl rfl Try.func12 (by kernel_rfl) rfl #[.agg #[.slice Ao19 t321.length co19, .int .i64 t324, .int .i64 t325]] rfl q3_1 ?_; (with_reducible refine (impl_TopOk.calls kj5 _ _ t321 t324 t325 true _ ?side1 ?side2 A49.out).mono ?_); (case side1 => exact q3_2); (case side2 => exact (Kd.R_reads' HO_328000.out).2.1); rintro e w96 ⟨rfl, hb⟩; refine ⟨_, rfl, ?_⟩; replace HO_314000 := Aside0.mk (Kd.R_below q3_3 hb); replace HO_321000 := Aside0.mk (Kd.R_below q3_4 hb); replace HO_328000 := Aside0.mk (Kd.R_below q3_5 hb); replace BK313 := z3bb BK313 hb; replace BK320 := z3bb BK320 hb; replace BK327 := z3bb BK327 hb; replace HB := Aside0.mk (below_step q3_0 hb); (try clear hb); (try clear hb2); (try clear hk); (try clear hi); have hcz97_0 := z3bc BK327 0; have hcz97_1 := z3bc BK327 1; have hcz97_2 := z3bc BK327 2; have hfz97_0 := blk_frozen BK327.out 0; have hfz97_1 := blk_frozen BK327.out 1; have hfz97_2 := blk_frozen BK327.out 2; have hcz98_0 := z3bc BK313 0; have hcz98_1 := z3bc BK313 1; have hcz98_2 := z3bc BK313 2; have hfz98_0 := blk_frozen BK313.out 0; have hfz98_1 := blk_frozen BK313.out 1; have hfz98_2 := blk_frozen BK313.out 2))
                go_ret
                exact ⟨q3_12, q3_0⟩
            · rw [if_neg c51] at H
              have c51b0 : (t325 == (wrap64 (t311 + 1))) = false := beq_eq_false_iff_ne.mpr c51
              have c51b1 : (t325 != (wrap64 (t311 + 1))) = true := bne_iff_ne.mpr c51
              obtain rfl := Option.some.inj H
              have hnb99 := NB313_320.out;have hnc99 := NB320_313.out;have hnb100 := NB313_327.out;have hnc100 := NB327_313.out;have hcz101_0 := z3bc BK313 0;have hcz101_1 := z3bc BK313 1;have hcz101_2 := z3bc BK313 2;have hfz101_0 := blk_frozen BK313.out 0;have hfz101_1 := blk_frozen BK313.out 1;have hfz101_2 := blk_frozen BK313.out 2
              go_wp2_with (first | ((with_reducible refine gate_callee (f := 11) rfl ?_); refine goesL_ (some 57) rfl rfl Try.func11 (by kernel_rfl) rfl #[.agg #[.slice Ao9 t307.length co9, .int .i64 t310, .int .i64 t311], .int .i64 t312] rfl q3_1 ?_; (with_reducible refine (impl_TopGet.calls kj5 _ _ t307 t310 t311 t312 t330 t331 _ ?side1 ?side2 A47.out).mono ?_); (case side1 => exact q3_8); (case side2 => exact (Kd.R_reads' HO_314000.out).2.1); rintro e w102 ⟨rfl, hb⟩; refine ⟨_, rfl, ?_⟩; replace HO_314000 := Aside0.mk (Kd.R_below q3_3 hb); replace HO_321000 := Aside0.mk (Kd.R_below q3_4 hb); replace HO_328000 := Aside0.mk (Kd.R_below q3_5 hb); replace BK313 := z3bb BK313 hb; replace BK320 := z3bb BK320 hb; replace BK327 := z3bb BK327 hb; replace HB := Aside0.mk (below_step q3_0 hb); (try clear hb); (try clear hb2); (try clear hk); (try clear hi); have hnb103 := NB327_320.out; have hnc103 := NB320_327.out; have hcz104_0 := z3bc BK327 0; have hcz104_1 := z3bc BK327 1; have hcz104_2 := z3bc BK327 2; have hfz104_0 := blk_frozen BK327.out 0; have hfz104_1 := blk_frozen BK327.out 1; have hfz104_2 := blk_frozen BK327.out 2) | ((with_reducible refine gate_callee (f := 11) rfl ?_); refine goesL_ (some 63) rfl rfl Try.func11 (by kernel_rfl) rfl #[.agg #[.slice Ao19 t321.length co19, .int .i64 t324, .int .i64 t325], .int .i64 t312] rfl q3_1 ?_; (with_reducible refine (impl_TopGet.calls kj5 _ _ t321 t324 t325 t312 t332 t333 _ ?side1 ?side2 A48.out).mono ?_); (case side1 => exact q3_2); (case side2 => exact (Kd.R_reads' HO_328000.out).2.1); rintro e w105 ⟨rfl, hb⟩; refine ⟨_, rfl, ?_⟩; replace HO_314000 := Aside0.mk (Kd.R_below q3_3 hb); replace HO_321000 := Aside0.mk (Kd.R_below q3_4 hb); replace HO_328000 := Aside0.mk (Kd.R_below q3_5 hb); replace BK313 := z3bb BK313 hb; replace BK320 := z3bb BK320 hb; replace BK327 := z3bb BK327 hb; replace HB := Aside0.mk (below_step q3_0 hb); (try clear hb); (try clear hb2); (try clear hk); (try clear hi); have hcz106_0 := z3bc BK327 0; have hcz106_1 := z3bc BK327 1; have hcz106_2 := z3bc BK327 2; have hfz106_0 := blk_frozen BK327.out 0; have hfz106_1 := blk_frozen BK327.out 1; have hfz106_2 := blk_frozen BK327.out 2) | ((with_reducible refine gate_callee (f := 12) rfl ?_); refine goesL_ (some 67) rfl rfl Try.func12 (by kernel_rfl) rfl #[.agg #[.slice Ao19 t321.length co19, .int .i64 t324, .int .i64 t325]] rfl q3_1 ?_; (with_reducible refine (impl_TopOk.calls kj5 _ _ t321 t324 t325 true _ ?side1 ?side2 A49.out).mono ?_); (case side1 => exact q3_2); (case side2 => exact (Kd.R_reads' HO_328000.out).2.1); rintro e w107 ⟨rfl, hb⟩; refine ⟨_, rfl, ?_⟩; replace HO_314000 := Aside0.mk (Kd.R_below q3_3 hb); replace HO_321000 := Aside0.mk (Kd.R_below q3_4 hb); replace HO_328000 := Aside0.mk (Kd.R_below q3_5 hb); replace BK313 := z3bb BK313 hb; replace BK320 := z3bb BK320 hb; replace BK327 := z3bb BK327 hb; replace HB := Aside0.mk (below_step q3_0 hb); (try clear hb); (try clear hb2); (try clear hk); (try clear hi); have hcz108_0 := z3bc BK327 0; have hcz108_1 := z3bc BK327 1; have hcz108_2 := z3bc BK327 2; have hfz108_0 := blk_frozen BK327.out 0; have hfz108_1 := blk_frozen BK327.out 1; have hfz108_2 := blk_frozen BK327.out 2; have hcz109_0 := z3bc BK313 0; have hcz109_1 := z3bc BK313 1; have hcz109_2 := z3bc BK313 2; have hfz109_0 := blk_frozen BK313.out 0; have hfz109_1 := blk_frozen BK313.out 1; have hfz109_2 := blk_frozen BK313.out 2))
              go_ret
              exact ⟨q3_12, q3_0⟩
          · replace c50 := Bool.eq_false_iff.mpr c50
            subst c50
            have H1 : (some false) = some r := by rw [if_neg (show ¬ (false = true) by decide)] at H; exact H
            clear H;have H := H1;clear H1
            obtain rfl := Option.some.inj H
            have hnb110 := NB313_320.out;have hnc110 := NB320_313.out;have hnb111 := NB313_327.out;have hnc111 := NB327_313.out;have hcz112_0 := z3bc BK313 0;have hcz112_1 := z3bc BK313 1;have hcz112_2 := z3bc BK313 2;have hfz112_0 := blk_frozen BK313.out 0;have hfz112_1 := blk_frozen BK313.out 1;have hfz112_2 := blk_frozen BK313.out 2
            go_wp2_with (first | ((with_reducible refine gate_callee (f := 11) rfl ?_); refine goesL_ (some 57) rfl rfl Try.func11 (by kernel_rfl) rfl #[.agg #[.slice Ao9 t307.length co9, .int .i64 t310, .int .i64 t311], .int .i64 t312] rfl q3_1 ?_; (with_reducible refine (impl_TopGet.calls kj5 _ _ t307 t310 t311 t312 t330 t331 _ ?side1 ?side2 A47.out).mono ?_); (case side1 => exact q3_8); (case side2 => exact (Kd.R_reads' HO_314000.out).2.1); rintro e w113 ⟨rfl, hb⟩; refine ⟨_, rfl, ?_⟩; replace HO_314000 := Aside0.mk (Kd.R_below q3_3 hb); replace HO_321000 := Aside0.mk (Kd.R_below q3_4 hb); replace HO_328000 := Aside0.mk (Kd.R_below q3_5 hb); replace BK313 := z3bb BK313 hb; replace BK320 := z3bb BK320 hb; replace BK327 := z3bb BK327 hb; replace HB := Aside0.mk (below_step q3_0 hb); (try clear hb); (try clear hb2); (try clear hk); (try clear hi); have hnb114 := NB327_320.out; have hnc114 := NB320_327.out; have hcz115_0 := z3bc BK327 0; have hcz115_1 := z3bc BK327 1; have hcz115_2 := z3bc BK327 2; have hfz115_0 := blk_frozen BK327.out 0; have hfz115_1 := blk_frozen BK327.out 1; have hfz115_2 := blk_frozen BK327.out 2) | ((with_reducible refine gate_callee (f := 11) rfl ?_); refine goesL_ (some 63) rfl rfl Try.func11 (by kernel_rfl) rfl #[.agg #[.slice Ao19 t321.length co19, .int .i64 t324, .int .i64 t325], .int .i64 t312] rfl q3_1 ?_; (with_reducible refine (impl_TopGet.calls kj5 _ _ t321 t324 t325 t312 t332 t333 _ ?side1 ?side2 A48.out).mono ?_); (case side1 => exact q3_2); (case side2 => exact (Kd.R_reads' HO_328000.out).2.1); rintro e w116 ⟨rfl, hb⟩; refine ⟨_, rfl, ?_⟩; replace HO_314000 := Aside0.mk (Kd.R_below q3_3 hb); replace HO_321000 := Aside0.mk (Kd.R_below q3_4 hb); replace HO_328000 := Aside0.mk (Kd.R_below q3_5 hb); replace BK313 := z3bb BK313 hb; replace BK320 := z3bb BK320 hb; replace BK327 := z3bb BK327 hb; replace HB := Aside0.mk (below_step q3_0 hb); (try clear hb); (try clear hb2); (try clear hk); (try clear hi); have hcz117_0 := z3bc BK327 0; have hcz117_1 := z3bc BK327 1; have hcz117_2 := z3bc BK327 2; have hfz117_0 := blk_frozen BK327.out 0; have hfz117_1 := blk_frozen BK327.out 1; have hfz117_2 := blk_frozen BK327.out 2) | ((with_reducible refine gate_callee (f := 12) rfl ?_); refine goesL_ (some 67) rfl rfl Try.func12 (by kernel_rfl) rfl #[.agg #[.slice Ao19 t321.length co19, .int .i64 t324, .int .i64 t325]] rfl q3_1 ?_; (with_reducible refine (impl_TopOk.calls kj5 _ _ t321 t324 t325 false _ ?side1 ?side2 A49.out).mono ?_); (case side1 => exact q3_2); (case side2 => exact (Kd.R_reads' HO_328000.out).2.1); rintro e w118 ⟨rfl, hb⟩; refine ⟨_, rfl, ?_⟩; replace HO_314000 := Aside0.mk (Kd.R_below q3_3 hb); replace HO_321000 := Aside0.mk (Kd.R_below q3_4 hb); replace HO_328000 := Aside0.mk (Kd.R_below q3_5 hb); replace BK313 := z3bb BK313 hb; replace BK320 := z3bb BK320 hb; replace BK327 := z3bb BK327 hb; replace HB := Aside0.mk (below_step q3_0 hb); (try clear hb); (try clear hb2); (try clear hk); (try clear hi)))
            go_ret
            exact ⟨q3_12, q3_0⟩

/-- THE ONE PURE STATEMENT of laws_FnTopAdd: yours. -/
def laws_FnTopAdd.Pure : Prop := ∀ (l0 : List Int), l0.length ≤ maxLen → l0.length * 1 ≤ 140737488351232 → (∀ x ∈ l0, (Lit.int .u8 x).wf = true) → ∃ k, laws_FnTopAdd.f k l0 = some true
theorem laws_FnTopAdd.walk (P : laws_FnTopAdd.Pure) (a0 : Option Addr) (len0 cap0 : Nat) (z0 : List Int) (w : World) (w0 : (a0 = none ∧ len0 = 0 ∧ cap0 = 0 ∧ z0 = []) ∨ ∃ x, a0 = some x ∧ len0 ≤ cap0 ∧ cap0 ≤ maxLen ∧ z0.length = cap0 ∧ (∀ i, i < z0.length → w.cell? (x.add i) = some (.int .u8 (z0.getD i 0))) ∧ ∀ n ∈ z0, (Lit.int .u8 n).wf = true) (y0 : len0 * 1 ≤ 140737488351232) :
    Calls Try.prog 3 #[.slice a0 len0 cap0] w fun e w' => e = .returned (.bool true) ∧ Below w.heap.size w w' := by
  obtain ⟨l0, rfl, hr0, hm0, hw0, hc0⟩ := ReadsInt.ofRowC w0;obtain ⟨k, h⟩ := P l0 hm0 y0 hw0;refine (laws_FnTopAdd.calls k _ _ l0 true w (Kd.C_of_reads (d := (0 : Int)) (h1 := fun _ => rfl) hr0) hc0 h).mono ?_;rintro e w' ⟨rfl, hd⟩
  exact ⟨rfl, hd⟩

end Go.Proofs.Ytlobnnakikgcnaa.PA
