-- Made by a program of this session (wip/tools/pr2.sh) out of the translation, by way of the printer: shared by the seat's laws.
import Derived.Test.YtlobnnakikgcnaaPAx0
import Derived.Test.YtlobnnakikgcnaaPAx10
import Derived.Test.YtlobnnakikgcnaaPAx44
import Derived.Test.YtlobnnakikgcnaaPsz
import Derived.Test.YtlobnnakikgcnaaPto
import Derived.Test.YtlobnnakikgcnaaPeq
import Derived.Test.YtlobnnakikgcnaaPmark
import Derived.Test.YtlobnnakikgcnaaPheld
namespace Go.Proofs.Ytlobnnakikgcnaa.PA
open Go.RowKit Go.Proofs.YtlobnnakikgcnaaW.PrintWords Go.Proofs.YtlobnnakikgcnaaW.PrintLast Go.Proofs.YtlobnnakikgcnaaW.PrintMore
attribute [local go_sem] max2_int min2_int max_two min_two max_three min_three max_four min_four   -- for this text's walks alone
set_option linter.unusedVariables false
set_option linter.unusedSimpArgs false

/-! ### laws_FnExactTopAdd: function 4 -/
mutual
def laws_FnExactTopAdd.j0 : Nat → Int → Bool → Bool → Bool → List (S70) → Int → Int → List (S54) → Int → Int → List (S54) → Int → Int → List (S54) → Int → Int → Option (Bool)
  | 0, _, _, _, _, _, _, _, _, _, _, _, _, _, _, _, _ => none
  | k + 1, x1, x7, x10, x44, x463000, x463001, x463002, x476000, x476001, x476002, x482000, x482001, x482002, x489000, x489001, x489002 => if x44 = true then (some false) else ((laws_toTop.f k x463000 x463001 x463002).bind fun bt490 => ((laws_eqTop.f k x482000 x482001 x482002 bt490.1 bt490.2.1 bt490.2.2).bind fun t495 => (if t495 = true then ((laws_markTop.f k x482000 x482001 x482002 1).bind fun bt496 => (if bt496.1 < 0 then (laws_FnExactTopAdd.j1 k x1 x7 true x463000 x463001 x463002 x476000 x476001 x476002 x489000 x489001 x489002) else ((laws_eqTop.f k x489000 x489001 x489002 x476000 x476001 x476002).bind fun t498 => (if t498 = true then (laws_FnExactTopAdd.j1 k x1 x7 (x10 != x7) x463000 x463001 x463002 x476000 x476001 x476002 x489000 x489001 x489002) else (laws_FnExactTopAdd.j1 k x1 x7 true x463000 x463001 x463002 x476000 x476001 x476002 x489000 x489001 x489002))))) else (some false))))
def laws_FnExactTopAdd.j1 : Nat → Int → Bool → Bool → List (S70) → Int → Int → List (S54) → Int → Int → List (S54) → Int → Int → Option (Bool)
  | 0, _, _, _, _, _, _, _, _, _, _, _, _ => none
  | k + 1, x1, x7, x65, x463000, x463001, x463002, x476000, x476001, x476002, x489000, x489001, x489002 => if x65 = true then (some false) else ((laws_markTop.f k x489000 x489001 x489002 1).bind fun bt499 => ((laws_heldTop.f k bt499.2 x489001 x489002 1).bind fun t501 => (if t501 < 0 then (some false) else (if t501 = bt499.1 then ((laws_toTop.f k x463000 x463001 x463002).bind fun bt502 => ((impl_TopAdd.f k bt502.1 bt502.2.1 bt502.2.2 x1).bind fun bt507 => ((laws_eqTop.f k bt507.1 bt507.2.1 bt507.2.2.1 x476000 x476001 x476002).bind fun t514 => (if t514 = true then (laws_FnExactTopAdd.j2 k bt499.1 (bt507.2.2.2 != x7) bt499.2 x489001 x489002) else (laws_FnExactTopAdd.j2 k bt499.1 true bt499.2 x489001 x489002))))) else (some false)))))
def laws_FnExactTopAdd.j2 : Nat → Int → Bool → List (S54) → Int → Int → Option (Bool)
  | 0, _, _, _, _, _ => none
  | k + 1, x12, x92, x489000, x489001, x489002 => if x92 = true then (some false) else ((laws_heldTop.f k x489000 x489001 x489002 1).bind fun t515 => (if t515 < 0 then (some false) else (if t515 = x12 then (some true) else (some false))))
end
def laws_FnExactTopAdd.f (k : Nat) (l0_0 : List (S70)) (a0_1 : Int) (a0_2 : Int) (a1 : Int) : Option (Bool) := (laws_szTop.f l0_0 a0_1 a0_2 1048576).bind fun t463 => (if t463 < 0 then (some true) else ((laws_toTop.f k l0_0 a0_1 a0_2).bind fun bt464 => ((spec_TopAdd.f k bt464.1 bt464.2.1 bt464.2.2 a1).bind fun bt469 => ((laws_toTop.f k l0_0 a0_1 a0_2).bind fun bt476 => ((impl_TopAdd.f k bt476.1 bt476.2.1 bt476.2.2 a1).bind fun bt482 => ((laws_eqTop.f k bt482.1 bt482.2.1 bt482.2.2.1 bt469.1 bt469.2.1 bt469.2.2.1).bind fun t489 => (if t489 = true then (laws_FnExactTopAdd.j0 k a1 bt469.2.2.2 bt482.2.2.2 (bt482.2.2.2 != bt469.2.2.2) l0_0 a0_1 a0_2 bt469.1 bt469.2.1 bt469.2.2.1 bt476.1 bt476.2.1 bt476.2.2 bt482.1 bt482.2.1 bt482.2.2.1) else (laws_FnExactTopAdd.j0 k a1 bt469.2.2.2 bt482.2.2.2 true l0_0 a0_1 a0_2 bt469.1 bt469.2.1 bt469.2.2.1 bt476.1 bt476.2.1 bt476.2.2 bt482.1 bt482.2.1 bt482.2.2.1))))))))
theorem laws_FnExactTopAdd.mono_l : ∀ k, (∀ y0 y1 y2 y3 y4 y5 y6 y7 y8 y9 y10 y11 y12 y13 y14 y15, LeO (laws_FnExactTopAdd.j0 k y0 y1 y2 y3 y4 y5 y6 y7 y8 y9 y10 y11 y12 y13 y14 y15) (laws_FnExactTopAdd.j0 (k + 1) y0 y1 y2 y3 y4 y5 y6 y7 y8 y9 y10 y11 y12 y13 y14 y15)) ∧ (∀ y0 y1 y2 y3 y4 y5 y6 y7 y8 y9 y10 y11, LeO (laws_FnExactTopAdd.j1 k y0 y1 y2 y3 y4 y5 y6 y7 y8 y9 y10 y11) (laws_FnExactTopAdd.j1 (k + 1) y0 y1 y2 y3 y4 y5 y6 y7 y8 y9 y10 y11)) ∧ (∀ y0 y1 y2 y3 y4, LeO (laws_FnExactTopAdd.j2 k y0 y1 y2 y3 y4) (laws_FnExactTopAdd.j2 (k + 1) y0 y1 y2 y3 y4))
  | 0 => ⟨fun _ _ _ _ _ _ _ _ _ _ _ _ _ _ _ _ r h => by simp [laws_FnExactTopAdd.j0] at h, fun _ _ _ _ _ _ _ _ _ _ _ _ r h => by simp [laws_FnExactTopAdd.j1] at h, fun _ _ _ _ _ r h => by simp [laws_FnExactTopAdd.j2] at h⟩
  | k + 1 => by
    obtain ⟨ih0, ih1, ih2⟩ := laws_FnExactTopAdd.mono_l k
    refine ⟨?_, ?_, ?_⟩
    · intro y0 y1 y2 y3 y4 y5 y6 y7 y8 y9 y10 y11 y12 y13 y14 y15
      unfold laws_FnExactTopAdd.j0
      repeat' first
      | (with_reducible exact ih0 _ _ _ _ _ _ _ _ _ _ _ _ _ _ _ _)
      | (with_reducible exact ih1 _ _ _ _ _ _ _ _ _ _ _ _)
      | (with_reducible exact ih2 _ _ _ _ _)
      | (with_reducible exact impl_TopAdd.mono _ _ _ _ _)
      | (with_reducible exact laws_eqTop.mono _ _ _ _ _ _ _)
      | (with_reducible exact laws_heldTop.mono _ _ _ _ _)
      | (with_reducible exact laws_markTop.mono _ _ _ _ _)
      | (with_reducible exact laws_toTop.mono _ _ _ _)
      | (with_reducible exact spec_TopAdd.mono _ _ _ _ _)
      | (with_reducible exact LeO.refl _)
      | (with_reducible exact LeO.none _)
      | (with_reducible refine LeO.ite ?_ ?_)
      | (with_reducible refine LeO.bind ?_ (fun _ => ?_))
      | exact ih0 _ _ _ _ _ _ _ _ _ _ _ _ _ _ _ _
      | exact ih1 _ _ _ _ _ _ _ _ _ _ _ _
      | exact ih2 _ _ _ _ _
      | exact impl_TopAdd.mono _ _ _ _ _
      | exact laws_eqTop.mono _ _ _ _ _ _ _
      | exact laws_heldTop.mono _ _ _ _ _
      | exact laws_markTop.mono _ _ _ _ _
      | exact laws_toTop.mono _ _ _ _
      | exact spec_TopAdd.mono _ _ _ _ _
      | exact LeO.none _
      | refine LeO.ite ?_ ?_
      | refine LeO.bind ?_ (fun _ => ?_)
    · intro y0 y1 y2 y3 y4 y5 y6 y7 y8 y9 y10 y11
      unfold laws_FnExactTopAdd.j1
      repeat' first
      | (with_reducible exact ih0 _ _ _ _ _ _ _ _ _ _ _ _ _ _ _ _)
      | (with_reducible exact ih1 _ _ _ _ _ _ _ _ _ _ _ _)
      | (with_reducible exact ih2 _ _ _ _ _)
      | (with_reducible exact impl_TopAdd.mono _ _ _ _ _)
      | (with_reducible exact laws_eqTop.mono _ _ _ _ _ _ _)
      | (with_reducible exact laws_heldTop.mono _ _ _ _ _)
      | (with_reducible exact laws_markTop.mono _ _ _ _ _)
      | (with_reducible exact laws_toTop.mono _ _ _ _)
      | (with_reducible exact spec_TopAdd.mono _ _ _ _ _)
      | (with_reducible exact LeO.refl _)
      | (with_reducible exact LeO.none _)
      | (with_reducible refine LeO.ite ?_ ?_)
      | (with_reducible refine LeO.bind ?_ (fun _ => ?_))
      | exact ih0 _ _ _ _ _ _ _ _ _ _ _ _ _ _ _ _
      | exact ih1 _ _ _ _ _ _ _ _ _ _ _ _
      | exact ih2 _ _ _ _ _
      | exact impl_TopAdd.mono _ _ _ _ _
      | exact laws_eqTop.mono _ _ _ _ _ _ _
      | exact laws_heldTop.mono _ _ _ _ _
      | exact laws_markTop.mono _ _ _ _ _
      | exact laws_toTop.mono _ _ _ _
      | exact spec_TopAdd.mono _ _ _ _ _
      | exact LeO.none _
      | refine LeO.ite ?_ ?_
      | refine LeO.bind ?_ (fun _ => ?_)
    · intro y0 y1 y2 y3 y4
      unfold laws_FnExactTopAdd.j2
      repeat' first
      | (with_reducible exact ih0 _ _ _ _ _ _ _ _ _ _ _ _ _ _ _ _)
      | (with_reducible exact ih1 _ _ _ _ _ _ _ _ _ _ _ _)
      | (with_reducible exact ih2 _ _ _ _ _)
      | (with_reducible exact impl_TopAdd.mono _ _ _ _ _)
      | (with_reducible exact laws_eqTop.mono _ _ _ _ _ _ _)
      | (with_reducible exact laws_heldTop.mono _ _ _ _ _)
      | (with_reducible exact laws_markTop.mono _ _ _ _ _)
      | (with_reducible exact laws_toTop.mono _ _ _ _)
      | (with_reducible exact spec_TopAdd.mono _ _ _ _ _)
      | (with_reducible exact LeO.refl _)
      | (with_reducible exact LeO.none _)
      | (with_reducible refine LeO.ite ?_ ?_)
      | (with_reducible refine LeO.bind ?_ (fun _ => ?_))
      | exact ih0 _ _ _ _ _ _ _ _ _ _ _ _ _ _ _ _
      | exact ih1 _ _ _ _ _ _ _ _ _ _ _ _
      | exact ih2 _ _ _ _ _
      | exact impl_TopAdd.mono _ _ _ _ _
      | exact laws_eqTop.mono _ _ _ _ _ _ _
      | exact laws_heldTop.mono _ _ _ _ _
      | exact laws_markTop.mono _ _ _ _ _
      | exact laws_toTop.mono _ _ _ _
      | exact spec_TopAdd.mono _ _ _ _ _
      | exact LeO.none _
      | refine LeO.ite ?_ ?_
      | refine LeO.bind ?_ (fun _ => ?_)
theorem laws_FnExactTopAdd.mono : ∀ a0 a1 a2 a3 k, LeO (laws_FnExactTopAdd.f k a0 a1 a2 a3) (laws_FnExactTopAdd.f (k + 1) a0 a1 a2 a3) := by
  intro a0 a1 a2 a3 k
  obtain ⟨ih0, ih1, ih2⟩ := laws_FnExactTopAdd.mono_l k
  unfold laws_FnExactTopAdd.f
  repeat' first
      | (with_reducible exact ih0 _ _ _ _ _ _ _ _ _ _ _ _ _ _ _ _)
      | (with_reducible exact ih1 _ _ _ _ _ _ _ _ _ _ _ _)
      | (with_reducible exact ih2 _ _ _ _ _)
      | (with_reducible exact impl_TopAdd.mono _ _ _ _ _)
      | (with_reducible exact laws_eqTop.mono _ _ _ _ _ _ _)
      | (with_reducible exact laws_heldTop.mono _ _ _ _ _)
      | (with_reducible exact laws_markTop.mono _ _ _ _ _)
      | (with_reducible exact laws_toTop.mono _ _ _ _)
      | (with_reducible exact spec_TopAdd.mono _ _ _ _ _)
      | (with_reducible exact LeO.refl _)
      | (with_reducible exact LeO.none _)
      | (with_reducible refine LeO.ite ?_ ?_)
      | (with_reducible refine LeO.bind ?_ (fun _ => ?_))
      | exact ih0 _ _ _ _ _ _ _ _ _ _ _ _ _ _ _ _
      | exact ih1 _ _ _ _ _ _ _ _ _ _ _ _
      | exact ih2 _ _ _ _ _
      | exact impl_TopAdd.mono _ _ _ _ _
      | exact laws_eqTop.mono _ _ _ _ _ _ _
      | exact laws_heldTop.mono _ _ _ _ _
      | exact laws_markTop.mono _ _ _ _ _
      | exact laws_toTop.mono _ _ _ _
      | exact spec_TopAdd.mono _ _ _ _ _
      | exact LeO.none _
      | refine LeO.ite ?_ ?_
      | refine LeO.bind ?_ (fun _ => ?_)
theorem z4bb {w W w1 : World} {g : Nat} {o : Obj} (h : Aside0 (w.heap[g]? = some o)) (hb : Below W.heap.size W w1) (hp : W.heap[g]? = some o := by (with_reducible repeat (first | refine blk_drewN ?_ _ | refine blk_drew ?_ | refine blk_alloc ?_ _)); exact Aside0.out (by assumption)) : Aside0 (w1.heap[g]? = some o) := ⟨blk_below hp hb⟩
theorem z4bc {w : World} {g t : Nat} {cs : Array Value} (h : Aside0 (w.heap[g]? = some (.cells cs t (0, 0)))) (i : Nat) {u : Value} (e : cs[i]? = some u := by rfl) : w.cell? ⟨g, i, none⟩ = some u := (blk_cell h.out i).trans e
variable {p : Prop}
theorem q4_0 (h : p := by repeat (first | (with_reducible first | exact HB.out | apply below_alloc | apply pw_below_drewN | apply below_drew1 | refine below_set ?_ GE462.out | refine below_set ?_ GE475.out | refine below_set ?_ GE481.out | refine below_set ?_ GE488.out) | exact HB.out)) : p := h
theorem q4_1 (h : p := by (try simp only [List.map_toArray, List.map_cons, List.map_nil]); first | done | rfl | (simp only [List.length_drop, List.length_take]; rfl)) : p := h
theorem q4_2 (h : p := by repeat (first | (with_reducible first | exact HB.out | apply below_alloc | apply pw_below_drewN | apply below_drew1 | refine below_set ?_ GE462.out | refine below_set ?_ GE475.out | refine below_set ?_ GE481.out | refine below_set ?_ GE488.out | refine below_set ?_ GE513.out) | exact HB.out)) : p := h
theorem q4_3 (h : p := by (with_reducible repeat (first | apply Kd.R_alloc | apply Kd.R_drewN | apply Kd.R_drew)); exact HO_476000.out) : p := h
theorem q4_4 (h : p := by (with_reducible repeat (first | apply Kd.R_alloc | apply Kd.R_drewN | apply Kd.R_drew)); exact HO_482000.out) : p := h
theorem q4_5 (h : p := by (with_reducible repeat (first | apply Kd.R_alloc | apply Kd.R_drewN | apply Kd.R_drew)); exact HO_489000.out) : p := h
theorem q4_6 (h : p := by repeat (first | (with_reducible first | exact HB.out | apply below_alloc | apply pw_below_drewN | apply below_drew1 | refine below_set ?_ GE462.out) | exact HB.out)) : p := h
theorem q4_7 (h : p := by (with_reducible repeat (first | apply Kd.R_alloc | apply Kd.R_drewN | apply Kd.R_drew)); exact (Kd.R_mono (Kd.R_far (p := ⟨gb513, 2, none⟩) (Kd.R_far (p := ⟨gb513, 1, none⟩) (Kd.R_far (p := ⟨gb513, 0, none⟩) (Kd.R_types HO_476000.out BK513.out (by decide)) (fun _ hk => hk.2) (.slice Ao119 t507.length co119)) (fun _ hk => hk.2) (.int .i64 t510)) (fun _ hk => hk.2) (.int .i64 t511)) (fun _ h_ => h_.1))) : p := h
theorem q4_8 (h : p := by (with_reducible repeat (first | refine blk_drewN ?_ _ | refine blk_drew ?_ | refine blk_alloc ?_ _)); exact BK462.out) : p := h
theorem q4_9 (h : p := by (with_reducible repeat (first | apply Kd.R_alloc | apply Kd.R_drewN | apply Kd.R_drew)); exact (Kd.R_mono (Kd.R_far (p := ⟨gb513, 2, none⟩) (Kd.R_far (p := ⟨gb513, 1, none⟩) (Kd.R_far (p := ⟨gb513, 0, none⟩) (Kd.R_types HO509.out BK513.out (by decide)) (fun _ hk => hk.2) (.slice Ao119 t507.length co119)) (fun _ hk => hk.2) (.int .i64 t510)) (fun _ hk => hk.2) (.int .i64 t511)) (fun _ h_ => h_.1))) : p := h
theorem q4_10 (h : p := by (with_reducible repeat (first | apply Kd.R_alloc | apply Kd.R_drewN | apply Kd.R_drew)); exact (Kd.R_mono (Kd.R_far (p := ⟨gb488, 2, none⟩) (Kd.R_far (p := ⟨gb488, 1, none⟩) (Kd.R_far (p := ⟨gb488, 0, none⟩) (Kd.R_types HO484.out BK488.out (by decide)) (fun _ hk => hk.2) (.slice Ao33 t482.length co33)) (fun _ hk => hk.2) (.int .i64 t485)) (fun _ hk => hk.2) (.int .i64 t486)) (fun _ h_ => h_.1))) : p := h
theorem q4_11 (h : p := by (with_reducible repeat (first | apply Kd.R_alloc | apply Kd.R_drewN | apply Kd.R_drew)); exact (Kd.R_mono (Kd.R_far (p := ⟨gb488, 2, none⟩) (Kd.R_far (p := ⟨gb488, 1, none⟩) (Kd.R_far (p := ⟨gb488, 0, none⟩) (Kd.R_types HO471.out BK488.out (by decide)) (fun _ hk => hk.2) (.slice Ao33 t482.length co33)) (fun _ hk => hk.2) (.int .i64 t485)) (fun _ hk => hk.2) (.int .i64 t486)) (fun _ h_ => h_.1))) : p := h
theorem q4_12 (h : p := by repeat (first | exact (Kd.R_reads' HO_489000.out).2.2 | (with_reducible refine Kd.C_alloc ?_ _) | (with_reducible refine Kd.C_drewN ?_ _) | (with_reducible refine Kd.C_drew ?_))) : p := h
theorem q4_13 (h : p := by (with_reducible repeat (first | refine blk_drewN ?_ _ | refine blk_drew ?_ | refine blk_alloc ?_ _)); exact BK475.out) : p := h
theorem q4_14 (h : p := by repeat (first | (with_reducible first | exact HB.out | apply below_alloc | apply pw_below_drewN | apply below_drew1 | refine below_set ?_ GE462.out | refine below_set ?_ GE475.out) | exact HB.out)) : p := h
theorem q4_15 (h : p := by repeat (first | (with_reducible first | exact HB.out | apply below_alloc | apply pw_below_drewN | apply below_drew1 | refine below_set ?_ GE462.out | refine below_set ?_ GE475.out | refine below_set ?_ GE481.out) | exact HB.out)) : p := h
theorem q4_16 (h : p := by repeat (first | exact (Kd.C_below HR0_0.out HB.out) | (with_reducible refine Kd.C_alloc ?_ _) | (with_reducible refine Kd.C_drewN ?_ _) | (with_reducible refine Kd.C_drew ?_))) : p := h
theorem q4_17 (h : p := by (with_reducible repeat (first | apply Kd.R_alloc | apply Kd.R_drewN | apply Kd.R_drew)); exact (Kd.R_mono (Kd.R_far (p := ⟨gb481, 2, none⟩) (Kd.R_far (p := ⟨gb481, 1, none⟩) (Kd.R_far (p := ⟨gb481, 0, none⟩) (Kd.R_types HO478.out BK481.out (by decide)) (fun _ hk => hk.2) (.slice Ao27 t476.length co27)) (fun _ hk => hk.2) (.int .i64 t479)) (fun _ hk => hk.2) (.int .i64 t480)) (fun _ h_ => h_.1))) : p := h
theorem q4_18 (h : p := by first | rfl | (simp [errW_none, errW_some] <;> rfl) | (simp [*, errW_none, errW_some] <;> rfl)) : p := h
theorem q4_19 (h : p := by (with_reducible repeat (first | refine blk_drewN ?_ _ | refine blk_drew ?_ | refine blk_alloc ?_ _)); exact BK481.out) : p := h
theorem q4_20 (h : p := by (with_reducible repeat (first | refine blk_drewN ?_ _ | refine blk_drew ?_ | refine blk_alloc ?_ _)); refine blk_put (cs := #[.slice Ao119 t507.length co119, .int .i64 t510, .int .i64 0]) ?_ 2 _ rfl; (with_reducible repeat (first | refine blk_drewN ?_ _ | refine blk_drew ?_ | refine blk_alloc ?_ _)); refine blk_put (cs := #[.slice Ao119 t507.length co119, .int .i64 0, .int .i64 0]) ?_ 1 _ rfl; (with_reducible repeat (first | refine blk_drewN ?_ _ | refine blk_drew ?_ | refine blk_alloc ?_ _)); refine blk_put (cs := #[.slice none 0 0, .int .i64 0, .int .i64 0]) ?_ 0 _ rfl; (with_reducible repeat (first | refine blk_drewN ?_ _ | refine blk_drew ?_ | refine blk_alloc ?_ _)); exact BK513.out) : p := h
theorem q4_21 (h : p := by (with_reducible repeat (first | refine blk_drewN ?_ _ | refine blk_drew ?_ | refine blk_alloc ?_ _)); refine blk_put (cs := #[.slice Ao33 t482.length co33, .int .i64 t485, .int .i64 0]) ?_ 2 _ rfl; (with_reducible repeat (first | refine blk_drewN ?_ _ | refine blk_drew ?_ | refine blk_alloc ?_ _)); refine blk_put (cs := #[.slice Ao33 t482.length co33, .int .i64 0, .int .i64 0]) ?_ 1 _ rfl; (with_reducible repeat (first | refine blk_drewN ?_ _ | refine blk_drew ?_ | refine blk_alloc ?_ _)); refine blk_put (cs := #[.slice none 0 0, .int .i64 0, .int .i64 0]) ?_ 0 _ rfl; (with_reducible repeat (first | refine blk_drewN ?_ _ | refine blk_drew ?_ | refine blk_alloc ?_ _)); exact BK488.out) : p := h
theorem q4_22 (h : p := by repeat (first | (with_reducible first | exact HB.out | apply below_alloc | apply pw_below_drewN | apply below_drew1) | exact HB.out)) : p := h
theorem q4_23 (h : p := by (with_reducible repeat (first | refine blk_drewN ?_ _ | refine blk_drew ?_ | refine blk_alloc ?_ _)); exact BK488.out) : p := h
theorem q4_24 (h : p := by (with_reducible repeat (first | refine blk_drewN ?_ _ | refine blk_drew ?_ | refine blk_alloc ?_ _)); refine blk_far ?_ NB462_488.out _; (with_reducible repeat (first | refine blk_drewN ?_ _ | refine blk_drew ?_ | refine blk_alloc ?_ _)); refine blk_far ?_ NB462_488.out _; (with_reducible repeat (first | refine blk_drewN ?_ _ | refine blk_drew ?_ | refine blk_alloc ?_ _)); refine blk_far ?_ NB462_488.out _; (with_reducible repeat (first | refine blk_drewN ?_ _ | refine blk_drew ?_ | refine blk_alloc ?_ _)); exact BK462.out) : p := h
theorem q4_25 (h : p := by (with_reducible repeat (first | refine blk_drewN ?_ _ | refine blk_drew ?_ | refine blk_alloc ?_ _)); refine blk_far ?_ NB475_488.out _; (with_reducible repeat (first | refine blk_drewN ?_ _ | refine blk_drew ?_ | refine blk_alloc ?_ _)); refine blk_far ?_ NB475_488.out _; (with_reducible repeat (first | refine blk_drewN ?_ _ | refine blk_drew ?_ | refine blk_alloc ?_ _)); refine blk_far ?_ NB475_488.out _; (with_reducible repeat (first | refine blk_drewN ?_ _ | refine blk_drew ?_ | refine blk_alloc ?_ _)); exact BK475.out) : p := h
theorem q4_26 (h : p := by (with_reducible repeat (first | refine blk_drewN ?_ _ | refine blk_drew ?_ | refine blk_alloc ?_ _)); refine blk_far ?_ NB481_488.out _; (with_reducible repeat (first | refine blk_drewN ?_ _ | refine blk_drew ?_ | refine blk_alloc ?_ _)); refine blk_far ?_ NB481_488.out _; (with_reducible repeat (first | refine blk_drewN ?_ _ | refine blk_drew ?_ | refine blk_alloc ?_ _)); refine blk_far ?_ NB481_488.out _; (with_reducible repeat (first | refine blk_drewN ?_ _ | refine blk_drew ?_ | refine blk_alloc ?_ _)); exact BK481.out) : p := h
theorem q4_27 (h : p := by (with_reducible repeat (first | refine blk_drewN ?_ _ | refine blk_drew ?_ | refine blk_alloc ?_ _)); refine blk_far ?_ NB462_513.out _; (with_reducible repeat (first | refine blk_drewN ?_ _ | refine blk_drew ?_ | refine blk_alloc ?_ _)); refine blk_far ?_ NB462_513.out _; (with_reducible repeat (first | refine blk_drewN ?_ _ | refine blk_drew ?_ | refine blk_alloc ?_ _)); refine blk_far ?_ NB462_513.out _; (with_reducible repeat (first | refine blk_drewN ?_ _ | refine blk_drew ?_ | refine blk_alloc ?_ _)); exact BK462.out) : p := h
theorem q4_28 (h : p := by (with_reducible repeat (first | refine blk_drewN ?_ _ | refine blk_drew ?_ | refine blk_alloc ?_ _)); refine blk_far ?_ NB475_513.out _; (with_reducible repeat (first | refine blk_drewN ?_ _ | refine blk_drew ?_ | refine blk_alloc ?_ _)); refine blk_far ?_ NB475_513.out _; (with_reducible repeat (first | refine blk_drewN ?_ _ | refine blk_drew ?_ | refine blk_alloc ?_ _)); refine blk_far ?_ NB475_513.out _; (with_reducible repeat (first | refine blk_drewN ?_ _ | refine blk_drew ?_ | refine blk_alloc ?_ _)); exact BK475.out) : p := h
theorem q4_29 (h : p := by (with_reducible repeat (first | refine blk_drewN ?_ _ | refine blk_drew ?_ | refine blk_alloc ?_ _)); refine blk_far ?_ NB481_513.out _; (with_reducible repeat (first | refine blk_drewN ?_ _ | refine blk_drew ?_ | refine blk_alloc ?_ _)); refine blk_far ?_ NB481_513.out _; (with_reducible repeat (first | refine blk_drewN ?_ _ | refine blk_drew ?_ | refine blk_alloc ?_ _)); refine blk_far ?_ NB481_513.out _; (with_reducible repeat (first | refine blk_drewN ?_ _ | refine blk_drew ?_ | refine blk_alloc ?_ _)); exact BK481.out) : p := h
theorem q4_30 (h : p := by (with_reducible repeat (first | refine blk_drewN ?_ _ | refine blk_drew ?_ | refine blk_alloc ?_ _)); refine blk_far ?_ NB488_513.out _; (with_reducible repeat (first | refine blk_drewN ?_ _ | refine blk_drew ?_ | refine blk_alloc ?_ _)); refine blk_far ?_ NB488_513.out _; (with_reducible repeat (first | refine blk_drewN ?_ _ | refine blk_drew ?_ | refine blk_alloc ?_ _)); refine blk_far ?_ NB488_513.out _; (with_reducible repeat (first | refine blk_drewN ?_ _ | refine blk_drew ?_ | refine blk_alloc ?_ _)); exact BK488.out) : p := h
theorem q4_31 (h : p := by (try simp only [List.map_toArray, List.map_cons, List.map_nil]); first | done | (rw [show t500.length = t482.length from (Kd.R_reads' HO_489000.out).1.symm] <;> rfl) | rfl | (simp only [List.length_drop, List.length_take]; rfl)) : p := h
theorem q4_32 (h : p := by (with_reducible repeat (first | apply Kd.R_alloc | apply Kd.R_drewN | apply Kd.R_drew)); exact (Kd.R_mono (Kd.R_far (p := ⟨gb513, 2, none⟩) (Kd.R_far (p := ⟨gb513, 1, none⟩) (Kd.R_far (p := ⟨gb513, 0, none⟩) (Kd.R_types HO_482000.out BK513.out (by decide)) (fun _ hk => hk.2) (.slice Ao119 t507.length co119)) (fun _ hk => hk.2) (.int .i64 t510)) (fun _ hk => hk.2) (.int .i64 t511)) (fun _ h_ => h_.1))) : p := h
theorem q4_33 (h : p := by (with_reducible repeat (first | apply Kd.R_alloc | apply Kd.R_drewN | apply Kd.R_drew)); exact (Kd.R_mono (Kd.R_far (p := ⟨gb513, 2, none⟩) (Kd.R_far (p := ⟨gb513, 1, none⟩) (Kd.R_far (p := ⟨gb513, 0, none⟩) (Kd.R_types HO_489000.out BK513.out (by decide)) (fun _ hk => hk.2) (.slice Ao119 t507.length co119)) (fun _ hk => hk.2) (.int .i64 t510)) (fun _ hk => hk.2) (.int .i64 t511)) (fun _ h_ => h_.1))) : p := h
theorem q4_34 (h : p := by rw [hg]; exact Nat.ne_of_lt (blk_lt (g := gb462) (o := .cells #[.slice A0_0 l0_0.length c0_0, .int .i64 a0_1, .int .i64 a0_2] 37 (0, 0)) q4_8)) : p := h
theorem q4_35 (h : p := by rw [hg]; exact Nat.ne_of_gt (blk_lt (g := gb462) (o := .cells #[.slice A0_0 l0_0.length c0_0, .int .i64 a0_1, .int .i64 a0_2] 37 (0, 0)) q4_8)) : p := h
theorem q4_36 (h : p := by (with_reducible repeat (first | apply Kd.R_alloc | apply Kd.R_drewN | apply Kd.R_drew)); exact (Kd.R_mono (Kd.R_far (p := ⟨gb513, 2, none⟩) (Kd.R_far (p := ⟨gb513, 1, none⟩) (Kd.R_far (p := ⟨gb513, 0, none⟩) (Kd.R_types HO504.out BK513.out (by decide)) (fun _ hk => hk.2) (.slice Ao119 t507.length co119)) (fun _ hk => hk.2) (.int .i64 t510)) (fun _ hk => hk.2) (.int .i64 t511)) (fun _ h_ => h_.1))) : p := h
theorem q4_37 (h : p := by (with_reducible repeat (first | apply Kd.R_alloc | apply Kd.R_drewN | apply Kd.R_drew)); exact (Kd.R_mono (Kd.R_far (p := ⟨gb475, 2, none⟩) (Kd.R_far (p := ⟨gb475, 1, none⟩) (Kd.R_far (p := ⟨gb475, 0, none⟩) (Kd.R_types HO466.out BK475.out (by decide)) (fun _ hk => hk.2) (.slice Ao21 t469.length co21)) (fun _ hk => hk.2) (.int .i64 t472)) (fun _ hk => hk.2) (.int .i64 t473)) (fun _ h_ => h_.1))) : p := h
theorem q4_38 (h : p := by (with_reducible repeat (first | apply Kd.R_alloc | apply Kd.R_drewN | apply Kd.R_drew)); exact (Kd.R_mono (Kd.R_far (p := ⟨gb475, 2, none⟩) (Kd.R_far (p := ⟨gb475, 1, none⟩) (Kd.R_far (p := ⟨gb475, 0, none⟩) (Kd.R_types HO471.out BK475.out (by decide)) (fun _ hk => hk.2) (.slice Ao21 t469.length co21)) (fun _ hk => hk.2) (.int .i64 t472)) (fun _ hk => hk.2) (.int .i64 t473)) (fun _ h_ => h_.1))) : p := h
theorem q4_39 (h : p := by (with_reducible repeat (first | apply Kd.R_alloc | apply Kd.R_drewN | apply Kd.R_drew)); exact (Kd.R_mono (Kd.R_far (p := ⟨gb481, 2, none⟩) (Kd.R_far (p := ⟨gb481, 1, none⟩) (Kd.R_far (p := ⟨gb481, 0, none⟩) (Kd.R_types HO466.out BK481.out (by decide)) (fun _ hk => hk.2) (.slice Ao27 t476.length co27)) (fun _ hk => hk.2) (.int .i64 t479)) (fun _ hk => hk.2) (.int .i64 t480)) (fun _ h_ => h_.1))) : p := h
theorem q4_40 (h : p := by (with_reducible repeat (first | apply Kd.R_alloc | apply Kd.R_drewN | apply Kd.R_drew)); exact (Kd.R_mono (Kd.R_far (p := ⟨gb481, 2, none⟩) (Kd.R_far (p := ⟨gb481, 1, none⟩) (Kd.R_far (p := ⟨gb481, 0, none⟩) (Kd.R_types HO471.out BK481.out (by decide)) (fun _ hk => hk.2) (.slice Ao27 t476.length co27)) (fun _ hk => hk.2) (.int .i64 t479)) (fun _ hk => hk.2) (.int .i64 t480)) (fun _ h_ => h_.1))) : p := h
theorem q4_41 (h : p := by (with_reducible repeat (first | apply Kd.R_alloc | apply Kd.R_drewN | apply Kd.R_drew)); exact (Kd.R_mono (Kd.R_far (p := ⟨gb488, 2, none⟩) (Kd.R_far (p := ⟨gb488, 1, none⟩) (Kd.R_far (p := ⟨gb488, 0, none⟩) (Kd.R_types HO466.out BK488.out (by decide)) (fun _ hk => hk.2) (.slice Ao33 t482.length co33)) (fun _ hk => hk.2) (.int .i64 t485)) (fun _ hk => hk.2) (.int .i64 t486)) (fun _ h_ => h_.1))) : p := h
theorem q4_42 (h : p := by (with_reducible repeat (first | apply Kd.R_alloc | apply Kd.R_drewN | apply Kd.R_drew)); exact (Kd.R_mono (Kd.R_far (p := ⟨gb488, 2, none⟩) (Kd.R_far (p := ⟨gb488, 1, none⟩) (Kd.R_far (p := ⟨gb488, 0, none⟩) (Kd.R_types HO478.out BK488.out (by decide)) (fun _ hk => hk.2) (.slice Ao33 t482.length co33)) (fun _ hk => hk.2) (.int .i64 t485)) (fun _ hk => hk.2) (.int .i64 t486)) (fun _ h_ => h_.1))) : p := h
theorem q4_43 (h : p := by (with_reducible repeat (first | apply Kd.R_alloc | apply Kd.R_drewN | apply Kd.R_drew)); exact HO466.out) : p := h
theorem q4_44 (h : p := by refine (Kd.R_reads' (e := 54) (base := w.heap.size) (ok := fun k_ => ((((True ∧ some k_ ≠ (.slice Ao21 t469.length co21 : Value).ownBlock) ∧ some k_ ≠ (.slice Ao27 t497.length co27 : Value).ownBlock) ∧ some k_ ≠ (.slice Ao33 t482.length co33 : Value).ownBlock) ∧ some k_ ≠ (.slice Ao116 t502.length co116 : Value).ownBlock)) (n := t507.length) (c := co119) ?_).2.2; exact q4_9) : p := h
theorem q4_45 (h : p := by refine (Kd.R_reads' (e := 54) (base := w.heap.size) (ok := fun k_ => (((some k_ ≠ (.slice Ao27 t497.length co27 : Value).ownBlock ∧ some k_ ≠ (.slice Ao33 t482.length co33 : Value).ownBlock) ∧ some k_ ≠ (.slice Ao116 t502.length co116 : Value).ownBlock) ∧ some k_ ≠ (.slice Ao119 t507.length co119 : Value).ownBlock)) (n := t469.length) (c := co21) ?_).2.2; exact q4_7) : p := h
theorem q4_46 (h : p := by refine (Kd.R_reads' (e := 54) (base := w.heap.size) (ok := fun k_ => (((True ∧ some k_ ≠ (.slice Ao18 t464.length co18 : Value).ownBlock) ∧ some k_ ≠ (.slice Ao21 t469.length co21 : Value).ownBlock) ∧ some k_ ≠ (.slice Ao27 t476.length co27 : Value).ownBlock)) (n := t482.length) (c := co33) ?_).2.2; exact q4_10) : p := h
theorem q4_47 (h : p := by refine (Kd.R_reads' (e := 54) (base := w.heap.size) (ok := fun k_ => (((True ∧ some k_ ≠ (.slice Ao18 t464.length co18 : Value).ownBlock) ∧ some k_ ≠ (.slice Ao27 t476.length co27 : Value).ownBlock) ∧ some k_ ≠ (.slice Ao33 t482.length co33 : Value).ownBlock)) (n := t469.length) (c := co21) ?_).2.2; exact q4_11) : p := h
theorem q4_48 (h : p := by (with_reducible repeat (first | apply Kd.R_alloc | apply Kd.R_drewN | apply Kd.R_drew)); exact HO492.out) : p := h
theorem q4_49 (h : p := by rw [hg]; exact Nat.ne_of_lt (blk_lt (g := gb475) (o := .cells #[.slice Ao21 t469.length co21, .int .i64 t472, .int .i64 t473] 25 (0, 0)) q4_13)) : p := h
theorem q4_50 (h : p := by rw [hg]; exact Nat.ne_of_gt (blk_lt (g := gb475) (o := .cells #[.slice Ao21 t469.length co21, .int .i64 t472, .int .i64 t473] 25 (0, 0)) q4_13)) : p := h
theorem q4_51 (h : p := by first | rfl | (simp; done) | (simp [*]; done)) : p := h
theorem q4_52 (h : p := by rw [show t500.length = t482.length from (Kd.R_reads' HO_489000.out).1.symm]; exact (Kd.R_reads' HO_489000.out).2.1) : p := h
theorem q4_53 (h : p := by (with_reducible repeat (first | apply Kd.R_alloc | apply Kd.R_drewN | apply Kd.R_drew)); exact HO_514000.out) : p := h
theorem q4_54 (h : p := by (with_reducible repeat (first | apply Kd.R_alloc | apply Kd.R_drewN | apply Kd.R_drew)); exact HO471.out) : p := h
theorem q4_55 (h : p := by (with_reducible repeat (first | apply Kd.R_alloc | apply Kd.R_drewN | apply Kd.R_drew)); exact HO504.out) : p := h
theorem q4_56 (h : p := by repeat (first | exact (Kd.R_reads' HO_482000.out).2.2 | (with_reducible refine Kd.C_alloc ?_ _) | (with_reducible refine Kd.C_drewN ?_ _) | (with_reducible refine Kd.C_drew ?_))) : p := h
theorem q4_57 (h : p := by repeat (first | exact (Kd.R_reads' HO_476000.out).2.2 | (with_reducible refine Kd.C_alloc ?_ _) | (with_reducible refine Kd.C_drewN ?_ _) | (with_reducible refine Kd.C_drew ?_))) : p := h
theorem q4_58 (h : p := by first | (go_simp; done) | (go_simp; rfl)) : p := h
theorem q4_59 (h : p := by repeat (first | exact (Kd.R_reads' HO492.out).2.2 | (with_reducible refine Kd.C_alloc ?_ _) | (with_reducible refine Kd.C_drewN ?_ _) | (with_reducible refine Kd.C_drew ?_))) : p := h
theorem q4_60 (h : p := by (with_reducible repeat (first | apply Kd.R_alloc | apply Kd.R_drewN | apply Kd.R_drew)); exact HO478.out) : p := h
set_option maxHeartbeats 8000000 in
set_option maxRecDepth 100000 in
theorem laws_FnExactTopAdd.calls (k : Nat) (A0_0 : Option Addr) (c0_0 : Nat) (l0_0 : List (S70)) (a0_1 : Int) (a0_2 : Int) (a1 : Int) (r : Bool) (w : World) (hr0_0 : Kd.C k70 w A0_0 l0_0.length l0_0) (hc0_0 : l0_0.length ≤ c0_0) (h : laws_FnExactTopAdd.f k l0_0 a0_1 a0_2 a1 = some r) :
    Calls Try.prog 4 #[.agg #[.slice A0_0 l0_0.length c0_0, .int .i64 a0_1, .int .i64 a0_2], .int .i64 a1] w fun e w' => e = .returned (.bool r) ∧ Below w.heap.size w w' := by
  have hu37 := Try.underlying37;have hu25 := Try.underlying25;have HR0_0 := Aside0.mk hr0_0;have HC0_0 := Aside0.mk hc0_0;clear hr0_0 hc0_0;have HB := Aside0.mk (Below.refl w.heap.size w)
  have H : ((laws_szTop.f l0_0 a0_1 a0_2 1048576).bind fun t463 => (if t463 < 0 then (some true) else ((laws_toTop.f k l0_0 a0_1 a0_2).bind fun bt464 => ((spec_TopAdd.f k bt464.1 bt464.2.1 bt464.2.2 a1).bind fun bt469 => ((laws_toTop.f k l0_0 a0_1 a0_2).bind fun bt476 => ((impl_TopAdd.f k bt476.1 bt476.2.1 bt476.2.2 a1).bind fun bt482 => ((laws_eqTop.f k bt482.1 bt482.2.1 bt482.2.2.1 bt469.1 bt469.2.1 bt469.2.2.1).bind fun t489 => (if t489 = true then (laws_FnExactTopAdd.j0 k a1 bt469.2.2.2 bt482.2.2.2 (bt482.2.2.2 != bt469.2.2.2) l0_0 a0_1 a0_2 bt469.1 bt469.2.1 bt469.2.2.1 bt476.1 bt476.2.1 bt476.2.2 bt482.1 bt482.2.1 bt482.2.2.1) else (laws_FnExactTopAdd.j0 k a1 bt469.2.2.2 bt482.2.2.2 true l0_0 a0_1 a0_2 bt469.1 bt469.2.1 bt469.2.2.1 bt476.1 bt476.2.1 bt476.2.2 bt482.1 bt482.2.1 bt482.2.2.1))))))))) = some r := h
  clear h
  replace H := Option.bind_eq_some_iff.mp H
  obtain ⟨t463, A30, H⟩ := H
  replace H : (if t463 < 0 then (some true) else ((laws_toTop.f k l0_0 a0_1 a0_2).bind fun bt464 => ((spec_TopAdd.f k bt464.1 bt464.2.1 bt464.2.2 a1).bind fun bt469 => ((laws_toTop.f k l0_0 a0_1 a0_2).bind fun bt476 => ((impl_TopAdd.f k bt476.1 bt476.2.1 bt476.2.2 a1).bind fun bt482 => ((laws_eqTop.f k bt482.1 bt482.2.1 bt482.2.2.1 bt469.1 bt469.2.1 bt469.2.2.1).bind fun t489 => (if t489 = true then (laws_FnExactTopAdd.j0 k a1 bt469.2.2.2 bt482.2.2.2 (bt482.2.2.2 != bt469.2.2.2) l0_0 a0_1 a0_2 bt469.1 bt469.2.1 bt469.2.2.1 bt476.1 bt476.2.1 bt476.2.2 bt482.1 bt482.2.1 bt482.2.2.1) else (laws_FnExactTopAdd.j0 k a1 bt469.2.2.2 bt482.2.2.2 true l0_0 a0_1 a0_2 bt469.1 bt469.2.1 bt469.2.2.1 bt476.1 bt476.2.1 bt476.2.2 bt482.1 bt482.2.1 bt482.2.2.1)))))))) = some r := H
  have A3 := Aside0.mk A30;clear A30
  by_cases c4 : t463 < 0
  · rw [if_pos c4] at H
    have c4b0 : decide (t463 < 0) = true := decide_eq_true c4
    clear c4
    obtain rfl := Option.some.inj H
    go_enter Try.func4, Try.ntmps4
    go_wp2_with (first | ((with_reducible refine gate_dst (N := 2) rfl ?_); refine box_event ?hg (N := 2) ?hd (cs := #[.slice A0_0 l0_0.length c0_0, .int .i64 a0_1, .int .i64 a0_2]) (t := 37) ?hr ?_; (case hd => rfl); (case hg => rfl); (case hr => exact q4_58); intro gb462 hg w5 hbox hb; have n1_ := Aside0.mk (hbox); have n2_ := Aside0.mk ((by rw [hg]; exact (below_size q4_22) : w.heap.size ≤ gb462)); have n3_ := Aside0.mk ((by rw [hg]; exact (below_size q4_22) : w.heap.size ≤ gb462)); replace HB := Aside0.mk (below_step q4_22 hb); have BK462 := n1_; have GW462 := n2_; have GE462 := n3_; clear n1_ n2_ n3_; clear hb hbox hg; have hcz6_0 := z4bc BK462 0; have hcz6_1 := z4bc BK462 1; have hcz6_2 := z4bc BK462 2; have hfz6_0 := blk_frozen BK462.out 0; have hfz6_1 := blk_frozen BK462.out 1; have hfz6_2 := blk_frozen BK462.out 2) | ((with_reducible refine gate_callee (f := 13) rfl ?_); refine goesL_ (some 18) rfl rfl Try.func13 (by kernel_rfl) rfl #[.agg #[.slice A0_0 l0_0.length c0_0, .int .i64 a0_1, .int .i64 a0_2], .int .i64 1048576] rfl q4_1 ?_; (with_reducible refine (laws_szTop.calls _ _ l0_0 a0_1 a0_2 1048576 t463 _ ?side1 ?side2 A3.out).mono ?_); (case side1 => exact q4_16); (case side2 => exact HC0_0.out); rintro e w7 ⟨rfl, hb⟩; refine ⟨_, rfl, ?_⟩; replace BK462 := z4bb BK462 hb; replace HB := Aside0.mk (below_step q4_6 hb); (try clear hb); (try clear hb2); (try clear hk); (try clear hi)))
    go_ret
    exact ⟨q4_18, q4_6⟩
  · rw [if_neg c4] at H
    have c4b0 : decide (t463 < 0) = false := decide_eq_false c4
    clear c4
    replace H := Option.bind_eq_some_iff.mp H
    obtain ⟨⟨t464, t467, t468⟩, A80, H⟩ := H
    replace H : ((spec_TopAdd.f k t464 t467 t468 a1).bind fun bt469 => ((laws_toTop.f k l0_0 a0_1 a0_2).bind fun bt476 => ((impl_TopAdd.f k bt476.1 bt476.2.1 bt476.2.2 a1).bind fun bt482 => ((laws_eqTop.f k bt482.1 bt482.2.1 bt482.2.2.1 bt469.1 bt469.2.1 bt469.2.2.1).bind fun t489 => (if t489 = true then (laws_FnExactTopAdd.j0 k a1 bt469.2.2.2 bt482.2.2.2 (bt482.2.2.2 != bt469.2.2.2) l0_0 a0_1 a0_2 bt469.1 bt469.2.1 bt469.2.2.1 bt476.1 bt476.2.1 bt476.2.2 bt482.1 bt482.2.1 bt482.2.2.1) else (laws_FnExactTopAdd.j0 k a1 bt469.2.2.2 bt482.2.2.2 true l0_0 a0_1 a0_2 bt469.1 bt469.2.1 bt469.2.2.1 bt476.1 bt476.2.1 bt476.2.2 bt482.1 bt482.2.1 bt482.2.2.1)))))) = some r := H
    have A8 := Aside0.mk A80;clear A80
    replace H := Option.bind_eq_some_iff.mp H
    obtain ⟨⟨t469, t472, t473, t474⟩, A90, H⟩ := H
    replace H : ((laws_toTop.f k l0_0 a0_1 a0_2).bind fun bt476 => ((impl_TopAdd.f k bt476.1 bt476.2.1 bt476.2.2 a1).bind fun bt482 => ((laws_eqTop.f k bt482.1 bt482.2.1 bt482.2.2.1 t469 t472 t473).bind fun t489 => (if t489 = true then (laws_FnExactTopAdd.j0 k a1 t474 bt482.2.2.2 (bt482.2.2.2 != t474) l0_0 a0_1 a0_2 t469 t472 t473 bt476.1 bt476.2.1 bt476.2.2 bt482.1 bt482.2.1 bt482.2.2.1) else (laws_FnExactTopAdd.j0 k a1 t474 bt482.2.2.2 true l0_0 a0_1 a0_2 t469 t472 t473 bt476.1 bt476.2.1 bt476.2.2 bt482.1 bt482.2.1 bt482.2.2.1))))) = some r := H
    have A9 := Aside0.mk A90;clear A90
    replace H := Option.bind_eq_some_iff.mp H
    obtain ⟨⟨t476, t479, t480⟩, A100, H⟩ := H
    replace H : ((impl_TopAdd.f k t476 t479 t480 a1).bind fun bt482 => ((laws_eqTop.f k bt482.1 bt482.2.1 bt482.2.2.1 t469 t472 t473).bind fun t489 => (if t489 = true then (laws_FnExactTopAdd.j0 k a1 t474 bt482.2.2.2 (bt482.2.2.2 != t474) l0_0 a0_1 a0_2 t469 t472 t473 t476 t479 t480 bt482.1 bt482.2.1 bt482.2.2.1) else (laws_FnExactTopAdd.j0 k a1 t474 bt482.2.2.2 true l0_0 a0_1 a0_2 t469 t472 t473 t476 t479 t480 bt482.1 bt482.2.1 bt482.2.2.1)))) = some r := H
    have A10 := Aside0.mk A100;clear A100
    replace H := Option.bind_eq_some_iff.mp H
    obtain ⟨⟨t482, t485, t486, t487⟩, A110, H⟩ := H
    replace H : ((laws_eqTop.f k t482 t485 t486 t469 t472 t473).bind fun t489 => (if t489 = true then (laws_FnExactTopAdd.j0 k a1 t474 t487 (t487 != t474) l0_0 a0_1 a0_2 t469 t472 t473 t476 t479 t480 t482 t485 t486) else (laws_FnExactTopAdd.j0 k a1 t474 t487 true l0_0 a0_1 a0_2 t469 t472 t473 t476 t479 t480 t482 t485 t486))) = some r := H
    have A11 := Aside0.mk A110;clear A110;have HC12 := Aside0.mk H;clear H
    go_enter Try.func4, Try.ntmps4
    go_upto_region 8 with (first | ((with_reducible refine gate_dst (N := 2) rfl ?_); refine box_event ?hg (N := 2) ?hd (cs := #[.slice A0_0 l0_0.length c0_0, .int .i64 a0_1, .int .i64 a0_2]) (t := 37) ?hr ?_; (case hd => rfl); (case hg => rfl); (case hr => exact q4_58); intro gb462 hg w13 hbox hb; have n1_ := Aside0.mk (hbox); have n2_ := Aside0.mk ((by rw [hg]; exact (below_size q4_22) : w.heap.size ≤ gb462)); have n3_ := Aside0.mk ((by rw [hg]; exact (below_size q4_22) : w.heap.size ≤ gb462)); replace HB := Aside0.mk (below_step q4_22 hb); have BK462 := n1_; have GW462 := n2_; have GE462 := n3_; clear n1_ n2_ n3_; clear hb hbox hg; have hcz14_0 := z4bc BK462 0; have hcz14_1 := z4bc BK462 1; have hcz14_2 := z4bc BK462 2; have hfz14_0 := blk_frozen BK462.out 0; have hfz14_1 := blk_frozen BK462.out 1; have hfz14_2 := blk_frozen BK462.out 2) | ((with_reducible refine gate_callee (f := 13) rfl ?_); refine goesL_ (some 18) rfl rfl Try.func13 (by kernel_rfl) rfl #[.agg #[.slice A0_0 l0_0.length c0_0, .int .i64 a0_1, .int .i64 a0_2], .int .i64 1048576] rfl q4_1 ?_; (with_reducible refine (laws_szTop.calls _ _ l0_0 a0_1 a0_2 1048576 t463 _ ?side1 ?side2 A3.out).mono ?_); (case side1 => exact q4_16); (case side2 => exact HC0_0.out); rintro e w15 ⟨rfl, hb⟩; refine ⟨_, rfl, ?_⟩; replace BK462 := z4bb BK462 hb; replace HB := Aside0.mk (below_step q4_6 hb); (try clear hb); (try clear hb2); (try clear hk); (try clear hi); have hcz16_0 := z4bc BK462 0; have hcz16_1 := z4bc BK462 1; have hcz16_2 := z4bc BK462 2; have hfz16_0 := blk_frozen BK462.out 0; have hfz16_1 := blk_frozen BK462.out 1; have hfz16_2 := blk_frozen BK462.out 2) | ((with_reducible refine gate_callee (f := 14) rfl ?_); refine goesL_ (some 23) rfl rfl Try.func14 (by kernel_rfl) rfl #[.agg #[.slice A0_0 l0_0.length c0_0, .int .i64 a0_1, .int .i64 a0_2]] rfl q4_1 ?_; (with_reducible refine (laws_toTop.calls k _ _ l0_0 a0_1 a0_2 t464 t467 t468 _ ?side1 ?side2 A8.out).mono ?_); (case side1 => exact q4_16); (case side2 => exact HC0_0.out); rintro e w17 ⟨v465, rfl, ho0, hb⟩; refine ⟨_, rfl, ?_⟩; have n0_ := Aside0.mk (Kd.R_lower ho0 (below_size q4_6)); replace BK462 := z4bb BK462 hb; replace HB := Aside0.mk (below_step q4_6 hb); have HO466 := n0_; clear n0_; (try clear hb); (try clear hb2); (try clear hk); (try clear hi); (try clear ho0); obtain ⟨Ao18, co18, eo18⟩ := Kd.R_slice HO466.out; subst eo18) | ((with_reducible refine gate_callee (f := 8) rfl ?_); refine goesL_ (some 25) rfl rfl Try.func8 (by kernel_rfl) rfl #[.agg #[.slice Ao18 t464.length co18, .int .i64 t467, .int .i64 t468], .int .i64 a1] rfl q4_1 ?_; (with_reducible refine (spec_TopAdd.calls k _ _ t464 t467 t468 a1 t469 t472 t473 t474 _ ?side1 ?side2 A9.out).mono ?_); (case side1 => repeat (first | exact (Kd.R_reads' HO466.out).2.2 | (with_reducible refine Kd.C_alloc ?_ _) | (with_reducible refine Kd.C_drewN ?_ _) | (with_reducible refine Kd.C_drew ?_))); (case side2 => exact (Kd.R_reads' HO466.out).2.1); rintro e w19 ⟨v470, rfl, ho0, hb⟩; refine ⟨_, rfl, ?_⟩; have n1_ := Aside0.mk (Kd.R_lower (Kd.R_new' ho0 (Kd.R_lt q4_43)) (below_size q4_6)); replace HO466 := Aside0.mk (Kd.R_elder' q4_43 (Kd.R_base ho0) hb); replace BK462 := z4bb BK462 hb; replace HB := Aside0.mk (below_step q4_6 hb); have HO471 := n1_; clear n1_; (try clear hb); (try clear hb2); (try clear hk); (try clear hi); (try clear ho0)) | ((with_reducible refine gate_dst (N := 6) rfl ?_); refine box_event ?hg (N := 6) ?hd (cs := #[.slice none 0 0, .int .i64 0, .int .i64 0]) (t := 25) ?hr ?_; (case hd => rfl); (case hg => rfl); (case hr => exact q4_58); intro gb475 hg w20 hbox hb; have n4_ := Aside0.mk (hbox); have n5_ := Aside0.mk ((by rw [hg]; exact (below_size q4_6) : w.heap.size ≤ gb475)); have n6_ := Aside0.mk ((by rw [hg]; exact (below_size q4_6) : w.heap.size ≤ gb475)); have n7_ := Aside0.mk ((q4_34 : gb462 ≠ gb475)); have n8_ := Aside0.mk ((q4_35 : gb475 ≠ gb462)); replace HO466 := Aside0.mk (Kd.R_below q4_43 hb); replace HO471 := Aside0.mk (Kd.R_below q4_54 hb); replace BK462 := z4bb BK462 hb; replace HB := Aside0.mk (below_step q4_6 hb); have BK475 := n4_; have GW475 := n5_; have GE475 := n6_; have NB462_475 := n7_; have NB475_462 := n8_; clear n4_ n5_ n6_ n7_ n8_; clear hb hbox hg; obtain ⟨Ao21, co21, eo21⟩ := Kd.R_slice HO471.out; subst eo21; have hnb22 := NB475_462.out; have hnc22 := NB462_475.out; have hcz23_0 := z4bc BK475 0; have hcz23_1 := z4bc BK475 1; have hcz23_2 := z4bc BK475 2; have hfz23_0 := blk_frozen BK475.out 0; have hfz23_1 := blk_frozen BK475.out 1; have hfz23_2 := blk_frozen BK475.out 2; have hcz24_0 := z4bc BK462 0; have hcz24_1 := z4bc BK462 1; have hcz24_2 := z4bc BK462 2; have hfz24_0 := blk_frozen BK462.out 0; have hfz24_1 := blk_frozen BK462.out 1; have hfz24_2 := blk_frozen BK462.out 2) | ((with_reducible refine gate_callee (f := 14) rfl ?_); refine goesL_ (some 29) rfl rfl Try.func14 (by kernel_rfl) rfl #[.agg #[.slice A0_0 l0_0.length c0_0, .int .i64 a0_1, .int .i64 a0_2]] rfl q4_1 ?_; (with_reducible refine (laws_toTop.calls k _ _ l0_0 a0_1 a0_2 t476 t479 t480 _ ?side1 ?side2 A10.out).mono ?_); (case side1 => exact Kd.C_below HR0_0.out q4_14); (case side2 => exact HC0_0.out); rintro e w25 ⟨v477, rfl, ho0, hb⟩; refine ⟨_, rfl, ?_⟩; have n0_ := Aside0.mk (Kd.R_elder' q4_37 (Kd.R_base ho0) hb); have n1_ := Aside0.mk (Kd.R_elder' q4_38 (Kd.R_base ho0) hb); have n2_ := Aside0.mk (Kd.R_lower (Kd.R_new' (Kd.R_new' ho0 (Kd.R_lt q4_37)) (Kd.R_lt q4_38)) (below_size q4_14)); replace BK462 := Aside0.mk (blk_below (g := gb462) (o := .cells #[.slice A0_0 l0_0.length c0_0, .int .i64 a0_1, .int .i64 a0_2] 37 (0, 0)) (by (with_reducible repeat (first | refine blk_drewN ?_ _ | refine blk_drew ?_ | refine blk_alloc ?_ _)); refine blk_far ?_ NB462_475.out _; (with_reducible repeat (first | refine blk_drewN ?_ _ | refine blk_drew ?_ | refine blk_alloc ?_ _)); refine blk_far ?_ NB462_475.out _; (with_reducible repeat (first | refine blk_drewN ?_ _ | refine blk_drew ?_ | refine blk_alloc ?_ _)); refine blk_far ?_ NB462_475.out _; (with_reducible repeat (first | refine blk_drewN ?_ _ | refine blk_drew ?_ | refine blk_alloc ?_ _)); exact BK462.out) hb); replace BK475 := Aside0.mk (blk_below (g := gb475) (o := .cells #[.slice Ao21 t469.length co21, .int .i64 t472, .int .i64 t473] 25 (0, 0)) (by (with_reducible repeat (first | refine blk_drewN ?_ _ | refine blk_drew ?_ | refine blk_alloc ?_ _)); refine blk_put (cs := #[.slice Ao21 t469.length co21, .int .i64 t472, .int .i64 0]) ?_ 2 _ rfl; (with_reducible repeat (first | refine blk_drewN ?_ _ | refine blk_drew ?_ | refine blk_alloc ?_ _)); refine blk_put (cs := #[.slice Ao21 t469.length co21, .int .i64 0, .int .i64 0]) ?_ 1 _ rfl; (with_reducible repeat (first | refine blk_drewN ?_ _ | refine blk_drew ?_ | refine blk_alloc ?_ _)); refine blk_put (cs := #[.slice none 0 0, .int .i64 0, .int .i64 0]) ?_ 0 _ rfl; (with_reducible repeat (first | refine blk_drewN ?_ _ | refine blk_drew ?_ | refine blk_alloc ?_ _)); exact BK475.out) hb); replace HB := Aside0.mk (below_step q4_14 hb); clear HO466; clear HO471; have HO466 := n0_; have HO471 := n1_; have HO478 := n2_; clear n0_ n1_ n2_; (try clear hb); (try clear hb2); (try clear hk); (try clear hi); (try clear ho0)) | ((with_reducible refine gate_dst (N := 8) rfl ?_); refine box_event ?hg (N := 8) ?hd (cs := #[.slice none 0 0, .int .i64 0, .int .i64 0]) (t := 25) ?hr ?_; (case hd => rfl); (case hg => rfl); (case hr => exact q4_58); intro gb481 hg w26 hbox hb; have n6_ := Aside0.mk (hbox); have n7_ := Aside0.mk ((by rw [hg]; exact (below_size q4_14) : w.heap.size ≤ gb481)); have n8_ := Aside0.mk ((by rw [hg]; exact (below_size q4_14) : w.heap.size ≤ gb481)); have n9_ := Aside0.mk ((q4_34 : gb462 ≠ gb481)); have n10_ := Aside0.mk ((q4_35 : gb481 ≠ gb462)); have n11_ := Aside0.mk ((q4_49 : gb475 ≠ gb481)); have n12_ := Aside0.mk ((q4_50 : gb481 ≠ gb475)); replace HO466 := Aside0.mk (Kd.R_below q4_43 hb); replace HO471 := Aside0.mk (Kd.R_below q4_54 hb); replace HO478 := Aside0.mk (Kd.R_below q4_60 hb); replace BK462 := z4bb BK462 hb; replace BK475 := z4bb BK475 hb; replace HB := Aside0.mk (below_step q4_14 hb); have BK481 := n6_; have GW481 := n7_; have GE481 := n8_; have NB462_481 := n9_; have NB481_462 := n10_; have NB475_481 := n11_; have NB481_475 := n12_; clear n6_ n7_ n8_ n9_ n10_ n11_ n12_; clear hb hbox hg; obtain ⟨Ao27, co27, eo27⟩ := Kd.R_slice HO478.out; subst eo27; have hnb28 := NB481_462.out; have hnc28 := NB462_481.out; have hnb29 := NB481_475.out; have hnc29 := NB475_481.out; have hcz30_0 := z4bc BK481 0; have hcz30_1 := z4bc BK481 1; have hcz30_2 := z4bc BK481 2; have hfz30_0 := blk_frozen BK481.out 0; have hfz30_1 := blk_frozen BK481.out 1; have hfz30_2 := blk_frozen BK481.out 2) | ((with_reducible refine gate_callee (f := 9) rfl ?_); refine goesL_ (some 33) rfl rfl Try.func9 (by kernel_rfl) rfl #[.agg #[.slice Ao27 t476.length co27, .int .i64 t479, .int .i64 t480], .int .i64 a1] rfl q4_1 ?_; (with_reducible refine (impl_TopAdd.calls k _ _ t476 t479 t480 a1 t482 t485 t486 t487 _ ?side1 ?side2 A11.out).mono ?_); (case side1 => refine (Kd.R_reads' (e := 54) (base := w.heap.size) (ok := fun k_ => ((True ∧ some k_ ≠ (.slice Ao18 t464.length co18 : Value).ownBlock) ∧ some k_ ≠ (.slice Ao21 t469.length co21 : Value).ownBlock)) (n := t476.length) (c := co27) ?_).2.2; exact q4_17); (case side2 => exact (Kd.R_reads' HO478.out).2.1); rintro e w31 ⟨v483, rfl, ho0, hb⟩; refine ⟨_, rfl, ?_⟩; have n0_ := Aside0.mk (Kd.R_elder' q4_39 (Kd.R_base ho0) hb); have n1_ := Aside0.mk (Kd.R_elder' q4_40 (Kd.R_base ho0) hb); have n2_ := Aside0.mk (Kd.R_elder' q4_17 (Kd.R_base ho0) hb); have n3_ := Aside0.mk (Kd.R_lower (Kd.R_new' (Kd.R_new' (Kd.R_new' ho0 (Kd.R_lt q4_39)) (Kd.R_lt q4_40)) (Kd.R_lt q4_17)) (below_size q4_15)); replace BK462 := Aside0.mk (blk_below (g := gb462) (o := .cells #[.slice A0_0 l0_0.length c0_0, .int .i64 a0_1, .int .i64 a0_2] 37 (0, 0)) (by (with_reducible repeat (first | refine blk_drewN ?_ _ | refine blk_drew ?_ | refine blk_alloc ?_ _)); refine blk_far ?_ NB462_481.out _; (with_reducible repeat (first | refine blk_drewN ?_ _ | refine blk_drew ?_ | refine blk_alloc ?_ _)); refine blk_far ?_ NB462_481.out _; (with_reducible repeat (first | refine blk_drewN ?_ _ | refine blk_drew ?_ | refine blk_alloc ?_ _)); refine blk_far ?_ NB462_481.out _; (with_reducible repeat (first | refine blk_drewN ?_ _ | refine blk_drew ?_ | refine blk_alloc ?_ _)); exact BK462.out) hb); replace BK475 := Aside0.mk (blk_below (g := gb475) (o := .cells #[.slice Ao21 t469.length co21, .int .i64 t472, .int .i64 t473] 25 (0, 0)) (by (with_reducible repeat (first | refine blk_drewN ?_ _ | refine blk_drew ?_ | refine blk_alloc ?_ _)); refine blk_far ?_ NB475_481.out _; (with_reducible repeat (first | refine blk_drewN ?_ _ | refine blk_drew ?_ | refine blk_alloc ?_ _)); refine blk_far ?_ NB475_481.out _; (with_reducible repeat (first | refine blk_drewN ?_ _ | refine blk_drew ?_ | refine blk_alloc ?_ _)); refine blk_far ?_ NB475_481.out _; (with_reducible repeat (first | refine blk_drewN ?_ _ | refine blk_drew ?_ | refine blk_alloc ?_ _)); exact BK475.out) hb); replace BK481 := Aside0.mk (blk_below (g := gb481) (o := .cells #[.slice Ao27 t476.length co27, .int .i64 t479, .int .i64 t480] 25 (0, 0)) (by (with_reducible repeat (first | refine blk_drewN ?_ _ | refine blk_drew ?_ | refine blk_alloc ?_ _)); refine blk_put (cs := #[.slice Ao27 t476.length co27, .int .i64 t479, .int .i64 0]) ?_ 2 _ rfl; (with_reducible repeat (first | refine blk_drewN ?_ _ | refine blk_drew ?_ | refine blk_alloc ?_ _)); refine blk_put (cs := #[.slice Ao27 t476.length co27, .int .i64 0, .int .i64 0]) ?_ 1 _ rfl; (with_reducible repeat (first | refine blk_drewN ?_ _ | refine blk_drew ?_ | refine blk_alloc ?_ _)); refine blk_put (cs := #[.slice none 0 0, .int .i64 0, .int .i64 0]) ?_ 0 _ rfl; (with_reducible repeat (first | refine blk_drewN ?_ _ | refine blk_drew ?_ | refine blk_alloc ?_ _)); exact BK481.out) hb); replace HB := Aside0.mk (below_step q4_15 hb); clear HO466; clear HO471; clear HO478; have HO466 := n0_; have HO471 := n1_; have HO478 := n2_; have HO484 := n3_; clear n0_ n1_ n2_ n3_; (try clear hb); (try clear hb2); (try clear hk); (try clear hi); (try clear ho0)) | ((with_reducible refine gate_dst (N := 9) rfl ?_); refine box_event ?hg (N := 9) ?hd (cs := #[.slice none 0 0, .int .i64 0, .int .i64 0]) (t := 25) ?hr ?_; (case hd => rfl); (case hg => rfl); (case hr => exact q4_58); intro gb488 hg w32 hbox hb; have n8_ := Aside0.mk (hbox); have n9_ := Aside0.mk ((by rw [hg]; exact (below_size q4_15) : w.heap.size ≤ gb488)); have n10_ := Aside0.mk ((by rw [hg]; exact (below_size q4_15) : w.heap.size ≤ gb488)); have n11_ := Aside0.mk ((q4_34 : gb462 ≠ gb488)); have n12_ := Aside0.mk ((q4_35 : gb488 ≠ gb462)); have n13_ := Aside0.mk ((q4_49 : gb475 ≠ gb488)); have n14_ := Aside0.mk ((q4_50 : gb488 ≠ gb475)); have n15_ := Aside0.mk ((by rw [hg]; exact Nat.ne_of_lt (blk_lt (g := gb481) (o := .cells #[.slice Ao27 t476.length co27, .int .i64 t479, .int .i64 t480] 25 (0, 0)) q4_19) : gb481 ≠ gb488)); have n16_ := Aside0.mk ((by rw [hg]; exact Nat.ne_of_gt (blk_lt (g := gb481) (o := .cells #[.slice Ao27 t476.length co27, .int .i64 t479, .int .i64 t480] 25 (0, 0)) q4_19) : gb488 ≠ gb481)); replace HO466 := Aside0.mk (Kd.R_below q4_43 hb); replace HO471 := Aside0.mk (Kd.R_below q4_54 hb); replace HO478 := Aside0.mk (Kd.R_below q4_60 hb); replace HO484 := Aside0.mk (Kd.R_below (by (with_reducible repeat (first | apply Kd.R_alloc | apply Kd.R_drewN | apply Kd.R_drew)); exact HO484.out) hb); replace BK462 := z4bb BK462 hb; replace BK475 := z4bb BK475 hb; replace BK481 := z4bb BK481 hb; replace HB := Aside0.mk (below_step q4_15 hb); have BK488 := n8_; have GW488 := n9_; have GE488 := n10_; have NB462_488 := n11_; have NB488_462 := n12_; have NB475_488 := n13_; have NB488_475 := n14_; have NB481_488 := n15_; have NB488_481 := n16_; clear n8_ n9_ n10_ n11_ n12_ n13_ n14_ n15_ n16_; clear hb hbox hg; obtain ⟨Ao33, co33, eo33⟩ := Kd.R_slice HO484.out; subst eo33; have hnb34 := NB488_462.out; have hnc34 := NB462_488.out; have hnb35 := NB488_475.out; have hnc35 := NB475_488.out; have hnb36 := NB488_481.out; have hnc36 := NB481_488.out; have hcz37_0 := z4bc BK488 0; have hcz37_1 := z4bc BK488 1; have hcz37_2 := z4bc BK488 2; have hfz37_0 := blk_frozen BK488.out 0; have hfz37_1 := blk_frozen BK488.out 1; have hfz37_2 := blk_frozen BK488.out 2))
    (try simp only [Act.put, List.setIfInBounds_toArray, List.set_cons_zero, List.set_cons_succ])
    go_cut [44] (fun v44 wc => ∃ (kq : Nat) (x44_11 : Bool), v44 = .bool x44_11 ∧ Aside0 (laws_FnExactTopAdd.j0 kq a1 t474 t487 x44_11 l0_0 a0_1 a0_2 t469 t472 t473 t476 t479 t480 t482 t485 t486 = some r) ∧ Aside0 (kq ≤ k) ∧ Aside0 (Kd.R k54 54 wc w.heap.size (fun k_ => some k_ ≠ ((.slice Ao27 t476.length co27) : Value).ownBlock ∧ some k_ ≠ ((.slice Ao33 t482.length co33) : Value).ownBlock) (.slice Ao21 t469.length co21) t469) ∧ Aside0 (Kd.R k54 54 wc w.heap.size (fun k_ => some k_ ≠ ((.slice Ao21 t469.length co21) : Value).ownBlock ∧ some k_ ≠ ((.slice Ao33 t482.length co33) : Value).ownBlock) (.slice Ao27 t476.length co27) t476) ∧ Aside0 (Kd.R k54 54 wc w.heap.size (fun k_ => some k_ ≠ ((.slice Ao21 t469.length co21) : Value).ownBlock ∧ some k_ ≠ ((.slice Ao27 t476.length co27) : Value).ownBlock) (.slice Ao33 t482.length co33) t482) ∧ Aside0 (wc.heap[gb462]? = some (.cells #[(.slice A0_0 l0_0.length c0_0), .int .i64 a0_1, .int .i64 a0_2] 37 (0, 0))) ∧ Aside0 (wc.heap[gb475]? = some (.cells #[(.slice Ao21 t469.length co21), .int .i64 t472, .int .i64 t473] 25 (0, 0))) ∧ Aside0 (wc.heap[gb481]? = some (.cells #[(.slice Ao27 t476.length co27), .int .i64 t479, .int .i64 t480] 25 (0, 0))) ∧ Aside0 (wc.heap[gb488]? = some (.cells #[(.slice Ao33 t482.length co33), .int .i64 t485, .int .i64 t486] 25 (0, 0))) ∧ Aside0 (Below w.heap.size w wc))
    case first =>
      have H := HC12.out;clear HC12
      replace H := Option.bind_eq_some_iff.mp H
      obtain ⟨t489, A380, H⟩ := H
      replace H : (if t489 = true then (laws_FnExactTopAdd.j0 k a1 t474 t487 (t487 != t474) l0_0 a0_1 a0_2 t469 t472 t473 t476 t479 t480 t482 t485 t486) else (laws_FnExactTopAdd.j0 k a1 t474 t487 true l0_0 a0_1 a0_2 t469 t472 t473 t476 t479 t480 t482 t485 t486)) = some r := H
      have A38 := Aside0.mk A380;clear A380
      by_cases c39 : t489 = true
      · subst c39
        have H1 : (laws_FnExactTopAdd.j0 k a1 t474 t487 (t487 != t474) l0_0 a0_1 a0_2 t469 t472 t473 t476 t479 t480 t482 t485 t486) = some r := by rw [if_pos rfl] at H; exact H
        clear H;have H := H1;clear H1
        have H' := Aside0.mk H
        clear H;have hnb40 := NB488_462.out;have hnc40 := NB462_488.out;have hnb41 := NB488_475.out;have hnc41 := NB475_488.out;have hnb42 := NB488_481.out;have hnc42 := NB481_488.out;have hcz43_0 := z4bc BK488 0;have hcz43_1 := z4bc BK488 1;have hcz43_2 := z4bc BK488 2;have hfz43_0 := blk_frozen BK488.out 0;have hfz43_1 := blk_frozen BK488.out 1;have hfz43_2 := blk_frozen BK488.out 2;have hnb44 := NB475_462.out;have hnc44 := NB462_475.out;have hnb45 := NB475_481.out;have hnc45 := NB481_475.out;have hcz46_0 := z4bc BK475 0;have hcz46_1 := z4bc BK475 1;have hcz46_2 := z4bc BK475 2;have hfz46_0 := blk_frozen BK475.out 0;have hfz46_1 := blk_frozen BK475.out 1;have hfz46_2 := blk_frozen BK475.out 2
        go_wp2_with (first | ((with_reducible refine gate_callee (f := 15) rfl ?_); refine goesL_ (some 38) rfl rfl Try.func15 (by kernel_rfl) rfl #[.agg #[.slice Ao33 t482.length co33, .int .i64 t485, .int .i64 t486], .agg #[.slice Ao21 t469.length co21, .int .i64 t472, .int .i64 t473]] rfl q4_1 ?_; (with_reducible refine (laws_eqTop.calls k _ _ t482 t485 t486 _ _ t469 t472 t473 true _ ?side1 ?side2 ?side3 ?side4 A38.out).mono ?_); (case side1 => exact q4_46); (case side2 => exact (Kd.R_reads' HO484.out).2.1); (case side3 => exact q4_47); (case side4 => exact (Kd.R_reads' HO471.out).2.1); rintro e w47 ⟨rfl, hb⟩; refine ⟨_, rfl, ?_⟩; have n0_ := Aside0.mk (Kd.R_below q4_41 hb); have n1_ := Aside0.mk (Kd.R_below q4_11 hb); have n2_ := Aside0.mk (Kd.R_below q4_42 hb); have n3_ := Aside0.mk (Kd.R_below q4_10 hb); replace BK462 := Aside0.mk (blk_below (g := gb462) (o := .cells #[.slice A0_0 l0_0.length c0_0, .int .i64 a0_1, .int .i64 a0_2] 37 (0, 0)) q4_24 hb); replace BK475 := Aside0.mk (blk_below (g := gb475) (o := .cells #[.slice Ao21 t469.length co21, .int .i64 t472, .int .i64 t473] 25 (0, 0)) q4_25 hb); replace BK481 := Aside0.mk (blk_below (g := gb481) (o := .cells #[.slice Ao27 t476.length co27, .int .i64 t479, .int .i64 t480] 25 (0, 0)) q4_26 hb); replace BK488 := Aside0.mk (blk_below (g := gb488) (o := .cells #[.slice Ao33 t482.length co33, .int .i64 t485, .int .i64 t486] 25 (0, 0)) q4_21 hb); replace HB := Aside0.mk (below_step q4_0 hb); clear HO466; clear HO471; clear HO478; clear HO484; have HO466 := n0_; have HO471 := n1_; have HO478 := n2_; have HO484 := n3_; clear n0_ n1_ n2_ n3_; (try clear hb); (try clear hb2); (try clear hk); (try clear hi)))
        go_meet
        case rel => exact ⟨_, ((t487 != t474)), q4_51, H', ⟨by first | omega | exact Nat.le_refl _⟩, ⟨by (with_reducible repeat (first | apply Kd.R_alloc | apply Kd.R_drewN | apply Kd.R_drew)); exact Kd.R_mono HO471.out (fun _ hk => ⟨hk.1.2, hk.2⟩)⟩, ⟨by (with_reducible repeat (first | apply Kd.R_alloc | apply Kd.R_drewN | apply Kd.R_drew)); exact Kd.R_mono HO478.out (fun _ hk => ⟨hk.1.2, hk.2⟩)⟩, ⟨by (with_reducible repeat (first | apply Kd.R_alloc | apply Kd.R_drewN | apply Kd.R_drew)); exact Kd.R_mono HO484.out (fun _ hk => ⟨hk.1.2, hk.2⟩)⟩, ⟨by (with_reducible repeat (first | refine blk_drewN ?_ _ | refine blk_drew ?_ | refine blk_alloc ?_ _)); exact BK462.out⟩, ⟨by (with_reducible repeat (first | refine blk_drewN ?_ _ | refine blk_drew ?_ | refine blk_alloc ?_ _)); exact BK475.out⟩, ⟨by (with_reducible repeat (first | refine blk_drewN ?_ _ | refine blk_drew ?_ | refine blk_alloc ?_ _)); exact BK481.out⟩, ⟨by (with_reducible repeat (first | refine blk_drewN ?_ _ | refine blk_drew ?_ | refine blk_alloc ?_ _)); exact BK488.out⟩, ⟨q4_0⟩⟩
      · replace c39 := Bool.eq_false_iff.mpr c39
        subst c39
        have H1 : (laws_FnExactTopAdd.j0 k a1 t474 t487 true l0_0 a0_1 a0_2 t469 t472 t473 t476 t479 t480 t482 t485 t486) = some r := by rw [if_neg (show ¬ (false = true) by decide)] at H; exact H
        clear H;have H := H1;clear H1
        have H' := Aside0.mk H
        clear H;have hnb48 := NB488_462.out;have hnc48 := NB462_488.out;have hnb49 := NB488_475.out;have hnc49 := NB475_488.out;have hnb50 := NB488_481.out;have hnc50 := NB481_488.out;have hcz51_0 := z4bc BK488 0;have hcz51_1 := z4bc BK488 1;have hcz51_2 := z4bc BK488 2;have hfz51_0 := blk_frozen BK488.out 0;have hfz51_1 := blk_frozen BK488.out 1;have hfz51_2 := blk_frozen BK488.out 2;have hnb52 := NB475_462.out;have hnc52 := NB462_475.out;have hnb53 := NB475_481.out;have hnc53 := NB481_475.out;have hcz54_0 := z4bc BK475 0;have hcz54_1 := z4bc BK475 1;have hcz54_2 := z4bc BK475 2;have hfz54_0 := blk_frozen BK475.out 0;have hfz54_1 := blk_frozen BK475.out 1;have hfz54_2 := blk_frozen BK475.out 2
        go_wp2_with (first | ((with_reducible refine gate_callee (f := 15) rfl ?_); refine goesL_ (some 38) rfl rfl Try.func15 (by kernel_rfl) rfl #[.agg #[.slice Ao33 t482.length co33, .int .i64 t485, .int .i64 t486], .agg #[.slice Ao21 t469.length co21, .int .i64 t472, .int .i64 t473]] rfl q4_1 ?_; (with_reducible refine (laws_eqTop.calls k _ _ t482 t485 t486 _ _ t469 t472 t473 false _ ?side1 ?side2 ?side3 ?side4 A38.out).mono ?_); (case side1 => exact q4_46); (case side2 => exact (Kd.R_reads' HO484.out).2.1); (case side3 => exact q4_47); (case side4 => exact (Kd.R_reads' HO471.out).2.1); rintro e w55 ⟨rfl, hb⟩; refine ⟨_, rfl, ?_⟩; have n0_ := Aside0.mk (Kd.R_below q4_41 hb); have n1_ := Aside0.mk (Kd.R_below q4_11 hb); have n2_ := Aside0.mk (Kd.R_below q4_42 hb); have n3_ := Aside0.mk (Kd.R_below q4_10 hb); replace BK462 := Aside0.mk (blk_below (g := gb462) (o := .cells #[.slice A0_0 l0_0.length c0_0, .int .i64 a0_1, .int .i64 a0_2] 37 (0, 0)) q4_24 hb); replace BK475 := Aside0.mk (blk_below (g := gb475) (o := .cells #[.slice Ao21 t469.length co21, .int .i64 t472, .int .i64 t473] 25 (0, 0)) q4_25 hb); replace BK481 := Aside0.mk (blk_below (g := gb481) (o := .cells #[.slice Ao27 t476.length co27, .int .i64 t479, .int .i64 t480] 25 (0, 0)) q4_26 hb); replace BK488 := Aside0.mk (blk_below (g := gb488) (o := .cells #[.slice Ao33 t482.length co33, .int .i64 t485, .int .i64 t486] 25 (0, 0)) q4_21 hb); replace HB := Aside0.mk (below_step q4_0 hb); clear HO466; clear HO471; clear HO478; clear HO484; have HO466 := n0_; have HO471 := n1_; have HO478 := n2_; have HO484 := n3_; clear n0_ n1_ n2_ n3_; (try clear hb); (try clear hb2); (try clear hk); (try clear hi)))
        go_meet
        case rel => exact ⟨_, (true), q4_51, H', ⟨by first | omega | exact Nat.le_refl _⟩, ⟨by (with_reducible repeat (first | apply Kd.R_alloc | apply Kd.R_drewN | apply Kd.R_drew)); exact Kd.R_mono HO471.out (fun _ hk => ⟨hk.1.2, hk.2⟩)⟩, ⟨by (with_reducible repeat (first | apply Kd.R_alloc | apply Kd.R_drewN | apply Kd.R_drew)); exact Kd.R_mono HO478.out (fun _ hk => ⟨hk.1.2, hk.2⟩)⟩, ⟨by (with_reducible repeat (first | apply Kd.R_alloc | apply Kd.R_drewN | apply Kd.R_drew)); exact Kd.R_mono HO484.out (fun _ hk => ⟨hk.1.2, hk.2⟩)⟩, ⟨by (with_reducible repeat (first | refine blk_drewN ?_ _ | refine blk_drew ?_ | refine blk_alloc ?_ _)); exact BK462.out⟩, ⟨by (with_reducible repeat (first | refine blk_drewN ?_ _ | refine blk_drew ?_ | refine blk_alloc ?_ _)); exact BK475.out⟩, ⟨by (with_reducible repeat (first | refine blk_drewN ?_ _ | refine blk_drew ?_ | refine blk_alloc ?_ _)); exact BK481.out⟩, ⟨by (with_reducible repeat (first | refine blk_drewN ?_ _ | refine blk_drew ?_ | refine blk_alloc ?_ _)); exact BK488.out⟩, ⟨q4_0⟩⟩
    case rest =>
      clear HC12
      try clear c1
      try clear c2
      try clear p2
      try clear c3
      try clear c4
      try clear c4b0
      try clear c5
      try clear c8
      try clear c9
      try clear c13
      try clear c14
      try clear c15
      try clear c22
      try clear c28
      try clear c29
      try clear c34
      try clear c35
      try clear c36
      try clear c39
      try clear c40
      try clear c41
      try clear c42
      try clear c44
      try clear c45
      try clear c48
      try clear c49
      try clear c50
      try clear c52
      try clear c53
      try clear hcz14_0
      try clear hcz14_1
      try clear hcz14_2
      try clear hcz16_0
      try clear hcz16_1
      try clear hcz16_2
      try clear hcz23_0
      try clear hcz23_1
      try clear hcz23_2
      try clear hcz24_0
      try clear hcz24_1
      try clear hcz24_2
      try clear hcz30_0
      try clear hcz30_1
      try clear hcz30_2
      try clear hcz37_0
      try clear hcz37_1
      try clear hcz37_2
      try clear hcz43_0
      try clear hcz43_1
      try clear hcz43_2
      try clear hcz46_0
      try clear hcz46_1
      try clear hcz46_2
      try clear hcz51_0
      try clear hcz51_1
      try clear hcz51_2
      try clear hcz54_0
      try clear hcz54_1
      try clear hcz54_2
      try clear hcz6_0
      try clear hcz6_1
      try clear hcz6_2
      try clear hfz14_0
      try clear hfz14_1
      try clear hfz14_2
      try clear hfz16_0
      try clear hfz16_1
      try clear hfz16_2
      try clear hfz23_0
      try clear hfz23_1
      try clear hfz23_2
      try clear hfz24_0
      try clear hfz24_1
      try clear hfz24_2
      try clear hfz30_0
      try clear hfz30_1
      try clear hfz30_2
      try clear hfz37_0
      try clear hfz37_1
      try clear hfz37_2
      try clear hfz43_0
      try clear hfz43_1
      try clear hfz43_2
      try clear hfz46_0
      try clear hfz46_1
      try clear hfz46_2
      try clear hfz51_0
      try clear hfz51_1
      try clear hfz51_2
      try clear hfz54_0
      try clear hfz54_1
      try clear hfz54_2
      try clear hfz6_0
      try clear hfz6_1
      try clear hfz6_2
      obtain ⟨kq, x44_11, rfl, HA, HJ11, HO_476000, HO_482000, HO_489000, BK462, BK475, BK481, BK488, HB⟩ := hcut
      cases kq with
      | zero => exact absurd HA.out (by simp [laws_FnExactTopAdd.j0])
      | succ kj11 =>
        have H := HA.out;clear HA
        simp only [laws_FnExactTopAdd.j0] at H
        by_cases c56 : x44_11 = true
        · subst c56
          have H1 : (some false) = some r := by rw [if_pos rfl] at H; exact H
          clear H;have H := H1;clear H1
          obtain rfl := Option.some.inj H
          go_wp2
          go_ret
          exact ⟨q4_18, q4_0⟩
        · replace c56 := Bool.eq_false_iff.mpr c56
          subst c56
          have H1 : ((laws_toTop.f kj11 l0_0 a0_1 a0_2).bind fun bt490 => ((laws_eqTop.f kj11 t476 t479 t480 bt490.1 bt490.2.1 bt490.2.2).bind fun t495 => (if t495 = true then ((laws_markTop.f kj11 t476 t479 t480 1).bind fun bt496 => (if bt496.1 < 0 then (laws_FnExactTopAdd.j1 kj11 a1 t474 true l0_0 a0_1 a0_2 t469 t472 t473 t482 t485 t486) else ((laws_eqTop.f kj11 t482 t485 t486 t469 t472 t473).bind fun t498 => (if t498 = true then (laws_FnExactTopAdd.j1 kj11 a1 t474 (t487 != t474) l0_0 a0_1 a0_2 t469 t472 t473 t482 t485 t486) else (laws_FnExactTopAdd.j1 kj11 a1 t474 true l0_0 a0_1 a0_2 t469 t472 t473 t482 t485 t486))))) else (some false)))) = some r := by rw [if_neg (show ¬ (false = true) by decide)] at H; exact H
          clear H;have H := H1;clear H1
          replace H := Option.bind_eq_some_iff.mp H
          obtain ⟨⟨t490, t493, t494⟩, A570, H⟩ := H
          replace H : ((laws_eqTop.f kj11 t476 t479 t480 t490 t493 t494).bind fun t495 => (if t495 = true then ((laws_markTop.f kj11 t476 t479 t480 1).bind fun bt496 => (if bt496.1 < 0 then (laws_FnExactTopAdd.j1 kj11 a1 t474 true l0_0 a0_1 a0_2 t469 t472 t473 t482 t485 t486) else ((laws_eqTop.f kj11 t482 t485 t486 t469 t472 t473).bind fun t498 => (if t498 = true then (laws_FnExactTopAdd.j1 kj11 a1 t474 (t487 != t474) l0_0 a0_1 a0_2 t469 t472 t473 t482 t485 t486) else (laws_FnExactTopAdd.j1 kj11 a1 t474 true l0_0 a0_1 a0_2 t469 t472 t473 t482 t485 t486))))) else (some false))) = some r := H
          have A57 := Aside0.mk A570;clear A570
          replace H := Option.bind_eq_some_iff.mp H
          obtain ⟨t495, A580, H⟩ := H
          replace H : (if t495 = true then ((laws_markTop.f kj11 t476 t479 t480 1).bind fun bt496 => (if bt496.1 < 0 then (laws_FnExactTopAdd.j1 kj11 a1 t474 true l0_0 a0_1 a0_2 t469 t472 t473 t482 t485 t486) else ((laws_eqTop.f kj11 t482 t485 t486 t469 t472 t473).bind fun t498 => (if t498 = true then (laws_FnExactTopAdd.j1 kj11 a1 t474 (t487 != t474) l0_0 a0_1 a0_2 t469 t472 t473 t482 t485 t486) else (laws_FnExactTopAdd.j1 kj11 a1 t474 true l0_0 a0_1 a0_2 t469 t472 t473 t482 t485 t486))))) else (some false)) = some r := H
          have A58 := Aside0.mk A580;clear A580
          by_cases c59 : t495 = true
          · subst c59
            have H1 : ((laws_markTop.f kj11 t476 t479 t480 1).bind fun bt496 => (if bt496.1 < 0 then (laws_FnExactTopAdd.j1 kj11 a1 t474 true l0_0 a0_1 a0_2 t469 t472 t473 t482 t485 t486) else ((laws_eqTop.f kj11 t482 t485 t486 t469 t472 t473).bind fun t498 => (if t498 = true then (laws_FnExactTopAdd.j1 kj11 a1 t474 (t487 != t474) l0_0 a0_1 a0_2 t469 t472 t473 t482 t485 t486) else (laws_FnExactTopAdd.j1 kj11 a1 t474 true l0_0 a0_1 a0_2 t469 t472 t473 t482 t485 t486))))) = some r := by rw [if_pos rfl] at H; exact H
            clear H;have H := H1;clear H1
            replace H := Option.bind_eq_some_iff.mp H
            obtain ⟨⟨t496, t497⟩, A600, H⟩ := H
            replace H : (if t496 < 0 then (laws_FnExactTopAdd.j1 kj11 a1 t474 true l0_0 a0_1 a0_2 t469 t472 t473 t482 t485 t486) else ((laws_eqTop.f kj11 t482 t485 t486 t469 t472 t473).bind fun t498 => (if t498 = true then (laws_FnExactTopAdd.j1 kj11 a1 t474 (t487 != t474) l0_0 a0_1 a0_2 t469 t472 t473 t482 t485 t486) else (laws_FnExactTopAdd.j1 kj11 a1 t474 true l0_0 a0_1 a0_2 t469 t472 t473 t482 t485 t486)))) = some r := H
            have A60 := Aside0.mk A600;clear A600;have HC61 := Aside0.mk H;clear H
            try go_wp2
            replace HO_476000 := Aside0.mk (Kd.R_drew HO_476000.out)
            replace HO_482000 := Aside0.mk (Kd.R_drew HO_482000.out)
            replace HO_489000 := Aside0.mk (Kd.R_drew HO_489000.out)
            replace BK462 := Aside0.mk (blk_drew BK462.out)
            replace BK475 := Aside0.mk (blk_drew BK475.out)
            replace BK481 := Aside0.mk (blk_drew BK481.out)
            replace BK488 := Aside0.mk (blk_drew BK488.out)
            replace HB := Aside0.mk (below_drew1 HB.out)
            refine start_ (n := 5) (S := fun w' => w'.cell? ⟨gb481, 0, none⟩ = some (.slice Ao27 t476.length co27) ∧ w'.cell? ⟨gb481, 1, none⟩ = some (.int .i64 t479) ∧ w'.cell? ⟨gb481, 2, none⟩ = some (.int .i64 t480) ∧ w'.cell? ⟨gb462, 0, none⟩ = some (.slice A0_0 l0_0.length c0_0) ∧ w'.cell? ⟨gb462, 1, none⟩ = some (.int .i64 a0_1) ∧ w'.cell? ⟨gb462, 2, none⟩ = some (.int .i64 a0_2)) (ds := []) #[false, false, false, false, false] (by kernel_rfl) rfl rfl ⟨z4bc BK481 0, z4bc BK481 1, z4bc BK481 2, z4bc BK462 0, z4bc BK462 1, z4bc BK462 2⟩ (fun hHeld => ?_)
            generalize wc.drew = w62 at HO_476000 HO_482000 HO_489000 BK462 BK475 BK481 BK488 HB hHeld ⊢
            refine take_ (i := 0) (N := some 45) (v := ?_) (a' := ?_) #[true, false, false, false, false] rfl rfl (by kernel_rfl) (fun _ _ _ h => h) (Or.inl ⟨by rfl, ?_⟩) hHeld ?_ ?_;rotate_left
            · rintro w' ⟨s0, s1, s2, s3, s4, s5⟩
              go_simp
              with_reducible rfl
            rotate_left
            · simp only [Act.put, List.setIfInBounds_toArray, List.set_cons_zero, List.set_cons_succ, i64_w, i32_w]
              rfl
            refine take_ (i := 1) (N := some 46) (v := ?_) (a' := ?_) #[true, true, false, false, false] rfl rfl (by kernel_rfl) (fun _ _ _ h => h) (Or.inl ⟨by rfl, ?_⟩) hHeld ?_ ?_;rotate_left
            · rintro w' ⟨s0, s1, s2, s3, s4, s5⟩
              go_simp
              with_reducible rfl
            rotate_left
            · simp only [Act.put, List.setIfInBounds_toArray, List.set_cons_zero, List.set_cons_succ, i64_w, i32_w]
              rfl
            refine one_ (i := 2) (N := some 47) #[true, true, true, false, false] rfl rfl (by kernel_rfl) (by decide) (fun K hK => ?_);refine goes_ Try.func14 (by kernel_rfl) rfl #[.agg #[.slice A0_0 l0_0.length c0_0, .int .i64 a0_1, .int .i64 a0_2]] (by rfl) rfl rfl q4_1 ?_
            with_reducible refine (laws_toTop.calls kj11 _ _ l0_0 a0_1 a0_2 t490 t493 t494 _ ?side1 ?side2 A57.out).mono ?_
            (case side1 => exact q4_16);(case side2 => exact HC0_0.out);rintro e w63 ⟨v491, rfl, ho0, hb⟩;refine ⟨_, rfl, ?_⟩;have n3_ := Aside0.mk (Kd.R_lower (Kd.R_new' (Kd.R_new' (Kd.R_new' ho0 (Kd.R_lt q4_3)) (Kd.R_lt q4_4)) (Kd.R_lt q4_5)) (below_size q4_0))
            replace HO_476000 := Aside0.mk (Kd.R_elder' q4_3 (Kd.R_base ho0) hb)
            replace HO_482000 := Aside0.mk (Kd.R_elder' q4_4 (Kd.R_base ho0) hb)
            replace HO_489000 := Aside0.mk (Kd.R_elder' q4_5 (Kd.R_base ho0) hb)
            replace BK462 := z4bb BK462 hb
            replace BK475 := z4bb BK475 hb
            replace BK481 := z4bb BK481 hb
            replace BK488 := z4bb BK488 hb
            replace HB := Aside0.mk (below_step q4_0 hb)
            have HO492 := n3_;clear n3_;(try clear hb);(try clear hb2);(try clear hk);(try clear hi);(try clear ho0);obtain ⟨Ao64, co64, eo64⟩ := Kd.R_slice HO492.out;(first | subst eo64 | (injection eo64 with f1_ f2_ f3_; have f4_ := f1_.symm; have f5_ := f3_.symm; clear f1_ f2_ f3_; subst f4_; subst f5_));refine hK.out _ _ ⟨z4bc BK481 0, z4bc BK481 1, z4bc BK481 2, z4bc BK462 0, z4bc BK462 1, z4bc BK462 2⟩ (fun hHeld => ?_);clear hK K;refine norm_ (a' := ?_) ?_ ?_;rotate_left
            · show Act.put _ (some 47) _ = _
              simp only [Act.put, List.setIfInBounds_toArray, List.set_cons_zero, List.set_cons_succ, i64_w, i32_w]
              rfl
            refine one_ (i := 3) (N := some 48) #[true, true, true, true, false] rfl rfl (by kernel_rfl) (by decide) (fun K hK => ?_);refine goes_ Try.func15 (by kernel_rfl) rfl #[.agg #[.slice Ao27 t476.length co27, .int .i64 t479, .int .i64 t480], .agg #[.slice Ao64 t490.length co64, .int .i64 t493, .int .i64 t494]] (by rfl) rfl rfl q4_1 ?_
            with_reducible refine (laws_eqTop.calls kj11 _ _ t476 t479 t480 _ _ t490 t493 t494 true _ ?side1 ?side2 ?side3 ?side4 A58.out).mono ?_
            (case side1 => exact q4_56);(case side2 => exact (Kd.R_reads' HO_482000.out).2.1);(case side3 => exact q4_59);(case side4 => exact (Kd.R_reads' HO492.out).2.1);rintro e w65 ⟨rfl, hb⟩;refine ⟨_, rfl, ?_⟩
            replace HO_476000 := Aside0.mk (Kd.R_below q4_3 hb)
            replace HO_482000 := Aside0.mk (Kd.R_below q4_4 hb)
            replace HO_489000 := Aside0.mk (Kd.R_below q4_5 hb)
            replace HO492 := Aside0.mk (Kd.R_below q4_48 hb)
            replace BK462 := z4bb BK462 hb
            replace BK475 := z4bb BK475 hb
            replace BK481 := z4bb BK481 hb
            replace BK488 := z4bb BK488 hb
            replace HB := Aside0.mk (below_step q4_0 hb)
            (try clear hb);(try clear hb2);(try clear hk);(try clear hi);refine hK.out _ _ ⟨z4bc BK481 0, z4bc BK481 1, z4bc BK481 2, z4bc BK462 0, z4bc BK462 1, z4bc BK462 2⟩ (fun hHeld => ?_);clear hK K;refine norm_ (a' := ?_) ?_ ?_;rotate_left
            · show Act.put _ (some 48) _ = _
              simp only [Act.put, List.setIfInBounds_toArray, List.set_cons_zero, List.set_cons_succ, i64_w, i32_w]
              rfl
            refine pure_ (i := 4) (N := some 49) (v := ?_) (a' := ?_) #[true, true, true, true, true] rfl rfl (by kernel_rfl) (fun _ _ _ h => h) (Or.inl ⟨by rfl, ?_⟩) ?_ ?_;rotate_left
            · intro w'
              go_simp
              with_reducible rfl
            rotate_left
            · simp only [Act.put, List.setIfInBounds_toArray, List.set_cons_zero, List.set_cons_succ, i64_w, i32_w]
              rfl
            refine done_ (by kernel_rfl) ?_;have hnb66 := NB481_462.out;have hnc66 := NB462_481.out;have hnb67 := NB481_475.out;have hnc67 := NB475_481.out;have hnb68 := NB481_488.out;have hnc68 := NB488_481.out;have hcz69_0 := z4bc BK481 0;have hcz69_1 := z4bc BK481 1;have hcz69_2 := z4bc BK481 2;have hfz69_0 := blk_frozen BK481.out 0;have hfz69_1 := blk_frozen BK481.out 1;have hfz69_2 := blk_frozen BK481.out 2
            go_upto_region 14 with (first | ((with_reducible refine gate_callee (f := 16) rfl ?_); refine goesL_ (some 52) rfl rfl Try.func16 (by kernel_rfl) rfl #[.agg #[.slice Ao27 t476.length co27, .int .i64 t479, .int .i64 t480], .int .i64 1] rfl q4_1 ?_; (with_reducible refine (laws_markTop.calls kj11 (fun k_ => some k_ = (.slice Ao27 t476.length co27 : Value).ownBlock) (.slice Ao27 t476.length co27) t476 t479 t480 1 t496 t497 w _ ?side1 ?side2 A60.out).mono ?_); (case side1 => exact q4_0); (case side2 => exact Kd.R_tight rfl HO_482000.out); rintro e w70 ⟨rfl, hy0, hb, hkp⟩; refine ⟨_, rfl, ?_⟩; have n3_ := Aside0.mk (blk_kept q4_8 hkp (fun hs_ => (fun e_ => (Kd.R_ne HO_482000.out BK462.out (by decide)) e_) hs_)); have n4_ := Aside0.mk (blk_kept q4_13 hkp (fun hs_ => (fun e_ => (Kd.R_ne HO_482000.out BK475.out (by decide)) e_) hs_)); have n5_ := Aside0.mk (blk_kept q4_19 hkp (fun hs_ => (fun e_ => (Kd.R_ne HO_482000.out BK481.out (by decide)) e_) hs_)); have n6_ := Aside0.mk (blk_kept q4_23 hkp (fun hs_ => (fun e_ => (Kd.R_ne HO_482000.out BK488.out (by decide)) e_) hs_)); replace HO_476000 := Aside0.mk (Kd.R_mono (ok' := fun k_ => some k_ ≠ (.slice Ao27 t476.length co27 : Value).ownBlock ∧ some k_ ≠ (.slice Ao33 t482.length co33 : Value).ownBlock ∧ some k_ ≠ (.slice Ao64 t490.length co64 : Value).ownBlock) (Kd.R_keptB (HO_476000.out) hkp (fun k_ hk_ hs_ => (hk_.1.1) hs_)) (fun k_ hk_ => ⟨hk_.1.1.1, hk_.1.1.2, hk_.1.2⟩)); replace HO_482000 := Aside0.mk (Kd.R_reok rfl hy0 (fun k_ e_ => HO_482000.out.1 k_ e_)); replace HO_489000 := Aside0.mk (Kd.R_mono (ok' := fun k_ => some k_ ≠ (.slice Ao21 t469.length co21 : Value).ownBlock ∧ some k_ ≠ (.slice Ao27 t476.length co27 : Value).ownBlock ∧ some k_ ≠ (.slice Ao64 t490.length co64 : Value).ownBlock) (Kd.R_keptB (HO_489000.out) hkp (fun k_ hk_ hs_ => (hk_.1.2) hs_)) (fun k_ hk_ => ⟨hk_.1.1.1, hk_.1.1.2, hk_.1.2⟩)); replace HO492 := Aside0.mk (Kd.R_mono (ok' := fun k_ => some k_ ≠ (.slice Ao21 t469.length co21 : Value).ownBlock ∧ some k_ ≠ (.slice Ao27 t476.length co27 : Value).ownBlock ∧ some k_ ≠ (.slice Ao33 t482.length co33 : Value).ownBlock) (Kd.R_keptB (HO492.out) hkp (fun k_ hk_ hs_ => (hk_.1.2) hs_)) (fun k_ hk_ => ⟨hk_.1.1.1.2, hk_.1.1.2, hk_.1.2⟩)); replace HB := Aside0.mk (hb); clear BK462; clear BK475; clear BK481; clear BK488; have BK462 := n3_; have BK475 := n4_; have BK481 := n5_; have BK488 := n6_; clear n3_ n4_ n5_ n6_; (try clear hb); (try clear hkp); (try clear hy0)))
            (try simp only [Act.put, List.setIfInBounds_toArray, List.set_cons_zero, List.set_cons_succ])
            go_cut [65] (fun v65 wc => ∃ (kq : Nat) (x65_60 : Bool), v65 = .bool x65_60 ∧ Aside0 (laws_FnExactTopAdd.j1 kq a1 t474 x65_60 l0_0 a0_1 a0_2 t469 t472 t473 t482 t485 t486 = some r) ∧ Aside0 (kq ≤ kj11) ∧ Aside0 (Kd.R k54 54 wc w.heap.size (fun k_ => some k_ ≠ ((.slice Ao27 t476.length co27) : Value).ownBlock ∧ some k_ ≠ ((.slice Ao33 t482.length co33) : Value).ownBlock) (.slice Ao21 t469.length co21) t469) ∧ Aside0 (Kd.R k54 54 wc w.heap.size (fun k_ => some k_ ≠ ((.slice Ao21 t469.length co21) : Value).ownBlock ∧ some k_ ≠ ((.slice Ao33 t482.length co33) : Value).ownBlock) (.slice Ao27 t476.length co27) t497) ∧ Aside0 (Kd.R k54 54 wc w.heap.size (fun k_ => some k_ ≠ ((.slice Ao21 t469.length co21) : Value).ownBlock ∧ some k_ ≠ ((.slice Ao27 t476.length co27) : Value).ownBlock) (.slice Ao33 t482.length co33) t482) ∧ Aside0 (wc.heap[gb462]? = some (.cells #[(.slice A0_0 l0_0.length c0_0), .int .i64 a0_1, .int .i64 a0_2] 37 (0, 0))) ∧ Aside0 (wc.heap[gb475]? = some (.cells #[(.slice Ao21 t469.length co21), .int .i64 t472, .int .i64 t473] 25 (0, 0))) ∧ Aside0 (wc.heap[gb481]? = some (.cells #[(.slice Ao27 t476.length co27), .int .i64 t479, .int .i64 t480] 25 (0, 0))) ∧ Aside0 (wc.heap[gb488]? = some (.cells #[(.slice Ao33 t482.length co33), .int .i64 t485, .int .i64 t486] 25 (0, 0))) ∧ Aside0 (Below w.heap.size w wc))
            case first =>
              have H := HC61.out;clear HC61
              by_cases c71 : t496 < 0
              · rw [if_pos c71] at H
                have c71b0 : decide (t496 < 0) = true := decide_eq_true c71
                clear c71;(first | rw [c71b0] | (simp only [i64_w, i32_w]; rw [c71b0]) | skip)
                have H' := Aside0.mk H
                clear H
                go_wp2
                go_meet
                case rel => exact ⟨_, (true), q4_51, H', ⟨by have := HJ11.out; first | omega | exact Nat.le_refl _⟩, ⟨by (with_reducible repeat (first | apply Kd.R_alloc | apply Kd.R_drewN | apply Kd.R_drew)); exact Kd.R_mono HO_476000.out (fun _ hk => ⟨hk.1, hk.2.1⟩)⟩, ⟨by (with_reducible repeat (first | apply Kd.R_alloc | apply Kd.R_drewN | apply Kd.R_drew)); exact Kd.R_mono HO_482000.out (fun _ hk => ⟨hk.1.1, hk.1.2⟩)⟩, ⟨by (with_reducible repeat (first | apply Kd.R_alloc | apply Kd.R_drewN | apply Kd.R_drew)); exact Kd.R_mono HO_489000.out (fun _ hk => ⟨hk.1, hk.2.1⟩)⟩, ⟨by (with_reducible repeat (first | refine blk_drewN ?_ _ | refine blk_drew ?_ | refine blk_alloc ?_ _)); exact BK462.out⟩, ⟨by (with_reducible repeat (first | refine blk_drewN ?_ _ | refine blk_drew ?_ | refine blk_alloc ?_ _)); exact BK475.out⟩, ⟨by (with_reducible repeat (first | refine blk_drewN ?_ _ | refine blk_drew ?_ | refine blk_alloc ?_ _)); exact BK481.out⟩, ⟨by (with_reducible repeat (first | refine blk_drewN ?_ _ | refine blk_drew ?_ | refine blk_alloc ?_ _)); exact BK488.out⟩, ⟨q4_0⟩⟩
              · rw [if_neg c71] at H
                have c71b0 : decide (t496 < 0) = false := decide_eq_false c71
                clear c71;(first | rw [c71b0] | (simp only [i64_w, i32_w]; rw [c71b0]) | skip)
                replace H := Option.bind_eq_some_iff.mp H
                obtain ⟨t498, A720, H⟩ := H
                replace H : (if t498 = true then (laws_FnExactTopAdd.j1 kj11 a1 t474 (t487 != t474) l0_0 a0_1 a0_2 t469 t472 t473 t482 t485 t486) else (laws_FnExactTopAdd.j1 kj11 a1 t474 true l0_0 a0_1 a0_2 t469 t472 t473 t482 t485 t486)) = some r := H
                have A72 := Aside0.mk A720;clear A720
                by_cases c73 : t498 = true
                · subst c73
                  have H1 : (laws_FnExactTopAdd.j1 kj11 a1 t474 (t487 != t474) l0_0 a0_1 a0_2 t469 t472 t473 t482 t485 t486) = some r := by rw [if_pos rfl] at H; exact H
                  clear H;have H := H1;clear H1
                  have H' := Aside0.mk H
                  clear H;have hnb74 := NB488_462.out;have hnc74 := NB462_488.out;have hnb75 := NB488_475.out;have hnc75 := NB475_488.out;have hnb76 := NB488_481.out;have hnc76 := NB481_488.out;have hcz77_0 := z4bc BK488 0;have hcz77_1 := z4bc BK488 1;have hcz77_2 := z4bc BK488 2;have hfz77_0 := blk_frozen BK488.out 0;have hfz77_1 := blk_frozen BK488.out 1;have hfz77_2 := blk_frozen BK488.out 2;have hnb78 := NB475_462.out;have hnc78 := NB462_475.out;have hnb79 := NB475_481.out;have hnc79 := NB481_475.out;have hcz80_0 := z4bc BK475 0;have hcz80_1 := z4bc BK475 1;have hcz80_2 := z4bc BK475 2;have hfz80_0 := blk_frozen BK475.out 0;have hfz80_1 := blk_frozen BK475.out 1;have hfz80_2 := blk_frozen BK475.out 2
                  go_wp2_with (first | (go_at_call 15; (with_reducible refine (laws_eqTop.calls kj11 _ _ t482 t485 t486 _ _ t469 t472 t473 true _ ?side1 ?side2 ?side3 ?side4 A72.out).mono ?_); (case side1 => exact q4_12); (case side2 => exact (Kd.R_reads' HO_489000.out).2.1); (case side3 => exact q4_57); (case side4 => exact (Kd.R_reads' HO_476000.out).2.1); rintro e w81 ⟨rfl, hb⟩; replace HO_476000 := Aside0.mk (Kd.R_below q4_3 hb); replace HO_482000 := Aside0.mk (Kd.R_below q4_4 hb); replace HO_489000 := Aside0.mk (Kd.R_below q4_5 hb); replace HO492 := Aside0.mk (Kd.R_below q4_48 hb); replace BK462 := z4bb BK462 hb; replace BK475 := z4bb BK475 hb; replace BK481 := z4bb BK481 hb; replace BK488 := z4bb BK488 hb; replace HB := Aside0.mk (below_step q4_0 hb); (try clear hb); (try clear hb2); (try clear hk); (try clear hi)))
                  go_meet
                  case rel => exact ⟨_, ((t487 != t474)), q4_51, H', ⟨by have := HJ11.out; first | omega | exact Nat.le_refl _⟩, ⟨by (with_reducible repeat (first | apply Kd.R_alloc | apply Kd.R_drewN | apply Kd.R_drew)); exact Kd.R_mono HO_476000.out (fun _ hk => ⟨hk.1, hk.2.1⟩)⟩, ⟨by (with_reducible repeat (first | apply Kd.R_alloc | apply Kd.R_drewN | apply Kd.R_drew)); exact Kd.R_mono HO_482000.out (fun _ hk => ⟨hk.1.1, hk.1.2⟩)⟩, ⟨by (with_reducible repeat (first | apply Kd.R_alloc | apply Kd.R_drewN | apply Kd.R_drew)); exact Kd.R_mono HO_489000.out (fun _ hk => ⟨hk.1, hk.2.1⟩)⟩, ⟨by (with_reducible repeat (first | refine blk_drewN ?_ _ | refine blk_drew ?_ | refine blk_alloc ?_ _)); exact BK462.out⟩, ⟨by (with_reducible repeat (first | refine blk_drewN ?_ _ | refine blk_drew ?_ | refine blk_alloc ?_ _)); exact BK475.out⟩, ⟨by (with_reducible repeat (first | refine blk_drewN ?_ _ | refine blk_drew ?_ | refine blk_alloc ?_ _)); exact BK481.out⟩, ⟨by (with_reducible repeat (first | refine blk_drewN ?_ _ | refine blk_drew ?_ | refine blk_alloc ?_ _)); exact BK488.out⟩, ⟨q4_0⟩⟩
                · replace c73 := Bool.eq_false_iff.mpr c73
                  subst c73
                  have H1 : (laws_FnExactTopAdd.j1 kj11 a1 t474 true l0_0 a0_1 a0_2 t469 t472 t473 t482 t485 t486) = some r := by rw [if_neg (show ¬ (false = true) by decide)] at H; exact H
                  clear H;have H := H1;clear H1
                  have H' := Aside0.mk H
                  clear H;have hnb82 := NB488_462.out;have hnc82 := NB462_488.out;have hnb83 := NB488_475.out;have hnc83 := NB475_488.out;have hnb84 := NB488_481.out;have hnc84 := NB481_488.out;have hcz85_0 := z4bc BK488 0;have hcz85_1 := z4bc BK488 1;have hcz85_2 := z4bc BK488 2;have hfz85_0 := blk_frozen BK488.out 0;have hfz85_1 := blk_frozen BK488.out 1;have hfz85_2 := blk_frozen BK488.out 2;have hnb86 := NB475_462.out;have hnc86 := NB462_475.out;have hnb87 := NB475_481.out;have hnc87 := NB481_475.out;have hcz88_0 := z4bc BK475 0;have hcz88_1 := z4bc BK475 1;have hcz88_2 := z4bc BK475 2;have hfz88_0 := blk_frozen BK475.out 0;have hfz88_1 := blk_frozen BK475.out 1;have hfz88_2 := blk_frozen BK475.out 2
                  go_wp2_with (first | (go_at_call 15; (with_reducible refine (laws_eqTop.calls kj11 _ _ t482 t485 t486 _ _ t469 t472 t473 false _ ?side1 ?side2 ?side3 ?side4 A72.out).mono ?_); (case side1 => exact q4_12); (case side2 => exact (Kd.R_reads' HO_489000.out).2.1); (case side3 => exact q4_57); (case side4 => exact (Kd.R_reads' HO_476000.out).2.1); rintro e w89 ⟨rfl, hb⟩; replace HO_476000 := Aside0.mk (Kd.R_below q4_3 hb); replace HO_482000 := Aside0.mk (Kd.R_below q4_4 hb); replace HO_489000 := Aside0.mk (Kd.R_below q4_5 hb); replace HO492 := Aside0.mk (Kd.R_below q4_48 hb); replace BK462 := z4bb BK462 hb; replace BK475 := z4bb BK475 hb; replace BK481 := z4bb BK481 hb; replace BK488 := z4bb BK488 hb; replace HB := Aside0.mk (below_step q4_0 hb); (try clear hb); (try clear hb2); (try clear hk); (try clear hi)))
                  go_meet
                  case rel => exact ⟨_, (true), q4_51, H', ⟨by have := HJ11.out; first | omega | exact Nat.le_refl _⟩, ⟨by (with_reducible repeat (first | apply Kd.R_alloc | apply Kd.R_drewN | apply Kd.R_drew)); exact Kd.R_mono HO_476000.out (fun _ hk => ⟨hk.1, hk.2.1⟩)⟩, ⟨by (with_reducible repeat (first | apply Kd.R_alloc | apply Kd.R_drewN | apply Kd.R_drew)); exact Kd.R_mono HO_482000.out (fun _ hk => ⟨hk.1.1, hk.1.2⟩)⟩, ⟨by (with_reducible repeat (first | apply Kd.R_alloc | apply Kd.R_drewN | apply Kd.R_drew)); exact Kd.R_mono HO_489000.out (fun _ hk => ⟨hk.1, hk.2.1⟩)⟩, ⟨by (with_reducible repeat (first | refine blk_drewN ?_ _ | refine blk_drew ?_ | refine blk_alloc ?_ _)); exact BK462.out⟩, ⟨by (with_reducible repeat (first | refine blk_drewN ?_ _ | refine blk_drew ?_ | refine blk_alloc ?_ _)); exact BK475.out⟩, ⟨by (with_reducible repeat (first | refine blk_drewN ?_ _ | refine blk_drew ?_ | refine blk_alloc ?_ _)); exact BK481.out⟩, ⟨by (with_reducible repeat (first | refine blk_drewN ?_ _ | refine blk_drew ?_ | refine blk_alloc ?_ _)); exact BK488.out⟩, ⟨q4_0⟩⟩
            case rest =>
              clear HC61
              try clear c1
              try clear c2
              try clear p2
              try clear c3
              try clear c4
              try clear c4b0
              try clear c5
              try clear c6
              try clear c7
              try clear c8
              try clear c9
              try clear c13
              try clear c14
              try clear c15
              try clear c16
              try clear c22
              try clear c28
              try clear c29
              try clear c34
              try clear c35
              try clear c36
              try clear c39
              try clear c40
              try clear c41
              try clear c42
              try clear c44
              try clear c45
              try clear c48
              try clear c49
              try clear c50
              try clear c52
              try clear c53
              try clear c56
              try clear c59
              try clear c66
              try clear c67
              try clear c68
              try clear c71
              try clear c71b0
              try clear c73
              try clear c74
              try clear c75
              try clear c76
              try clear c78
              try clear c79
              try clear c82
              try clear c83
              try clear c84
              try clear c86
              try clear c87
              try clear hcz14_0
              try clear hcz14_1
              try clear hcz14_2
              try clear hcz16_0
              try clear hcz16_1
              try clear hcz16_2
              try clear hcz23_0
              try clear hcz23_1
              try clear hcz23_2
              try clear hcz24_0
              try clear hcz24_1
              try clear hcz24_2
              try clear hcz30_0
              try clear hcz30_1
              try clear hcz30_2
              try clear hcz37_0
              try clear hcz37_1
              try clear hcz37_2
              try clear hcz43_0
              try clear hcz43_1
              try clear hcz43_2
              try clear hcz46_0
              try clear hcz46_1
              try clear hcz46_2
              try clear hcz51_0
              try clear hcz51_1
              try clear hcz51_2
              try clear hcz54_0
              try clear hcz54_1
              try clear hcz54_2
              try clear hcz69_0
              try clear hcz69_1
              try clear hcz69_2
              try clear hcz6_0
              try clear hcz6_1
              try clear hcz6_2
              try clear hcz77_0
              try clear hcz77_1
              try clear hcz77_2
              try clear hcz80_0
              try clear hcz80_1
              try clear hcz80_2
              try clear hcz85_0
              try clear hcz85_1
              try clear hcz85_2
              try clear hcz88_0
              try clear hcz88_1
              try clear hcz88_2
              try clear hfz14_0
              try clear hfz14_1
              try clear hfz14_2
              try clear hfz16_0
              try clear hfz16_1
              try clear hfz16_2
              try clear hfz23_0
              try clear hfz23_1
              try clear hfz23_2
              try clear hfz24_0
              try clear hfz24_1
              try clear hfz24_2
              try clear hfz30_0
              try clear hfz30_1
              try clear hfz30_2
              try clear hfz37_0
              try clear hfz37_1
              try clear hfz37_2
              try clear hfz43_0
              try clear hfz43_1
              try clear hfz43_2
              try clear hfz46_0
              try clear hfz46_1
              try clear hfz46_2
              try clear hfz51_0
              try clear hfz51_1
              try clear hfz51_2
              try clear hfz54_0
              try clear hfz54_1
              try clear hfz54_2
              try clear hfz69_0
              try clear hfz69_1
              try clear hfz69_2
              try clear hfz6_0
              try clear hfz6_1
              try clear hfz6_2
              try clear hfz77_0
              try clear hfz77_1
              try clear hfz77_2
              try clear hfz80_0
              try clear hfz80_1
              try clear hfz80_2
              try clear hfz85_0
              try clear hfz85_1
              try clear hfz85_2
              try clear hfz88_0
              try clear hfz88_1
              try clear hfz88_2
              try clear p2
              obtain ⟨kq, x65_60, rfl, HA, HJ60, HO_476000, HO_482000, HO_489000, BK462, BK475, BK481, BK488, HB⟩ := hcut;have hl482000_60 := (Kd.R_reads' HO_482000.out).1
              rw [hl482000_60] at HO_482000
              (try simp only [hl482000_60])
              (try simp only [hl482000_60] at BK462)
              (try simp only [hl482000_60] at BK475)
              (try simp only [hl482000_60] at BK481)
              (try simp only [hl482000_60] at BK488)
              (try simp only [hl482000_60] at HO_476000)
              (try simp only [hl482000_60] at HO_489000)
              cases kq with
              | zero => exact absurd HA.out (by simp [laws_FnExactTopAdd.j1])
              | succ kj60 =>
                have H := HA.out;clear HA
                simp only [laws_FnExactTopAdd.j1] at H
                by_cases c90 : x65_60 = true
                · subst c90
                  have H1 : (some false) = some r := by rw [if_pos rfl] at H; exact H
                  clear H;have H := H1;clear H1
                  obtain rfl := Option.some.inj H
                  go_wp2
                  go_ret
                  exact ⟨q4_18, q4_0⟩
                · replace c90 := Bool.eq_false_iff.mpr c90
                  subst c90
                  have H1 : ((laws_markTop.f kj60 t482 t485 t486 1).bind fun bt499 => ((laws_heldTop.f kj60 bt499.2 t485 t486 1).bind fun t501 => (if t501 < 0 then (some false) else (if t501 = bt499.1 then ((laws_toTop.f kj60 l0_0 a0_1 a0_2).bind fun bt502 => ((impl_TopAdd.f kj60 bt502.1 bt502.2.1 bt502.2.2 a1).bind fun bt507 => ((laws_eqTop.f kj60 bt507.1 bt507.2.1 bt507.2.2.1 t469 t472 t473).bind fun t514 => (if t514 = true then (laws_FnExactTopAdd.j2 kj60 bt499.1 (bt507.2.2.2 != t474) bt499.2 t485 t486) else (laws_FnExactTopAdd.j2 kj60 bt499.1 true bt499.2 t485 t486))))) else (some false))))) = some r := by rw [if_neg (show ¬ (false = true) by decide)] at H; exact H
                  clear H;have H := H1;clear H1
                  replace H := Option.bind_eq_some_iff.mp H
                  obtain ⟨⟨t499, t500⟩, A910, H⟩ := H
                  replace H : ((laws_heldTop.f kj60 t500 t485 t486 1).bind fun t501 => (if t501 < 0 then (some false) else (if t501 = t499 then ((laws_toTop.f kj60 l0_0 a0_1 a0_2).bind fun bt502 => ((impl_TopAdd.f kj60 bt502.1 bt502.2.1 bt502.2.2 a1).bind fun bt507 => ((laws_eqTop.f kj60 bt507.1 bt507.2.1 bt507.2.2.1 t469 t472 t473).bind fun t514 => (if t514 = true then (laws_FnExactTopAdd.j2 kj60 t499 (bt507.2.2.2 != t474) t500 t485 t486) else (laws_FnExactTopAdd.j2 kj60 t499 true t500 t485 t486))))) else (some false)))) = some r := H
                  have A91 := Aside0.mk A910;clear A910
                  replace H := Option.bind_eq_some_iff.mp H
                  obtain ⟨t501, A920, H⟩ := H
                  replace H : (if t501 < 0 then (some false) else (if t501 = t499 then ((laws_toTop.f kj60 l0_0 a0_1 a0_2).bind fun bt502 => ((impl_TopAdd.f kj60 bt502.1 bt502.2.1 bt502.2.2 a1).bind fun bt507 => ((laws_eqTop.f kj60 bt507.1 bt507.2.1 bt507.2.2.1 t469 t472 t473).bind fun t514 => (if t514 = true then (laws_FnExactTopAdd.j2 kj60 t499 (bt507.2.2.2 != t474) t500 t485 t486) else (laws_FnExactTopAdd.j2 kj60 t499 true t500 t485 t486))))) else (some false))) = some r := H
                  have A92 := Aside0.mk A920;clear A920
                  by_cases c93 : t501 < 0
                  · rw [if_pos c93] at H
                    have c93b0 : decide (t501 < 0) = true := decide_eq_true c93
                    clear c93
                    obtain rfl := Option.some.inj H
                    have hnb94 := NB488_462.out;have hnc94 := NB462_488.out;have hnb95 := NB488_475.out;have hnc95 := NB475_488.out;have hnb96 := NB488_481.out;have hnc96 := NB481_488.out;have hcz97_0 := z4bc BK488 0;have hcz97_1 := z4bc BK488 1;have hcz97_2 := z4bc BK488 2;have hfz97_0 := blk_frozen BK488.out 0;have hfz97_1 := blk_frozen BK488.out 1;have hfz97_2 := blk_frozen BK488.out 2
                    go_wp2_with (first | ((with_reducible refine gate_callee (f := 16) rfl ?_); refine goesL_ (some 68) rfl rfl Try.func16 (by kernel_rfl) rfl #[.agg #[.slice Ao33 t482.length co33, .int .i64 t485, .int .i64 t486], .int .i64 1] rfl q4_1 ?_; (with_reducible refine (laws_markTop.calls kj60 (fun k_ => some k_ = (.slice Ao33 t482.length co33 : Value).ownBlock) (.slice Ao33 t482.length co33) t482 t485 t486 1 t499 t500 w _ ?side1 ?side2 A91.out).mono ?_); (case side1 => exact q4_0); (case side2 => exact Kd.R_tight rfl HO_489000.out); rintro e w98 ⟨rfl, hy0, hb, hkp⟩; refine ⟨_, rfl, ?_⟩; have n3_ := Aside0.mk (blk_kept q4_8 hkp (fun hs_ => (fun e_ => (Kd.R_ne HO_489000.out BK462.out (by decide)) e_) hs_)); have n4_ := Aside0.mk (blk_kept q4_13 hkp (fun hs_ => (fun e_ => (Kd.R_ne HO_489000.out BK475.out (by decide)) e_) hs_)); have n5_ := Aside0.mk (blk_kept q4_19 hkp (fun hs_ => (fun e_ => (Kd.R_ne HO_489000.out BK481.out (by decide)) e_) hs_)); have n6_ := Aside0.mk (blk_kept q4_23 hkp (fun hs_ => (fun e_ => (Kd.R_ne HO_489000.out BK488.out (by decide)) e_) hs_)); replace HO_476000 := Aside0.mk (Kd.R_mono (ok' := fun k_ => some k_ ≠ (.slice Ao27 t497.length co27 : Value).ownBlock ∧ some k_ ≠ (.slice Ao33 t482.length co33 : Value).ownBlock) (Kd.R_keptB (HO_476000.out) hkp (fun k_ hk_ hs_ => (hk_.2) hs_)) (fun k_ hk_ => ⟨hk_.1.1, hk_.1.2⟩)); replace HO_482000 := Aside0.mk (Kd.R_mono (ok' := fun k_ => some k_ ≠ (.slice Ao21 t469.length co21 : Value).ownBlock ∧ some k_ ≠ (.slice Ao33 t482.length co33 : Value).ownBlock) (Kd.R_keptB (HO_482000.out) hkp (fun k_ hk_ hs_ => (hk_.2) hs_)) (fun k_ hk_ => ⟨hk_.1.1, hk_.1.2⟩)); replace HO_489000 := Aside0.mk (Kd.R_reok rfl hy0 (fun k_ e_ => HO_489000.out.1 k_ e_)); replace HB := Aside0.mk (hb); clear BK462; clear BK475; clear BK481; clear BK488; have BK462 := n3_; have BK475 := n4_; have BK481 := n5_; have BK488 := n6_; clear n3_ n4_ n5_ n6_; (try clear hb); (try clear hkp); (try clear hy0); have hcz99_0 := z4bc BK488 0; have hcz99_1 := z4bc BK488 1; have hcz99_2 := z4bc BK488 2; have hfz99_0 := blk_frozen BK488.out 0; have hfz99_1 := blk_frozen BK488.out 1; have hfz99_2 := blk_frozen BK488.out 2) | ((with_reducible refine gate_callee (f := 17) rfl ?_); refine goesL_ (some 71) rfl rfl Try.func17 (by kernel_rfl) rfl #[.agg #[.slice Ao33 t500.length co33, .int .i64 t485, .int .i64 t486], .int .i64 1] rfl q4_31 ?_; (with_reducible refine (laws_heldTop.calls kj60 _ _ t500 t485 t486 1 t501 _ ?side1 ?side2 A92.out).mono ?_); (case side1 => exact q4_12); (case side2 => exact q4_52); rintro e w100 ⟨rfl, hb⟩; refine ⟨_, rfl, ?_⟩; replace HO_476000 := Aside0.mk (Kd.R_below q4_3 hb); replace HO_482000 := Aside0.mk (Kd.R_below q4_4 hb); replace HO_489000 := Aside0.mk (Kd.R_below q4_5 hb); replace BK462 := z4bb BK462 hb; replace BK475 := z4bb BK475 hb; replace BK481 := z4bb BK481 hb; replace BK488 := z4bb BK488 hb; replace HB := Aside0.mk (below_step q4_0 hb); (try clear hb); (try clear hb2); (try clear hk); (try clear hi)))
                    go_ret
                    exact ⟨q4_18, q4_0⟩
                  · rw [if_neg c93] at H
                    have c93b0 : decide (t501 < 0) = false := decide_eq_false c93
                    clear c93
                    by_cases c101 : t501 = t499
                    · rw [if_pos c101] at H
                      have c101b0 : (t501 == t499) = true := beq_iff_eq.mpr c101
                      have c101b1 : (t501 != t499) = false := bne_eq_false_iff_eq.mpr c101
                      clear c101
                      replace H := Option.bind_eq_some_iff.mp H
                      obtain ⟨⟨t502, t505, t506⟩, A1020, H⟩ := H
                      replace H : ((impl_TopAdd.f kj60 t502 t505 t506 a1).bind fun bt507 => ((laws_eqTop.f kj60 bt507.1 bt507.2.1 bt507.2.2.1 t469 t472 t473).bind fun t514 => (if t514 = true then (laws_FnExactTopAdd.j2 kj60 t499 (bt507.2.2.2 != t474) t500 t485 t486) else (laws_FnExactTopAdd.j2 kj60 t499 true t500 t485 t486)))) = some r := H
                      have A102 := Aside0.mk A1020;clear A1020
                      replace H := Option.bind_eq_some_iff.mp H
                      obtain ⟨⟨t507, t510, t511, t512⟩, A1030, H⟩ := H
                      replace H : ((laws_eqTop.f kj60 t507 t510 t511 t469 t472 t473).bind fun t514 => (if t514 = true then (laws_FnExactTopAdd.j2 kj60 t499 (t512 != t474) t500 t485 t486) else (laws_FnExactTopAdd.j2 kj60 t499 true t500 t485 t486))) = some r := H
                      have A103 := Aside0.mk A1030;clear A1030;have HC104 := Aside0.mk H;clear H;have hnb105 := NB488_462.out;have hnc105 := NB462_488.out;have hnb106 := NB488_475.out;have hnc106 := NB475_488.out;have hnb107 := NB488_481.out;have hnc107 := NB481_488.out;have hcz108_0 := z4bc BK488 0;have hcz108_1 := z4bc BK488 1;have hcz108_2 := z4bc BK488 2;have hfz108_0 := blk_frozen BK488.out 0;have hfz108_1 := blk_frozen BK488.out 1;have hfz108_2 := blk_frozen BK488.out 2
                      go_upto_region 25 with (first | ((with_reducible refine gate_callee (f := 16) rfl ?_); refine goesL_ (some 68) rfl rfl Try.func16 (by kernel_rfl) rfl #[.agg #[.slice Ao33 t482.length co33, .int .i64 t485, .int .i64 t486], .int .i64 1] rfl q4_1 ?_; (with_reducible refine (laws_markTop.calls kj60 (fun k_ => some k_ = (.slice Ao33 t482.length co33 : Value).ownBlock) (.slice Ao33 t482.length co33) t482 t485 t486 1 t499 t500 w _ ?side1 ?side2 A91.out).mono ?_); (case side1 => exact q4_0); (case side2 => exact Kd.R_tight rfl HO_489000.out); rintro e w109 ⟨rfl, hy0, hb, hkp⟩; refine ⟨_, rfl, ?_⟩; have n3_ := Aside0.mk (blk_kept q4_8 hkp (fun hs_ => (fun e_ => (Kd.R_ne HO_489000.out BK462.out (by decide)) e_) hs_)); have n4_ := Aside0.mk (blk_kept q4_13 hkp (fun hs_ => (fun e_ => (Kd.R_ne HO_489000.out BK475.out (by decide)) e_) hs_)); have n5_ := Aside0.mk (blk_kept q4_19 hkp (fun hs_ => (fun e_ => (Kd.R_ne HO_489000.out BK481.out (by decide)) e_) hs_)); have n6_ := Aside0.mk (blk_kept q4_23 hkp (fun hs_ => (fun e_ => (Kd.R_ne HO_489000.out BK488.out (by decide)) e_) hs_)); replace HO_476000 := Aside0.mk (Kd.R_mono (ok' := fun k_ => some k_ ≠ (.slice Ao27 t497.length co27 : Value).ownBlock ∧ some k_ ≠ (.slice Ao33 t482.length co33 : Value).ownBlock) (Kd.R_keptB (HO_476000.out) hkp (fun k_ hk_ hs_ => (hk_.2) hs_)) (fun k_ hk_ => ⟨hk_.1.1, hk_.1.2⟩)); replace HO_482000 := Aside0.mk (Kd.R_mono (ok' := fun k_ => some k_ ≠ (.slice Ao21 t469.length co21 : Value).ownBlock ∧ some k_ ≠ (.slice Ao33 t482.length co33 : Value).ownBlock) (Kd.R_keptB (HO_482000.out) hkp (fun k_ hk_ hs_ => (hk_.2) hs_)) (fun k_ hk_ => ⟨hk_.1.1, hk_.1.2⟩)); replace HO_489000 := Aside0.mk (Kd.R_reok rfl hy0 (fun k_ e_ => HO_489000.out.1 k_ e_)); replace HB := Aside0.mk (hb); clear BK462; clear BK475; clear BK481; clear BK488; have BK462 := n3_; have BK475 := n4_; have BK481 := n5_; have BK488 := n6_; clear n3_ n4_ n5_ n6_; (try clear hb); (try clear hkp); (try clear hy0); have hcz110_0 := z4bc BK488 0; have hcz110_1 := z4bc BK488 1; have hcz110_2 := z4bc BK488 2; have hfz110_0 := blk_frozen BK488.out 0; have hfz110_1 := blk_frozen BK488.out 1; have hfz110_2 := blk_frozen BK488.out 2) | ((with_reducible refine gate_callee (f := 17) rfl ?_); refine goesL_ (some 71) rfl rfl Try.func17 (by kernel_rfl) rfl #[.agg #[.slice Ao33 t500.length co33, .int .i64 t485, .int .i64 t486], .int .i64 1] rfl q4_31 ?_; (with_reducible refine (laws_heldTop.calls kj60 _ _ t500 t485 t486 1 t501 _ ?side1 ?side2 A92.out).mono ?_); (case side1 => exact q4_12); (case side2 => exact q4_52); rintro e w111 ⟨rfl, hb⟩; refine ⟨_, rfl, ?_⟩; replace HO_476000 := Aside0.mk (Kd.R_below q4_3 hb); replace HO_482000 := Aside0.mk (Kd.R_below q4_4 hb); replace HO_489000 := Aside0.mk (Kd.R_below q4_5 hb); replace BK462 := z4bb BK462 hb; replace BK475 := z4bb BK475 hb; replace BK481 := z4bb BK481 hb; replace BK488 := z4bb BK488 hb; replace HB := Aside0.mk (below_step q4_0 hb); (try clear hb); (try clear hb2); (try clear hk); (try clear hi); have hnb112 := NB462_475.out; have hnc112 := NB475_462.out; have hnb113 := NB462_481.out; have hnc113 := NB481_462.out; have hcz114_0 := z4bc BK462 0; have hcz114_1 := z4bc BK462 1; have hcz114_2 := z4bc BK462 2; have hfz114_0 := blk_frozen BK462.out 0; have hfz114_1 := blk_frozen BK462.out 1; have hfz114_2 := blk_frozen BK462.out 2) | ((with_reducible refine gate_callee (f := 14) rfl ?_); refine goesL_ (some 79) rfl rfl Try.func14 (by kernel_rfl) rfl #[.agg #[.slice A0_0 l0_0.length c0_0, .int .i64 a0_1, .int .i64 a0_2]] rfl q4_1 ?_; (with_reducible refine (laws_toTop.calls kj60 _ _ l0_0 a0_1 a0_2 t502 t505 t506 _ ?side1 ?side2 A102.out).mono ?_); (case side1 => exact q4_16); (case side2 => exact HC0_0.out); rintro e w115 ⟨v503, rfl, ho0, hb⟩; refine ⟨_, rfl, ?_⟩; have n3_ := Aside0.mk (Kd.R_lower (Kd.R_new' (Kd.R_new' (Kd.R_new' ho0 (Kd.R_lt q4_3)) (Kd.R_lt q4_4)) (Kd.R_lt q4_5)) (below_size q4_0)); replace HO_476000 := Aside0.mk (Kd.R_elder' q4_3 (Kd.R_base ho0) hb); replace HO_482000 := Aside0.mk (Kd.R_elder' q4_4 (Kd.R_base ho0) hb); replace HO_489000 := Aside0.mk (Kd.R_elder' q4_5 (Kd.R_base ho0) hb); replace BK462 := z4bb BK462 hb; replace BK475 := z4bb BK475 hb; replace BK481 := z4bb BK481 hb; replace BK488 := z4bb BK488 hb; replace HB := Aside0.mk (below_step q4_0 hb); have HO504 := n3_; clear n3_; (try clear hb); (try clear hb2); (try clear hk); (try clear hi); (try clear ho0); obtain ⟨Ao116, co116, eo116⟩ := Kd.R_slice HO504.out; subst eo116) | ((with_reducible refine gate_callee (f := 9) rfl ?_); refine goesL_ (some 81) rfl rfl Try.func9 (by kernel_rfl) rfl #[.agg #[.slice Ao116 t502.length co116, .int .i64 t505, .int .i64 t506], .int .i64 a1] rfl q4_1 ?_; (with_reducible refine (impl_TopAdd.calls kj60 _ _ t502 t505 t506 a1 t507 t510 t511 t512 _ ?side1 ?side2 A103.out).mono ?_); (case side1 => repeat (first | exact (Kd.R_reads' HO504.out).2.2 | (with_reducible refine Kd.C_alloc ?_ _) | (with_reducible refine Kd.C_drewN ?_ _) | (with_reducible refine Kd.C_drew ?_))); (case side2 => exact (Kd.R_reads' HO504.out).2.1); rintro e w117 ⟨v508, rfl, ho0, hb⟩; refine ⟨_, rfl, ?_⟩; have n4_ := Aside0.mk (Kd.R_lower (Kd.R_new' (Kd.R_new' (Kd.R_new' (Kd.R_new' ho0 (Kd.R_lt q4_3)) (Kd.R_lt q4_4)) (Kd.R_lt q4_5)) (Kd.R_lt q4_55)) (below_size q4_0)); replace HO_476000 := Aside0.mk (Kd.R_elder' q4_3 (Kd.R_base ho0) hb); replace HO_482000 := Aside0.mk (Kd.R_elder' q4_4 (Kd.R_base ho0) hb); replace HO_489000 := Aside0.mk (Kd.R_elder' q4_5 (Kd.R_base ho0) hb); replace HO504 := Aside0.mk (Kd.R_elder' q4_55 (Kd.R_base ho0) hb); replace BK462 := z4bb BK462 hb; replace BK475 := z4bb BK475 hb; replace BK481 := z4bb BK481 hb; replace BK488 := z4bb BK488 hb; replace HB := Aside0.mk (below_step q4_0 hb); have HO509 := n4_; clear n4_; (try clear hb); (try clear hb2); (try clear hk); (try clear hi); (try clear ho0)) | ((with_reducible refine gate_dst (N := 14) rfl ?_); refine box_event ?hg (N := 14) ?hd (cs := #[.slice none 0 0, .int .i64 0, .int .i64 0]) (t := 25) ?hr ?_; (case hd => rfl); (case hg => rfl); (case hr => exact q4_58); intro gb513 hg w118 hbox hb; have n10_ := Aside0.mk (hbox); have n11_ := Aside0.mk ((by rw [hg]; exact (below_size q4_0) : w.heap.size ≤ gb513)); have n12_ := Aside0.mk ((by rw [hg]; exact (below_size q4_0) : w.heap.size ≤ gb513)); have n13_ := Aside0.mk ((q4_34 : gb462 ≠ gb513)); have n14_ := Aside0.mk ((q4_35 : gb513 ≠ gb462)); have n15_ := Aside0.mk ((q4_49 : gb475 ≠ gb513)); have n16_ := Aside0.mk ((q4_50 : gb513 ≠ gb475)); have n17_ := Aside0.mk ((by rw [hg]; exact Nat.ne_of_lt (blk_lt (g := gb481) (o := .cells #[.slice Ao27 t497.length co27, .int .i64 t479, .int .i64 t480] 25 (0, 0)) q4_19) : gb481 ≠ gb513)); have n18_ := Aside0.mk ((by rw [hg]; exact Nat.ne_of_gt (blk_lt (g := gb481) (o := .cells #[.slice Ao27 t497.length co27, .int .i64 t479, .int .i64 t480] 25 (0, 0)) q4_19) : gb513 ≠ gb481)); have n19_ := Aside0.mk ((by rw [hg]; exact Nat.ne_of_lt (blk_lt (g := gb488) (o := .cells #[.slice Ao33 t482.length co33, .int .i64 t485, .int .i64 t486] 25 (0, 0)) q4_23) : gb488 ≠ gb513)); have n20_ := Aside0.mk ((by rw [hg]; exact Nat.ne_of_gt (blk_lt (g := gb488) (o := .cells #[.slice Ao33 t482.length co33, .int .i64 t485, .int .i64 t486] 25 (0, 0)) q4_23) : gb513 ≠ gb488)); replace HO_476000 := Aside0.mk (Kd.R_below q4_3 hb); replace HO_482000 := Aside0.mk (Kd.R_below q4_4 hb); replace HO_489000 := Aside0.mk (Kd.R_below q4_5 hb); replace HO504 := Aside0.mk (Kd.R_below q4_55 hb); replace HO509 := Aside0.mk (Kd.R_below (by (with_reducible repeat (first | apply Kd.R_alloc | apply Kd.R_drewN | apply Kd.R_drew)); exact HO509.out) hb); replace BK462 := z4bb BK462 hb; replace BK475 := z4bb BK475 hb; replace BK481 := z4bb BK481 hb; replace BK488 := z4bb BK488 hb; replace HB := Aside0.mk (below_step q4_0 hb); have BK513 := n10_; have GW513 := n11_; have GE513 := n12_; have NB462_513 := n13_; have NB513_462 := n14_; have NB475_513 := n15_; have NB513_475 := n16_; have NB481_513 := n17_; have NB513_481 := n18_; have NB488_513 := n19_; have NB513_488 := n20_; clear n10_ n11_ n12_ n13_ n14_ n15_ n16_ n17_ n18_ n19_ n20_; clear hb hbox hg; obtain ⟨Ao119, co119, eo119⟩ := Kd.R_slice HO509.out; subst eo119; have hnb120 := NB513_462.out; have hnc120 := NB462_513.out; have hnb121 := NB513_475.out; have hnc121 := NB475_513.out; have hnb122 := NB513_481.out; have hnc122 := NB481_513.out; have hnb123 := NB513_488.out; have hnc123 := NB488_513.out; have hcz124_0 := z4bc BK513 0; have hcz124_1 := z4bc BK513 1; have hcz124_2 := z4bc BK513 2; have hfz124_0 := blk_frozen BK513.out 0; have hfz124_1 := blk_frozen BK513.out 1; have hfz124_2 := blk_frozen BK513.out 2))
                      (try simp only [Act.put, List.setIfInBounds_toArray, List.set_cons_zero, List.set_cons_succ])
                      go_cut [92] (fun v92 wc => ∃ (kq : Nat) (x92_103 : Bool), v92 = .bool x92_103 ∧ Aside0 (laws_FnExactTopAdd.j2 kq t499 x92_103 t500 t485 t486 = some r) ∧ Aside0 (kq ≤ kj60) ∧ Aside0 (Kd.R k54 54 wc w.heap.size (fun k_ => some k_ ≠ ((.slice Ao27 t497.length co27) : Value).ownBlock ∧ some k_ ≠ ((.slice Ao33 t482.length co33) : Value).ownBlock ∧ some k_ ≠ ((.slice Ao119 t507.length co119) : Value).ownBlock) (.slice Ao21 t469.length co21) t469) ∧ Aside0 (Kd.R k54 54 wc w.heap.size (fun k_ => some k_ ≠ ((.slice Ao21 t469.length co21) : Value).ownBlock ∧ some k_ ≠ ((.slice Ao33 t482.length co33) : Value).ownBlock ∧ some k_ ≠ ((.slice Ao119 t507.length co119) : Value).ownBlock) (.slice Ao27 t497.length co27) t497) ∧ Aside0 (Kd.R k54 54 wc w.heap.size (fun k_ => some k_ ≠ ((.slice Ao21 t469.length co21) : Value).ownBlock ∧ some k_ ≠ ((.slice Ao27 t497.length co27) : Value).ownBlock ∧ some k_ ≠ ((.slice Ao119 t507.length co119) : Value).ownBlock) (.slice Ao33 t482.length co33) t500) ∧ Aside0 (Kd.R k54 54 wc w.heap.size (fun k_ => some k_ ≠ ((.slice Ao21 t469.length co21) : Value).ownBlock ∧ some k_ ≠ ((.slice Ao27 t497.length co27) : Value).ownBlock ∧ some k_ ≠ ((.slice Ao33 t482.length co33) : Value).ownBlock) (.slice Ao119 t507.length co119) t507) ∧ Aside0 (wc.heap[gb462]? = some (.cells #[(.slice A0_0 l0_0.length c0_0), .int .i64 a0_1, .int .i64 a0_2] 37 (0, 0))) ∧ Aside0 (wc.heap[gb475]? = some (.cells #[(.slice Ao21 t469.length co21), .int .i64 t472, .int .i64 t473] 25 (0, 0))) ∧ Aside0 (wc.heap[gb481]? = some (.cells #[(.slice Ao27 t497.length co27), .int .i64 t479, .int .i64 t480] 25 (0, 0))) ∧ Aside0 (wc.heap[gb488]? = some (.cells #[(.slice Ao33 t482.length co33), .int .i64 t485, .int .i64 t486] 25 (0, 0))) ∧ Aside0 (wc.heap[gb513]? = some (.cells #[(.slice Ao119 t507.length co119), .int .i64 t510, .int .i64 t511] 25 (0, 0))) ∧ Aside0 (Below w.heap.size w wc))
                      case first =>
                        have H := HC104.out;clear HC104
                        replace H := Option.bind_eq_some_iff.mp H
                        obtain ⟨t514, A1250, H⟩ := H
                        replace H : (if t514 = true then (laws_FnExactTopAdd.j2 kj60 t499 (t512 != t474) t500 t485 t486) else (laws_FnExactTopAdd.j2 kj60 t499 true t500 t485 t486)) = some r := H
                        have A125 := Aside0.mk A1250;clear A1250
                        by_cases c126 : t514 = true
                        · subst c126
                          have H1 : (laws_FnExactTopAdd.j2 kj60 t499 (t512 != t474) t500 t485 t486) = some r := by rw [if_pos rfl] at H; exact H
                          clear H;have H := H1;clear H1
                          have H' := Aside0.mk H
                          clear H;have hnb127 := NB513_462.out;have hnc127 := NB462_513.out;have hnb128 := NB513_475.out;have hnc128 := NB475_513.out;have hnb129 := NB513_481.out;have hnc129 := NB481_513.out;have hnb130 := NB513_488.out;have hnc130 := NB488_513.out;have hcz131_0 := z4bc BK513 0;have hcz131_1 := z4bc BK513 1;have hcz131_2 := z4bc BK513 2;have hfz131_0 := blk_frozen BK513.out 0;have hfz131_1 := blk_frozen BK513.out 1;have hfz131_2 := blk_frozen BK513.out 2;have hnb132 := NB475_462.out;have hnc132 := NB462_475.out;have hnb133 := NB475_481.out;have hnc133 := NB481_475.out;have hnb134 := NB475_488.out;have hnc134 := NB488_475.out;have hcz135_0 := z4bc BK475 0;have hcz135_1 := z4bc BK475 1;have hcz135_2 := z4bc BK475 2;have hfz135_0 := blk_frozen BK475.out 0;have hfz135_1 := blk_frozen BK475.out 1;have hfz135_2 := blk_frozen BK475.out 2
                          go_wp2_with (first | ((with_reducible refine gate_callee (f := 15) rfl ?_); refine goesL_ (some 86) rfl rfl Try.func15 (by kernel_rfl) rfl #[.agg #[.slice Ao119 t507.length co119, .int .i64 t510, .int .i64 t511], .agg #[.slice Ao21 t469.length co21, .int .i64 t472, .int .i64 t473]] rfl q4_1 ?_; (with_reducible refine (laws_eqTop.calls kj60 _ _ t507 t510 t511 _ _ t469 t472 t473 true _ ?side1 ?side2 ?side3 ?side4 A125.out).mono ?_); (case side1 => exact q4_44); (case side2 => exact (Kd.R_reads' HO509.out).2.1); (case side3 => exact q4_45); (case side4 => exact (Kd.R_reads' HO_476000.out).2.1); rintro e w136 ⟨rfl, hb⟩; refine ⟨_, rfl, ?_⟩; have n0_ := Aside0.mk (Kd.R_below q4_7 hb); have n1_ := Aside0.mk (Kd.R_below q4_32 hb); have n2_ := Aside0.mk (Kd.R_below q4_33 hb); have n3_ := Aside0.mk (Kd.R_below q4_36 hb); have n4_ := Aside0.mk (Kd.R_below q4_9 hb); replace BK462 := Aside0.mk (blk_below (g := gb462) (o := .cells #[.slice A0_0 l0_0.length c0_0, .int .i64 a0_1, .int .i64 a0_2] 37 (0, 0)) q4_27 hb); replace BK475 := Aside0.mk (blk_below (g := gb475) (o := .cells #[.slice Ao21 t469.length co21, .int .i64 t472, .int .i64 t473] 25 (0, 0)) q4_28 hb); replace BK481 := Aside0.mk (blk_below (g := gb481) (o := .cells #[.slice Ao27 t497.length co27, .int .i64 t479, .int .i64 t480] 25 (0, 0)) q4_29 hb); replace BK488 := Aside0.mk (blk_below (g := gb488) (o := .cells #[.slice Ao33 t482.length co33, .int .i64 t485, .int .i64 t486] 25 (0, 0)) q4_30 hb); replace BK513 := Aside0.mk (blk_below (g := gb513) (o := .cells #[.slice Ao119 t507.length co119, .int .i64 t510, .int .i64 t511] 25 (0, 0)) q4_20 hb); replace HB := Aside0.mk (below_step q4_2 hb); clear HO_476000; clear HO_482000; clear HO_489000; clear HO504; clear HO509; have HO_476000 := n0_; have HO_482000 := n1_; have HO_489000 := n2_; have HO504 := n3_; have HO509 := n4_; clear n0_ n1_ n2_ n3_ n4_; (try clear hb); (try clear hb2); (try clear hk); (try clear hi)))
                          go_meet
                          case rel => exact ⟨_, ((t512 != t474)), q4_51, H', ⟨by have := HJ11.out; have := HJ60.out; first | omega | exact Nat.le_refl _⟩, ⟨by (try simp only [hl482000_60]); (with_reducible repeat (first | apply Kd.R_alloc | apply Kd.R_drewN | apply Kd.R_drew)); exact Kd.R_mono HO_476000.out (fun _ hk => ⟨hk.1.1.1, ⟨hk.1.1.2, hk.2⟩⟩)⟩, ⟨by (try simp only [hl482000_60]); (with_reducible repeat (first | apply Kd.R_alloc | apply Kd.R_drewN | apply Kd.R_drew)); exact Kd.R_mono HO_482000.out (fun _ hk => ⟨hk.1.1.1, ⟨hk.1.1.2, hk.2⟩⟩)⟩, ⟨by (try simp only [hl482000_60]); (with_reducible repeat (first | apply Kd.R_alloc | apply Kd.R_drewN | apply Kd.R_drew)); exact Kd.R_mono HO_489000.out (fun _ hk => ⟨hk.1.1.1, ⟨hk.1.1.2, hk.2⟩⟩)⟩, ⟨by (try simp only [hl482000_60]); (with_reducible repeat (first | apply Kd.R_alloc | apply Kd.R_drewN | apply Kd.R_drew)); exact Kd.R_mono HO509.out (fun _ hk => ⟨hk.1.1.1.2, ⟨hk.1.1.2, hk.1.2⟩⟩)⟩, ⟨by (try simp only [hl482000_60]); (with_reducible repeat (first | refine blk_drewN ?_ _ | refine blk_drew ?_ | refine blk_alloc ?_ _)); exact BK462.out⟩, ⟨by (try simp only [hl482000_60]); (with_reducible repeat (first | refine blk_drewN ?_ _ | refine blk_drew ?_ | refine blk_alloc ?_ _)); exact BK475.out⟩, ⟨by (try simp only [hl482000_60]); (with_reducible repeat (first | refine blk_drewN ?_ _ | refine blk_drew ?_ | refine blk_alloc ?_ _)); exact BK481.out⟩, ⟨by (try simp only [hl482000_60]); (with_reducible repeat (first | refine blk_drewN ?_ _ | refine blk_drew ?_ | refine blk_alloc ?_ _)); exact BK488.out⟩, ⟨by (try simp only [hl482000_60]); (with_reducible repeat (first | refine blk_drewN ?_ _ | refine blk_drew ?_ | refine blk_alloc ?_ _)); exact BK513.out⟩, ⟨q4_2⟩⟩
                        · replace c126 := Bool.eq_false_iff.mpr c126
                          subst c126
                          have H1 : (laws_FnExactTopAdd.j2 kj60 t499 true t500 t485 t486) = some r := by rw [if_neg (show ¬ (false = true) by decide)] at H; exact H
                          clear H;have H := H1;clear H1
                          have H' := Aside0.mk H
                          clear H;have hnb137 := NB513_462.out;have hnc137 := NB462_513.out;have hnb138 := NB513_475.out;have hnc138 := NB475_513.out;have hnb139 := NB513_481.out;have hnc139 := NB481_513.out;have hnb140 := NB513_488.out;have hnc140 := NB488_513.out;have hcz141_0 := z4bc BK513 0;have hcz141_1 := z4bc BK513 1;have hcz141_2 := z4bc BK513 2;have hfz141_0 := blk_frozen BK513.out 0;have hfz141_1 := blk_frozen BK513.out 1;have hfz141_2 := blk_frozen BK513.out 2;have hnb142 := NB475_462.out;have hnc142 := NB462_475.out;have hnb143 := NB475_481.out;have hnc143 := NB481_475.out;have hnb144 := NB475_488.out;have hnc144 := NB488_475.out;have hcz145_0 := z4bc BK475 0;have hcz145_1 := z4bc BK475 1;have hcz145_2 := z4bc BK475 2;have hfz145_0 := blk_frozen BK475.out 0;have hfz145_1 := blk_frozen BK475.out 1;have hfz145_2 := blk_frozen BK475.out 2
                          go_wp2_with (first | ((with_reducible refine gate_callee (f := 15) rfl ?_); refine goesL_ (some 86) rfl rfl Try.func15 (by kernel_rfl) rfl #[.agg #[.slice Ao119 t507.length co119, .int .i64 t510, .int .i64 t511], .agg #[.slice Ao21 t469.length co21, .int .i64 t472, .int .i64 t473]] rfl q4_1 ?_; (with_reducible refine (laws_eqTop.calls kj60 _ _ t507 t510 t511 _ _ t469 t472 t473 false _ ?side1 ?side2 ?side3 ?side4 A125.out).mono ?_); (case side1 => exact q4_44); (case side2 => exact (Kd.R_reads' HO509.out).2.1); (case side3 => exact q4_45); (case side4 => exact (Kd.R_reads' HO_476000.out).2.1); rintro e w146 ⟨rfl, hb⟩; refine ⟨_, rfl, ?_⟩; have n0_ := Aside0.mk (Kd.R_below q4_7 hb); have n1_ := Aside0.mk (Kd.R_below q4_32 hb); have n2_ := Aside0.mk (Kd.R_below q4_33 hb); have n3_ := Aside0.mk (Kd.R_below q4_36 hb); have n4_ := Aside0.mk (Kd.R_below q4_9 hb); replace BK462 := Aside0.mk (blk_below (g := gb462) (o := .cells #[.slice A0_0 l0_0.length c0_0, .int .i64 a0_1, .int .i64 a0_2] 37 (0, 0)) q4_27 hb); replace BK475 := Aside0.mk (blk_below (g := gb475) (o := .cells #[.slice Ao21 t469.length co21, .int .i64 t472, .int .i64 t473] 25 (0, 0)) q4_28 hb); replace BK481 := Aside0.mk (blk_below (g := gb481) (o := .cells #[.slice Ao27 t497.length co27, .int .i64 t479, .int .i64 t480] 25 (0, 0)) q4_29 hb); replace BK488 := Aside0.mk (blk_below (g := gb488) (o := .cells #[.slice Ao33 t482.length co33, .int .i64 t485, .int .i64 t486] 25 (0, 0)) q4_30 hb); replace BK513 := Aside0.mk (blk_below (g := gb513) (o := .cells #[.slice Ao119 t507.length co119, .int .i64 t510, .int .i64 t511] 25 (0, 0)) q4_20 hb); replace HB := Aside0.mk (below_step q4_2 hb); clear HO_476000; clear HO_482000; clear HO_489000; clear HO504; clear HO509; have HO_476000 := n0_; have HO_482000 := n1_; have HO_489000 := n2_; have HO504 := n3_; have HO509 := n4_; clear n0_ n1_ n2_ n3_ n4_; (try clear hb); (try clear hb2); (try clear hk); (try clear hi)))
                          go_meet
                          case rel => exact ⟨_, (true), q4_51, H', ⟨by have := HJ11.out; have := HJ60.out; first | omega | exact Nat.le_refl _⟩, ⟨by (try simp only [hl482000_60]); (with_reducible repeat (first | apply Kd.R_alloc | apply Kd.R_drewN | apply Kd.R_drew)); exact Kd.R_mono HO_476000.out (fun _ hk => ⟨hk.1.1.1, ⟨hk.1.1.2, hk.2⟩⟩)⟩, ⟨by (try simp only [hl482000_60]); (with_reducible repeat (first | apply Kd.R_alloc | apply Kd.R_drewN | apply Kd.R_drew)); exact Kd.R_mono HO_482000.out (fun _ hk => ⟨hk.1.1.1, ⟨hk.1.1.2, hk.2⟩⟩)⟩, ⟨by (try simp only [hl482000_60]); (with_reducible repeat (first | apply Kd.R_alloc | apply Kd.R_drewN | apply Kd.R_drew)); exact Kd.R_mono HO_489000.out (fun _ hk => ⟨hk.1.1.1, ⟨hk.1.1.2, hk.2⟩⟩)⟩, ⟨by (try simp only [hl482000_60]); (with_reducible repeat (first | apply Kd.R_alloc | apply Kd.R_drewN | apply Kd.R_drew)); exact Kd.R_mono HO509.out (fun _ hk => ⟨hk.1.1.1.2, ⟨hk.1.1.2, hk.1.2⟩⟩)⟩, ⟨by (try simp only [hl482000_60]); (with_reducible repeat (first | refine blk_drewN ?_ _ | refine blk_drew ?_ | refine blk_alloc ?_ _)); exact BK462.out⟩, ⟨by (try simp only [hl482000_60]); (with_reducible repeat (first | refine blk_drewN ?_ _ | refine blk_drew ?_ | refine blk_alloc ?_ _)); exact BK475.out⟩, ⟨by (try simp only [hl482000_60]); (with_reducible repeat (first | refine blk_drewN ?_ _ | refine blk_drew ?_ | refine blk_alloc ?_ _)); exact BK481.out⟩, ⟨by (try simp only [hl482000_60]); (with_reducible repeat (first | refine blk_drewN ?_ _ | refine blk_drew ?_ | refine blk_alloc ?_ _)); exact BK488.out⟩, ⟨by (try simp only [hl482000_60]); (with_reducible repeat (first | refine blk_drewN ?_ _ | refine blk_drew ?_ | refine blk_alloc ?_ _)); exact BK513.out⟩, ⟨q4_2⟩⟩
                      case rest =>
                        clear HC104
                        try clear c1
                        try clear c2
                        try clear p2
                        try clear c3
                        try clear c4
                        try clear c4b0
                        try clear c5
                        try clear c6
                        try clear c7
                        try clear c8
                        try clear c9
                        try clear c10
                        try clear c11
                        try clear c12
                        try clear c13
                        try clear c14
                        try clear c15
                        try clear c16
                        try clear c17
                        try clear c22
                        try clear c28
                        try clear c29
                        try clear c34
                        try clear c35
                        try clear c36
                        try clear c39
                        try clear c40
                        try clear c41
                        try clear c42
                        try clear c44
                        try clear c45
                        try clear c48
                        try clear c49
                        try clear c50
                        try clear c52
                        try clear c53
                        try clear c56
                        try clear c59
                        try clear c66
                        try clear c67
                        try clear c68
                        try clear c71
                        try clear c71b0
                        try clear c73
                        try clear c74
                        try clear c75
                        try clear c76
                        try clear c78
                        try clear c79
                        try clear c82
                        try clear c83
                        try clear c84
                        try clear c86
                        try clear c87
                        try clear c90
                        try clear c93
                        try clear c93b0
                        try clear c94
                        try clear c95
                        try clear c96
                        try clear c101
                        try clear c101b0
                        try clear c101b1
                        try clear c105
                        try clear c106
                        try clear c107
                        try clear c112
                        try clear c113
                        try clear c120
                        try clear c121
                        try clear c122
                        try clear c123
                        try clear c126
                        try clear c127
                        try clear c128
                        try clear c129
                        try clear c130
                        try clear c132
                        try clear c133
                        try clear c134
                        try clear c137
                        try clear c138
                        try clear c139
                        try clear c140
                        try clear c142
                        try clear c143
                        try clear c144
                        try clear hcz108_0
                        try clear hcz108_1
                        try clear hcz108_2
                        try clear hcz110_0
                        try clear hcz110_1
                        try clear hcz110_2
                        try clear hcz114_0
                        try clear hcz114_1
                        try clear hcz114_2
                        try clear hcz124_0
                        try clear hcz124_1
                        try clear hcz124_2
                        try clear hcz131_0
                        try clear hcz131_1
                        try clear hcz131_2
                        try clear hcz135_0
                        try clear hcz135_1
                        try clear hcz135_2
                        try clear hcz141_0
                        try clear hcz141_1
                        try clear hcz141_2
                        try clear hcz145_0
                        try clear hcz145_1
                        try clear hcz145_2
                        try clear hcz14_0
                        try clear hcz14_1
                        try clear hcz14_2
                        try clear hcz16_0
                        try clear hcz16_1
                        try clear hcz16_2
                        try clear hcz23_0
                        try clear hcz23_1
                        try clear hcz23_2
                        try clear hcz24_0
                        try clear hcz24_1
                        try clear hcz24_2
                        try clear hcz30_0
                        try clear hcz30_1
                        try clear hcz30_2
                        try clear hcz37_0
                        try clear hcz37_1
                        try clear hcz37_2
                        try clear hcz43_0
                        try clear hcz43_1
                        try clear hcz43_2
                        try clear hcz46_0
                        try clear hcz46_1
                        try clear hcz46_2
                        try clear hcz51_0
                        try clear hcz51_1
                        try clear hcz51_2
                        try clear hcz54_0
                        try clear hcz54_1
                        try clear hcz54_2
                        try clear hcz69_0
                        try clear hcz69_1
                        try clear hcz69_2
                        try clear hcz6_0
                        try clear hcz6_1
                        try clear hcz6_2
                        try clear hcz77_0
                        try clear hcz77_1
                        try clear hcz77_2
                        try clear hcz80_0
                        try clear hcz80_1
                        try clear hcz80_2
                        try clear hcz85_0
                        try clear hcz85_1
                        try clear hcz85_2
                        try clear hcz88_0
                        try clear hcz88_1
                        try clear hcz88_2
                        try clear hcz97_0
                        try clear hcz97_1
                        try clear hcz97_2
                        try clear hcz99_0
                        try clear hcz99_1
                        try clear hcz99_2
                        try clear hfz108_0
                        try clear hfz108_1
                        try clear hfz108_2
                        try clear hfz110_0
                        try clear hfz110_1
                        try clear hfz110_2
                        try clear hfz114_0
                        try clear hfz114_1
                        try clear hfz114_2
                        try clear hfz124_0
                        try clear hfz124_1
                        try clear hfz124_2
                        try clear hfz131_0
                        try clear hfz131_1
                        try clear hfz131_2
                        try clear hfz135_0
                        try clear hfz135_1
                        try clear hfz135_2
                        try clear hfz141_0
                        try clear hfz141_1
                        try clear hfz141_2
                        try clear hfz145_0
                        try clear hfz145_1
                        try clear hfz145_2
                        try clear hfz14_0
                        try clear hfz14_1
                        try clear hfz14_2
                        try clear hfz16_0
                        try clear hfz16_1
                        try clear hfz16_2
                        try clear hfz23_0
                        try clear hfz23_1
                        try clear hfz23_2
                        try clear hfz24_0
                        try clear hfz24_1
                        try clear hfz24_2
                        try clear hfz30_0
                        try clear hfz30_1
                        try clear hfz30_2
                        try clear hfz37_0
                        try clear hfz37_1
                        try clear hfz37_2
                        try clear hfz43_0
                        try clear hfz43_1
                        try clear hfz43_2
                        try clear hfz46_0
                        try clear hfz46_1
                        try clear hfz46_2
                        try clear hfz51_0
                        try clear hfz51_1
                        try clear hfz51_2
                        try clear hfz54_0
                        try clear hfz54_1
                        try clear hfz54_2
                        try clear hfz69_0
                        try clear hfz69_1
                        try clear hfz69_2
                        try clear hfz6_0
                        try clear hfz6_1
                        try clear hfz6_2
                        try clear hfz77_0
                        try clear hfz77_1
                        try clear hfz77_2
                        try clear hfz80_0
                        try clear hfz80_1
                        try clear hfz80_2
                        try clear hfz85_0
                        try clear hfz85_1
                        try clear hfz85_2
                        try clear hfz88_0
                        try clear hfz88_1
                        try clear hfz88_2
                        try clear hfz97_0
                        try clear hfz97_1
                        try clear hfz97_2
                        try clear hfz99_0
                        try clear hfz99_1
                        try clear hfz99_2
                        try clear p2
                        obtain ⟨kq, x92_103, rfl, HA, HJ103, HO_476000, HO_482000, HO_489000, HO_514000, BK462, BK475, BK481, BK488, BK513, HB⟩ := hcut;have hl489000_103 := (Kd.R_reads' HO_489000.out).1
                        rw [hl489000_103] at HO_489000
                        (try simp only [hl489000_103])
                        (try simp only [hl489000_103] at BK462)
                        (try simp only [hl489000_103] at BK475)
                        (try simp only [hl489000_103] at BK481)
                        (try simp only [hl489000_103] at BK488)
                        (try simp only [hl489000_103] at BK513)
                        (try simp only [hl489000_103] at HO_476000)
                        (try simp only [hl489000_103] at HO_482000)
                        (try simp only [hl489000_103] at HO_514000)
                        cases kq with
                        | zero => exact absurd HA.out (by simp [laws_FnExactTopAdd.j2])
                        | succ kj103 =>
                          have H := HA.out;clear HA
                          simp only [laws_FnExactTopAdd.j2] at H
                          by_cases c147 : x92_103 = true
                          · subst c147
                            have H1 : (some false) = some r := by rw [if_pos rfl] at H; exact H
                            clear H;have H := H1;clear H1
                            obtain rfl := Option.some.inj H
                            go_wp2
                            go_ret
                            exact ⟨q4_18, q4_2⟩
                          · replace c147 := Bool.eq_false_iff.mpr c147
                            subst c147
                            have H1 : ((laws_heldTop.f kj103 t500 t485 t486 1).bind fun t515 => (if t515 < 0 then (some false) else (if t515 = t499 then (some true) else (some false)))) = some r := by rw [if_neg (show ¬ (false = true) by decide)] at H; exact H
                            clear H;have H := H1;clear H1
                            replace H := Option.bind_eq_some_iff.mp H
                            obtain ⟨t515, A1480, H⟩ := H
                            replace H : (if t515 < 0 then (some false) else (if t515 = t499 then (some true) else (some false))) = some r := H
                            have A148 := Aside0.mk A1480;clear A1480
                            by_cases c149 : t515 < 0
                            · rw [if_pos c149] at H
                              have c149b0 : decide (t515 < 0) = true := decide_eq_true c149
                              clear c149
                              obtain rfl := Option.some.inj H
                              have hnb150 := NB488_462.out;have hnc150 := NB462_488.out;have hnb151 := NB488_475.out;have hnc151 := NB475_488.out;have hnb152 := NB488_481.out;have hnc152 := NB481_488.out;have hnb153 := NB488_513.out;have hnc153 := NB513_488.out;have hcz154_0 := z4bc BK488 0;have hcz154_1 := z4bc BK488 1;have hcz154_2 := z4bc BK488 2;have hfz154_0 := blk_frozen BK488.out 0;have hfz154_1 := blk_frozen BK488.out 1;have hfz154_2 := blk_frozen BK488.out 2
                              go_wp2_with (first | ((with_reducible refine gate_callee (f := 17) rfl ?_); refine goesL_ (some 95) rfl rfl Try.func17 (by kernel_rfl) rfl #[.agg #[.slice Ao33 t500.length co33, .int .i64 t485, .int .i64 t486], .int .i64 1] rfl q4_1 ?_; (with_reducible refine (laws_heldTop.calls kj103 _ _ t500 t485 t486 1 t515 _ ?side1 ?side2 A148.out).mono ?_); (case side1 => exact q4_12); (case side2 => exact (Kd.R_reads' HO_489000.out).2.1); rintro e w155 ⟨rfl, hb⟩; refine ⟨_, rfl, ?_⟩; replace HO_476000 := Aside0.mk (Kd.R_below q4_3 hb); replace HO_482000 := Aside0.mk (Kd.R_below q4_4 hb); replace HO_489000 := Aside0.mk (Kd.R_below q4_5 hb); replace HO_514000 := Aside0.mk (Kd.R_below q4_53 hb); replace BK462 := z4bb BK462 hb; replace BK475 := z4bb BK475 hb; replace BK481 := z4bb BK481 hb; replace BK488 := z4bb BK488 hb; replace BK513 := z4bb BK513 hb; replace HB := Aside0.mk (below_step q4_2 hb); (try clear hb); (try clear hb2); (try clear hk); (try clear hi)))
                              go_ret
                              exact ⟨q4_18, q4_2⟩
                            · rw [if_neg c149] at H
                              have c149b0 : decide (t515 < 0) = false := decide_eq_false c149
                              clear c149
                              by_cases c156 : t515 = t499
                              · rw [if_pos c156] at H
                                have c156b0 : (t515 == t499) = true := beq_iff_eq.mpr c156
                                have c156b1 : (t515 != t499) = false := bne_eq_false_iff_eq.mpr c156
                                clear c156
                                obtain rfl := Option.some.inj H
                                have hnb157 := NB488_462.out;have hnc157 := NB462_488.out;have hnb158 := NB488_475.out;have hnc158 := NB475_488.out;have hnb159 := NB488_481.out;have hnc159 := NB481_488.out;have hnb160 := NB488_513.out;have hnc160 := NB513_488.out;have hcz161_0 := z4bc BK488 0;have hcz161_1 := z4bc BK488 1;have hcz161_2 := z4bc BK488 2;have hfz161_0 := blk_frozen BK488.out 0;have hfz161_1 := blk_frozen BK488.out 1;have hfz161_2 := blk_frozen BK488.out 2
                                go_wp2_with (first | ((with_reducible refine gate_callee (f := 17) rfl ?_); refine goesL_ (some 95) rfl rfl Try.func17 (by kernel_rfl) rfl #[.agg #[.slice Ao33 t500.length co33, .int .i64 t485, .int .i64 t486], .int .i64 1] rfl q4_1 ?_; (with_reducible refine (laws_heldTop.calls kj103 _ _ t500 t485 t486 1 t515 _ ?side1 ?side2 A148.out).mono ?_); (case side1 => exact q4_12); (case side2 => exact (Kd.R_reads' HO_489000.out).2.1); rintro e w162 ⟨rfl, hb⟩; refine ⟨_, rfl, ?_⟩; replace HO_476000 := Aside0.mk (Kd.R_below q4_3 hb); replace HO_482000 := Aside0.mk (Kd.R_below q4_4 hb); replace HO_489000 := Aside0.mk (Kd.R_below q4_5 hb); replace HO_514000 := Aside0.mk (Kd.R_below q4_53 hb); replace BK462 := z4bb BK462 hb; replace BK475 := z4bb BK475 hb; replace BK481 := z4bb BK481 hb; replace BK488 := z4bb BK488 hb; replace BK513 := z4bb BK513 hb; replace HB := Aside0.mk (below_step q4_2 hb); (try clear hb); (try clear hb2); (try clear hk); (try clear hi)))
                                go_ret
                                exact ⟨q4_18, q4_2⟩
                              · rw [if_neg c156] at H
                                have c156b0 : (t515 == t499) = false := beq_eq_false_iff_ne.mpr c156
                                have c156b1 : (t515 != t499) = true := bne_iff_ne.mpr c156
                                obtain rfl := Option.some.inj H
                                have hnb163 := NB488_462.out;have hnc163 := NB462_488.out;have hnb164 := NB488_475.out;have hnc164 := NB475_488.out;have hnb165 := NB488_481.out;have hnc165 := NB481_488.out;have hnb166 := NB488_513.out;have hnc166 := NB513_488.out;have hcz167_0 := z4bc BK488 0;have hcz167_1 := z4bc BK488 1;have hcz167_2 := z4bc BK488 2;have hfz167_0 := blk_frozen BK488.out 0;have hfz167_1 := blk_frozen BK488.out 1;have hfz167_2 := blk_frozen BK488.out 2
                                go_wp2_with (first | ((with_reducible refine gate_callee (f := 17) rfl ?_); refine goesL_ (some 95) rfl rfl Try.func17 (by kernel_rfl) rfl #[.agg #[.slice Ao33 t500.length co33, .int .i64 t485, .int .i64 t486], .int .i64 1] rfl q4_1 ?_; (with_reducible refine (laws_heldTop.calls kj103 _ _ t500 t485 t486 1 t515 _ ?side1 ?side2 A148.out).mono ?_); (case side1 => exact q4_12); (case side2 => exact (Kd.R_reads' HO_489000.out).2.1); rintro e w168 ⟨rfl, hb⟩; refine ⟨_, rfl, ?_⟩; replace HO_476000 := Aside0.mk (Kd.R_below q4_3 hb); replace HO_482000 := Aside0.mk (Kd.R_below q4_4 hb); replace HO_489000 := Aside0.mk (Kd.R_below q4_5 hb); replace HO_514000 := Aside0.mk (Kd.R_below q4_53 hb); replace BK462 := z4bb BK462 hb; replace BK475 := z4bb BK475 hb; replace BK481 := z4bb BK481 hb; replace BK488 := z4bb BK488 hb; replace BK513 := z4bb BK513 hb; replace HB := Aside0.mk (below_step q4_2 hb); (try clear hb); (try clear hb2); (try clear hk); (try clear hi)))
                                go_ret
                                exact ⟨q4_18, q4_2⟩
                    · rw [if_neg c101] at H
                      have c101b0 : (t501 == t499) = false := beq_eq_false_iff_ne.mpr c101
                      have c101b1 : (t501 != t499) = true := bne_iff_ne.mpr c101
                      obtain rfl := Option.some.inj H
                      have hnb169 := NB488_462.out;have hnc169 := NB462_488.out;have hnb170 := NB488_475.out;have hnc170 := NB475_488.out;have hnb171 := NB488_481.out;have hnc171 := NB481_488.out;have hcz172_0 := z4bc BK488 0;have hcz172_1 := z4bc BK488 1;have hcz172_2 := z4bc BK488 2;have hfz172_0 := blk_frozen BK488.out 0;have hfz172_1 := blk_frozen BK488.out 1;have hfz172_2 := blk_frozen BK488.out 2
                      go_wp2_with (first | ((with_reducible refine gate_callee (f := 16) rfl ?_); refine goesL_ (some 68) rfl rfl Try.func16 (by kernel_rfl) rfl #[.agg #[.slice Ao33 t482.length co33, .int .i64 t485, .int .i64 t486], .int .i64 1] rfl q4_1 ?_; (with_reducible refine (laws_markTop.calls kj60 (fun k_ => some k_ = (.slice Ao33 t482.length co33 : Value).ownBlock) (.slice Ao33 t482.length co33) t482 t485 t486 1 t499 t500 w _ ?side1 ?side2 A91.out).mono ?_); (case side1 => exact q4_0); (case side2 => exact Kd.R_tight rfl HO_489000.out); rintro e w173 ⟨rfl, hy0, hb, hkp⟩; refine ⟨_, rfl, ?_⟩; have n3_ := Aside0.mk (blk_kept q4_8 hkp (fun hs_ => (fun e_ => (Kd.R_ne HO_489000.out BK462.out (by decide)) e_) hs_)); have n4_ := Aside0.mk (blk_kept q4_13 hkp (fun hs_ => (fun e_ => (Kd.R_ne HO_489000.out BK475.out (by decide)) e_) hs_)); have n5_ := Aside0.mk (blk_kept q4_19 hkp (fun hs_ => (fun e_ => (Kd.R_ne HO_489000.out BK481.out (by decide)) e_) hs_)); have n6_ := Aside0.mk (blk_kept q4_23 hkp (fun hs_ => (fun e_ => (Kd.R_ne HO_489000.out BK488.out (by decide)) e_) hs_)); replace HO_476000 := Aside0.mk (Kd.R_mono (ok' := fun k_ => some k_ ≠ (.slice Ao27 t497.length co27 : Value).ownBlock ∧ some k_ ≠ (.slice Ao33 t482.length co33 : Value).ownBlock) (Kd.R_keptB (HO_476000.out) hkp (fun k_ hk_ hs_ => (hk_.2) hs_)) (fun k_ hk_ => ⟨hk_.1.1, hk_.1.2⟩)); replace HO_482000 := Aside0.mk (Kd.R_mono (ok' := fun k_ => some k_ ≠ (.slice Ao21 t469.length co21 : Value).ownBlock ∧ some k_ ≠ (.slice Ao33 t482.length co33 : Value).ownBlock) (Kd.R_keptB (HO_482000.out) hkp (fun k_ hk_ hs_ => (hk_.2) hs_)) (fun k_ hk_ => ⟨hk_.1.1, hk_.1.2⟩)); replace HO_489000 := Aside0.mk (Kd.R_reok rfl hy0 (fun k_ e_ => HO_489000.out.1 k_ e_)); replace HB := Aside0.mk (hb); clear BK462; clear BK475; clear BK481; clear BK488; have BK462 := n3_; have BK475 := n4_; have BK481 := n5_; have BK488 := n6_; clear n3_ n4_ n5_ n6_; (try clear hb); (try clear hkp); (try clear hy0); have hcz174_0 := z4bc BK488 0; have hcz174_1 := z4bc BK488 1; have hcz174_2 := z4bc BK488 2; have hfz174_0 := blk_frozen BK488.out 0; have hfz174_1 := blk_frozen BK488.out 1; have hfz174_2 := blk_frozen BK488.out 2) | ((with_reducible refine gate_callee (f := 17) rfl ?_); refine goesL_ (some 71) rfl rfl Try.func17 (by kernel_rfl) rfl #[.agg #[.slice Ao33 t500.length co33, .int .i64 t485, .int .i64 t486], .int .i64 1] rfl q4_31 ?_; (with_reducible refine (laws_heldTop.calls kj60 _ _ t500 t485 t486 1 t501 _ ?side1 ?side2 A92.out).mono ?_); (case side1 => exact q4_12); (case side2 => exact q4_52); rintro e w175 ⟨rfl, hb⟩; refine ⟨_, rfl, ?_⟩; replace HO_476000 := Aside0.mk (Kd.R_below q4_3 hb); replace HO_482000 := Aside0.mk (Kd.R_below q4_4 hb); replace HO_489000 := Aside0.mk (Kd.R_below q4_5 hb); replace BK462 := z4bb BK462 hb; replace BK475 := z4bb BK475 hb; replace BK481 := z4bb BK481 hb; replace BK488 := z4bb BK488 hb; replace HB := Aside0.mk (below_step q4_0 hb); (try clear hb); (try clear hb2); (try clear hk); (try clear hi)))
                      go_ret
                      exact ⟨q4_18, q4_0⟩
          · replace c59 := Bool.eq_false_iff.mpr c59
            subst c59
            have H1 : (some false) = some r := by rw [if_neg (show ¬ (false = true) by decide)] at H; exact H
            clear H;have H := H1;clear H1
            obtain rfl := Option.some.inj H
            try go_wp2
            replace HO_476000 := Aside0.mk (Kd.R_drew HO_476000.out)
            replace HO_482000 := Aside0.mk (Kd.R_drew HO_482000.out)
            replace HO_489000 := Aside0.mk (Kd.R_drew HO_489000.out)
            replace BK462 := Aside0.mk (blk_drew BK462.out)
            replace BK475 := Aside0.mk (blk_drew BK475.out)
            replace BK481 := Aside0.mk (blk_drew BK481.out)
            replace BK488 := Aside0.mk (blk_drew BK488.out)
            replace HB := Aside0.mk (below_drew1 HB.out)
            refine start_ (n := 5) (S := fun w' => w'.cell? ⟨gb481, 0, none⟩ = some (.slice Ao27 t476.length co27) ∧ w'.cell? ⟨gb481, 1, none⟩ = some (.int .i64 t479) ∧ w'.cell? ⟨gb481, 2, none⟩ = some (.int .i64 t480) ∧ w'.cell? ⟨gb462, 0, none⟩ = some (.slice A0_0 l0_0.length c0_0) ∧ w'.cell? ⟨gb462, 1, none⟩ = some (.int .i64 a0_1) ∧ w'.cell? ⟨gb462, 2, none⟩ = some (.int .i64 a0_2)) (ds := []) #[false, false, false, false, false] (by kernel_rfl) rfl rfl ⟨z4bc BK481 0, z4bc BK481 1, z4bc BK481 2, z4bc BK462 0, z4bc BK462 1, z4bc BK462 2⟩ (fun hHeld => ?_)
            generalize wc.drew = w176 at HO_476000 HO_482000 HO_489000 BK462 BK475 BK481 BK488 HB hHeld ⊢
            refine take_ (i := 0) (N := some 45) (v := ?_) (a' := ?_) #[true, false, false, false, false] rfl rfl (by kernel_rfl) (fun _ _ _ h => h) (Or.inl ⟨by rfl, ?_⟩) hHeld ?_ ?_;rotate_left
            · rintro w' ⟨s0, s1, s2, s3, s4, s5⟩
              go_simp
              with_reducible rfl
            rotate_left
            · simp only [Act.put, List.setIfInBounds_toArray, List.set_cons_zero, List.set_cons_succ, i64_w, i32_w]
              rfl
            refine take_ (i := 1) (N := some 46) (v := ?_) (a' := ?_) #[true, true, false, false, false] rfl rfl (by kernel_rfl) (fun _ _ _ h => h) (Or.inl ⟨by rfl, ?_⟩) hHeld ?_ ?_;rotate_left
            · rintro w' ⟨s0, s1, s2, s3, s4, s5⟩
              go_simp
              with_reducible rfl
            rotate_left
            · simp only [Act.put, List.setIfInBounds_toArray, List.set_cons_zero, List.set_cons_succ, i64_w, i32_w]
              rfl
            refine one_ (i := 2) (N := some 47) #[true, true, true, false, false] rfl rfl (by kernel_rfl) (by decide) (fun K hK => ?_);refine goes_ Try.func14 (by kernel_rfl) rfl #[.agg #[.slice A0_0 l0_0.length c0_0, .int .i64 a0_1, .int .i64 a0_2]] (by rfl) rfl rfl q4_1 ?_
            with_reducible refine (laws_toTop.calls kj11 _ _ l0_0 a0_1 a0_2 t490 t493 t494 _ ?side1 ?side2 A57.out).mono ?_
            (case side1 => exact q4_16);(case side2 => exact HC0_0.out);rintro e w177 ⟨v491, rfl, ho0, hb⟩;refine ⟨_, rfl, ?_⟩;have n3_ := Aside0.mk (Kd.R_lower (Kd.R_new' (Kd.R_new' (Kd.R_new' ho0 (Kd.R_lt q4_3)) (Kd.R_lt q4_4)) (Kd.R_lt q4_5)) (below_size q4_0))
            replace HO_476000 := Aside0.mk (Kd.R_elder' q4_3 (Kd.R_base ho0) hb)
            replace HO_482000 := Aside0.mk (Kd.R_elder' q4_4 (Kd.R_base ho0) hb)
            replace HO_489000 := Aside0.mk (Kd.R_elder' q4_5 (Kd.R_base ho0) hb)
            replace BK462 := z4bb BK462 hb
            replace BK475 := z4bb BK475 hb
            replace BK481 := z4bb BK481 hb
            replace BK488 := z4bb BK488 hb
            replace HB := Aside0.mk (below_step q4_0 hb)
            have HO492 := n3_;clear n3_;(try clear hb);(try clear hb2);(try clear hk);(try clear hi);(try clear ho0);obtain ⟨Ao178, co178, eo178⟩ := Kd.R_slice HO492.out;(first | subst eo178 | (injection eo178 with f1_ f2_ f3_; have f4_ := f1_.symm; have f5_ := f3_.symm; clear f1_ f2_ f3_; subst f4_; subst f5_));refine hK.out _ _ ⟨z4bc BK481 0, z4bc BK481 1, z4bc BK481 2, z4bc BK462 0, z4bc BK462 1, z4bc BK462 2⟩ (fun hHeld => ?_);clear hK K;refine norm_ (a' := ?_) ?_ ?_;rotate_left
            · show Act.put _ (some 47) _ = _
              simp only [Act.put, List.setIfInBounds_toArray, List.set_cons_zero, List.set_cons_succ, i64_w, i32_w]
              rfl
            refine one_ (i := 3) (N := some 48) #[true, true, true, true, false] rfl rfl (by kernel_rfl) (by decide) (fun K hK => ?_);refine goes_ Try.func15 (by kernel_rfl) rfl #[.agg #[.slice Ao27 t476.length co27, .int .i64 t479, .int .i64 t480], .agg #[.slice Ao178 t490.length co178, .int .i64 t493, .int .i64 t494]] (by rfl) rfl rfl q4_1 ?_
            with_reducible refine (laws_eqTop.calls kj11 _ _ t476 t479 t480 _ _ t490 t493 t494 false _ ?side1 ?side2 ?side3 ?side4 A58.out).mono ?_
            (case side1 => exact q4_56);(case side2 => exact (Kd.R_reads' HO_482000.out).2.1);(case side3 => exact q4_59);(case side4 => exact (Kd.R_reads' HO492.out).2.1);rintro e w179 ⟨rfl, hb⟩;refine ⟨_, rfl, ?_⟩
            replace HO_476000 := Aside0.mk (Kd.R_below q4_3 hb)
            replace HO_482000 := Aside0.mk (Kd.R_below q4_4 hb)
            replace HO_489000 := Aside0.mk (Kd.R_below q4_5 hb)
            replace HO492 := Aside0.mk (Kd.R_below q4_48 hb)
            replace BK462 := z4bb BK462 hb
            replace BK475 := z4bb BK475 hb
            replace BK481 := z4bb BK481 hb
            replace BK488 := z4bb BK488 hb
            replace HB := Aside0.mk (below_step q4_0 hb)
            (try clear hb);(try clear hb2);(try clear hk);(try clear hi);refine hK.out _ _ ⟨z4bc BK481 0, z4bc BK481 1, z4bc BK481 2, z4bc BK462 0, z4bc BK462 1, z4bc BK462 2⟩ (fun hHeld => ?_);clear hK K;refine norm_ (a' := ?_) ?_ ?_;rotate_left
            · show Act.put _ (some 48) _ = _
              simp only [Act.put, List.setIfInBounds_toArray, List.set_cons_zero, List.set_cons_succ, i64_w, i32_w]
              rfl
            refine pure_ (i := 4) (N := some 49) (v := ?_) (a' := ?_) #[true, true, true, true, true] rfl rfl (by kernel_rfl) (fun _ _ _ h => h) (Or.inl ⟨by rfl, ?_⟩) ?_ ?_;rotate_left
            · intro w'
              go_simp
              with_reducible rfl
            rotate_left
            · simp only [Act.put, List.setIfInBounds_toArray, List.set_cons_zero, List.set_cons_succ, i64_w, i32_w]
              rfl
            refine done_ (by kernel_rfl) ?_
            try go_wp2
            go_ret
            exact ⟨q4_18, q4_0⟩

end Go.Proofs.Ytlobnnakikgcnaa.PA
