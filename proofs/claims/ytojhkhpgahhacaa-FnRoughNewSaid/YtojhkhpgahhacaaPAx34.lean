-- Made by a program of this session (wip/tools/pr2.sh) out of the translation, by way of the printer: shared by the seat's laws.
import Derived.Test.YtojhkhpgahhacaaPAx0
import Derived.Test.YtojhkhpgahhacaaPAx15
import Derived.Test.YtojhkhpgahhacaaPAx25
import Derived.Test.YtojhkhpgahhacaaPAx28
import Derived.Test.YtojhkhpgahhacaaPAx31
import Derived.Test.YtojhkhpgahhacaaPAx32
import Derived.Test.YtojhkhpgahhacaaPAx33
namespace Go.Proofs.Ytojhkhpgahhacaa.PA
open Go.RowKit Go.Proofs.YtojhkhpgahhacaaW.PrintWords Go.Proofs.YtojhkhpgahhacaaW.PrintLast Go.Proofs.YtojhkhpgahhacaaW.PrintMore
attribute [local go_sem] max2_int min2_int max_two min_two max_three min_three max_four min_four   -- for this text's walks alone
set_option linter.unusedVariables false
set_option linter.unusedSimpArgs false

/-! ### laws_FnRoughNew: function 5 -/
def laws_FnRoughNew.j0 : Nat → Int → Int → Bool → List (List Int) → Option (Bool)
  | 0, _, _, _, _ => none
  | k + 1, x4, x5, x31, x443000 => if x31 = true then ((spec_RoughGet.f k x443000 x4).bind fun t445 => (some (x5 == t445))) else ((impl_RoughNew.f k).bind fun t446 => ((impl_RoughAdd.f k t446 x4 5).bind fun bt449 => ((impl_RoughNew.f k).bind fun t454 => ((impl_RoughGet.f k t454 x4).bind fun t457 => (if t457 = 0 then (if bt449.2 = true then ((impl_RoughGet.f k bt449.1 x4).bind fun t458 => (if t458 = 5 then ((impl_RoughAll.f k bt449.1).bind fun t459 => (some (t459 == 5))) else (some false))) else (some false)) else (some false))))))
def laws_FnRoughNew.f (k : Nat) (l0 : List Int) : Option (Bool) := if (l0.length : Int) > 1048576 then (some true) else ((spec_DrawRoughGet.f k l0).bind fun bt438 => ((impl_RoughGet.f k bt438.1 bt438.2).bind fun t443 => ((spec_RoughGet.f k bt438.1 bt438.2).bind fun t444 => (if t443 = t444 then (if bt438.2 < 0 then (laws_FnRoughNew.j0 k bt438.2 t443 true bt438.1) else (laws_FnRoughNew.j0 k bt438.2 t443 (decide (bt438.2 ≥ 64)) bt438.1)) else (laws_FnRoughNew.j0 k bt438.2 t443 true bt438.1)))))
theorem laws_FnRoughNew.mono_l : ∀ k, (∀ y0 y1 y2 y3, LeO (laws_FnRoughNew.j0 k y0 y1 y2 y3) (laws_FnRoughNew.j0 (k + 1) y0 y1 y2 y3))
  | 0 => fun _ _ _ _ r h => by simp [laws_FnRoughNew.j0] at h
  | k + 1 => by
    have ih0 := laws_FnRoughNew.mono_l k
    · intro y0 y1 y2 y3
      unfold laws_FnRoughNew.j0
      repeat' first
      | (with_reducible exact ih0 _ _ _ _)
      | (with_reducible exact impl_RoughAdd.mono _ _ _ _)
      | (with_reducible exact impl_RoughAll.mono _ _)
      | (with_reducible exact impl_RoughGet.mono _ _ _)
      | (with_reducible exact impl_RoughNew.mono _)
      | (with_reducible exact spec_DrawRoughGet.mono _ _)
      | (with_reducible exact spec_RoughGet.mono _ _ _)
      | (with_reducible exact LeO.refl _)
      | (with_reducible exact LeO.none _)
      | (with_reducible refine LeO.ite ?_ ?_)
      | (with_reducible refine LeO.bind ?_ (fun _ => ?_))
      | exact ih0 _ _ _ _
      | exact impl_RoughAdd.mono _ _ _ _
      | exact impl_RoughAll.mono _ _
      | exact impl_RoughGet.mono _ _ _
      | exact impl_RoughNew.mono _
      | exact spec_DrawRoughGet.mono _ _
      | exact spec_RoughGet.mono _ _ _
      | exact LeO.none _
      | refine LeO.ite ?_ ?_
      | refine LeO.bind ?_ (fun _ => ?_)
theorem laws_FnRoughNew.mono : ∀ a0 k, LeO (laws_FnRoughNew.f k a0) (laws_FnRoughNew.f (k + 1) a0) := by
  intro a0 k
  have ih0 := laws_FnRoughNew.mono_l k
  unfold laws_FnRoughNew.f
  repeat' first
      | (with_reducible exact ih0 _ _ _ _)
      | (with_reducible exact impl_RoughAdd.mono _ _ _ _)
      | (with_reducible exact impl_RoughAll.mono _ _)
      | (with_reducible exact impl_RoughGet.mono _ _ _)
      | (with_reducible exact impl_RoughNew.mono _)
      | (with_reducible exact spec_DrawRoughGet.mono _ _)
      | (with_reducible exact spec_RoughGet.mono _ _ _)
      | (with_reducible exact LeO.refl _)
      | (with_reducible exact LeO.none _)
      | (with_reducible refine LeO.ite ?_ ?_)
      | (with_reducible refine LeO.bind ?_ (fun _ => ?_))
      | exact ih0 _ _ _ _
      | exact impl_RoughAdd.mono _ _ _ _
      | exact impl_RoughAll.mono _ _
      | exact impl_RoughGet.mono _ _ _
      | exact impl_RoughNew.mono _
      | exact spec_DrawRoughGet.mono _ _
      | exact spec_RoughGet.mono _ _ _
      | exact LeO.none _
      | refine LeO.ite ?_ ?_
      | refine LeO.bind ?_ (fun _ => ?_)
theorem q5_0 {p : Prop} (h : p := by repeat (first | (with_reducible first | exact HB.out | apply below_alloc | apply pw_below_drewN | apply below_drew1 | refine below_set ?_ GE442.out) | exact HB.out)) : p := h
theorem q5_1 {p : Prop} (h : p := by repeat (first | (with_reducible first | exact HB.out | apply below_alloc | apply pw_below_drewN | apply below_drew1 | refine below_set ?_ GE442.out | refine below_set ?_ GE453.out) | exact HB.out)) : p := h
theorem q5_2 {p : Prop} (h : p := by (with_reducible repeat (first | refine blk_drewN ?_ _ | refine blk_drew ?_ | refine blk_alloc ?_ _)); exact BK442.out) : p := h
theorem q5_3 {p : Prop} (h : p := by (try simp only [List.map_toArray, List.map_cons, List.map_nil]); first | done | rfl | (simp only [List.length_drop, List.length_take]; rfl)) : p := h
theorem q5_4 {p : Prop} (h : p := by (with_reducible repeat (first | apply Kd.Q_alloc | apply Kd.Q_drewN | apply Kd.Q_drew)); exact HO_443000.out) : p := h
theorem q5_5 {p : Prop} (h : p := by (with_reducible repeat (first | apply Kd.S_alloc | apply Kd.S_drewN | apply Kd.S_drew)); exact HO448.out) : p := h
theorem q5_6 {p : Prop} (h : p := by (with_reducible repeat (first | apply Kd.S_alloc | apply Kd.S_drewN | apply Kd.S_drew)); exact HO451.out) : p := h
theorem q5_7 {p : Prop} (h : p := by (with_reducible repeat (first | refine blk_drewN ?_ _ | refine blk_drew ?_ | refine blk_alloc ?_ _)); refine blk_put (cs := #[.slice none 0 0]) ?_ 0 _ rfl; (with_reducible repeat (first | refine blk_drewN ?_ _ | refine blk_drew ?_ | refine blk_alloc ?_ _)); exact BK453.out) : p := h
theorem q5_8 {p : Prop} (h : p := by (with_reducible repeat (first | refine blk_drewN ?_ _ | refine blk_drew ?_ | refine blk_alloc ?_ _)); refine blk_far ?_ NB442_453.out _; (with_reducible repeat (first | refine blk_drewN ?_ _ | refine blk_drew ?_ | refine blk_alloc ?_ _)); exact BK442.out) : p := h
theorem q5_9 {p : Prop} (h : p := by (with_reducible repeat (first | refine blk_drewN ?_ _ | refine blk_drew ?_ | refine blk_alloc ?_ _)); exact BK453.out) : p := h
theorem q5_10 {p : Prop} (h : p := by repeat (first | (with_reducible first | exact HB.out | apply below_alloc | apply pw_below_drewN | apply below_drew1) | exact HB.out)) : p := h
theorem q5_11 {p : Prop} (h : p := by (with_reducible repeat (first | apply Kd.S_alloc | apply Kd.S_drewN | apply Kd.S_drew)); exact HO456.out) : p := h
theorem q5_12 {p : Prop} (h : p := by repeat (first | exact (Kd.S_reads' HO448.out).2.2 | (with_reducible refine Kd.C_alloc ?_ _) | (with_reducible refine Kd.C_drewN ?_ _) | (with_reducible refine Kd.C_drew ?_))) : p := h
theorem q5_13 {p : Prop} (h : p := by repeat (first | exact (Kd.S_reads' HO456.out).2.2 | (with_reducible refine Kd.C_alloc ?_ _) | (with_reducible refine Kd.C_drewN ?_ _) | (with_reducible refine Kd.C_drew ?_))) : p := h
theorem q5_14 {p : Prop} (h : p := by first | rfl | (simp [errW_none, errW_some] <;> rfl) | (simp [*, errW_none, errW_some] <;> rfl)) : p := h
theorem q5_15 {p : Prop} (h : p := by repeat (first | exact (Kd.Q_reads' HO440.out).2.2 | (with_reducible refine Kd.C_alloc ?_ _) | (with_reducible refine Kd.C_drewN ?_ _) | (with_reducible refine Kd.C_drew ?_))) : p := h
theorem q5_16 {p : Prop} (h : p := by repeat (first | exact (Kd.S_reads' HO451.out).2.2 | (with_reducible refine Kd.C_alloc ?_ _) | (with_reducible refine Kd.C_drewN ?_ _) | (with_reducible refine Kd.C_drew ?_))) : p := h
theorem q5_17 {p : Prop} (h : p := by rw [hg]; exact Nat.ne_of_lt (blk_lt (g := gb442) (o := .cells #[.slice Ao8 t438.length co8] 25 (0, 0)) q5_2)) : p := h
theorem q5_18 {p : Prop} (h : p := by rw [hg]; exact Nat.ne_of_gt (blk_lt (g := gb442) (o := .cells #[.slice Ao8 t438.length co8] 25 (0, 0)) q5_2)) : p := h
theorem q5_19 {p : Prop} (h : p := by (with_reducible repeat (first | apply Kd.Q_alloc | apply Kd.Q_drewN | apply Kd.Q_drew)); exact HO440.out) : p := h
theorem q5_20 {p : Prop} (h : p := by (with_reducible repeat (first | apply Kd.Q_alloc | apply Kd.Q_drewN | apply Kd.Q_drew)); exact (Kd.Q_mono (Kd.Q_far (p := ⟨gb453, 0, none⟩) (Kd.Q_types HO_443000.out BK453.out (by decide)) (fun _ hk => hk.2) (.slice Ao37 t449.length co37)) (fun _ h_ => h_.1))) : p := h
theorem q5_21 {p : Prop} (h : p := by (with_reducible repeat (first | apply Kd.Q_alloc | apply Kd.Q_drewN | apply Kd.Q_drew)); exact (Kd.Q_mono (Kd.Q_far (p := ⟨gb453, 0, none⟩) (Kd.Q_types HO_443000.out BK453.out (by decide)) (fun _ hk => hk.2) (.slice Ao51 t449.length co51)) (fun _ h_ => h_.1))) : p := h
theorem q5_22 {p : Prop} (h : p := by (with_reducible repeat (first | apply Kd.Q_alloc | apply Kd.Q_drewN | apply Kd.Q_drew)); exact (Kd.Q_mono (Kd.Q_far (p := ⟨gb453, 0, none⟩) (Kd.Q_types HO_443000.out BK453.out (by decide)) (fun _ hk => hk.2) (.slice Ao63 t449.length co63)) (fun _ h_ => h_.1))) : p := h
theorem q5_23 {p : Prop} (h : p := by (with_reducible repeat (first | apply Kd.Q_alloc | apply Kd.Q_drewN | apply Kd.Q_drew)); exact (Kd.Q_mono (Kd.Q_far (p := ⟨gb453, 0, none⟩) (Kd.Q_types HO_443000.out BK453.out (by decide)) (fun _ hk => hk.2) (.slice Ao73 t449.length co73)) (fun _ h_ => h_.1))) : p := h
theorem q5_24 {p : Prop} (h : p := by (with_reducible repeat (first | apply Kd.S_alloc | apply Kd.S_drewN | apply Kd.S_drew)); exact (Kd.S_mono (Kd.S_far (p := ⟨gb453, 0, none⟩) (Kd.S_types HO448.out BK453.out (by decide)) (fun _ hk => hk.2) (.slice Ao37 t449.length co37)) (fun _ h_ => h_.1))) : p := h
theorem q5_25 {p : Prop} (h : p := by (with_reducible repeat (first | apply Kd.S_alloc | apply Kd.S_drewN | apply Kd.S_drew)); exact (Kd.S_mono (Kd.S_far (p := ⟨gb453, 0, none⟩) (Kd.S_types HO451.out BK453.out (by decide)) (fun _ hk => hk.2) (.slice Ao37 t449.length co37)) (fun _ h_ => h_.1))) : p := h
theorem q5_26 {p : Prop} (h : p := by (with_reducible repeat (first | apply Kd.S_alloc | apply Kd.S_drewN | apply Kd.S_drew)); exact (Kd.S_mono (Kd.S_far (p := ⟨gb453, 0, none⟩) (Kd.S_types HO448.out BK453.out (by decide)) (fun _ hk => hk.2) (.slice Ao51 t449.length co51)) (fun _ h_ => h_.1))) : p := h
theorem q5_27 {p : Prop} (h : p := by (with_reducible repeat (first | apply Kd.S_alloc | apply Kd.S_drewN | apply Kd.S_drew)); exact (Kd.S_mono (Kd.S_far (p := ⟨gb453, 0, none⟩) (Kd.S_types HO451.out BK453.out (by decide)) (fun _ hk => hk.2) (.slice Ao51 t449.length co51)) (fun _ h_ => h_.1))) : p := h
theorem q5_28 {p : Prop} (h : p := by (with_reducible repeat (first | apply Kd.S_alloc | apply Kd.S_drewN | apply Kd.S_drew)); exact (Kd.S_mono (Kd.S_far (p := ⟨gb453, 0, none⟩) (Kd.S_types HO448.out BK453.out (by decide)) (fun _ hk => hk.2) (.slice Ao63 t449.length co63)) (fun _ h_ => h_.1))) : p := h
theorem q5_29 {p : Prop} (h : p := by (with_reducible repeat (first | apply Kd.S_alloc | apply Kd.S_drewN | apply Kd.S_drew)); exact (Kd.S_mono (Kd.S_far (p := ⟨gb453, 0, none⟩) (Kd.S_types HO451.out BK453.out (by decide)) (fun _ hk => hk.2) (.slice Ao63 t449.length co63)) (fun _ h_ => h_.1))) : p := h
theorem q5_30 {p : Prop} (h : p := by (with_reducible repeat (first | apply Kd.S_alloc | apply Kd.S_drewN | apply Kd.S_drew)); exact (Kd.S_mono (Kd.S_far (p := ⟨gb453, 0, none⟩) (Kd.S_types HO448.out BK453.out (by decide)) (fun _ hk => hk.2) (.slice Ao73 t449.length co73)) (fun _ h_ => h_.1))) : p := h
theorem q5_31 {p : Prop} (h : p := by (with_reducible repeat (first | apply Kd.S_alloc | apply Kd.S_drewN | apply Kd.S_drew)); exact (Kd.S_mono (Kd.S_far (p := ⟨gb453, 0, none⟩) (Kd.S_types HO451.out BK453.out (by decide)) (fun _ hk => hk.2) (.slice Ao73 t449.length co73)) (fun _ h_ => h_.1))) : p := h
theorem q5_32 {p : Prop} (h : p := by (with_reducible repeat (first | apply Kd.Q_alloc | apply Kd.Q_drewN | apply Kd.Q_drew)); exact (Kd.Q_mono (Kd.Q_far (p := ⟨gb442, 0, none⟩) (Kd.Q_types HO440.out BK442.out (by decide)) (fun _ hk => hk.2) (.slice Ao8 t438.length co8)) (fun _ h_ => h_.1))) : p := h
theorem q5_33 {p : Prop} (h : p := by rw [hg]; exact (below_size q5_0)) : p := h
theorem q5_34 {p : Prop} (h : p := by first | (go_simp; done) | (go_simp; rfl)) : p := h
set_option maxHeartbeats 8000000 in
set_option maxRecDepth 100000 in
theorem laws_FnRoughNew.calls (k : Nat) (A0 : Option Addr) (c0 : Nat) (l0 : List Int) (r : Bool) (w : World) (hr0 : Kd.C (Kd.int .u8) w A0 l0.length l0) (hc0 : l0.length ≤ c0) (h : laws_FnRoughNew.f k l0 = some r) :
    Calls Try.prog 5 #[.slice A0 l0.length c0] w fun e w' => e = .returned (.bool r) ∧ Below w.heap.size w w' := by
  have hu25 := Try.underlying25
  have HR0 := Aside0.mk hr0
  have HC0 := Aside0.mk hc0
  clear hr0 hc0
  have HB := Aside0.mk (Below.refl w.heap.size w)
  have H : (if (l0.length : Int) > 1048576 then (some true) else ((spec_DrawRoughGet.f k l0).bind fun bt438 => ((impl_RoughGet.f k bt438.1 bt438.2).bind fun t443 => ((spec_RoughGet.f k bt438.1 bt438.2).bind fun t444 => (if t443 = t444 then (if bt438.2 < 0 then (laws_FnRoughNew.j0 k bt438.2 t443 true bt438.1) else (laws_FnRoughNew.j0 k bt438.2 t443 (decide (bt438.2 ≥ 64)) bt438.1)) else (laws_FnRoughNew.j0 k bt438.2 t443 true bt438.1)))))) = some r := h
  clear h
  by_cases c2 : (l0.length : Int) > 1048576
  · rw [if_pos c2] at H
    have c2b0 : decide (1048576 < (l0.length : Int)) = true := decide_eq_true c2
    have c2b1 : decide (1048576 < l0.length) = true := decide_eq_true (by omega)
    clear c2
    obtain rfl := Option.some.inj H
    go_enter Try.func5, Try.ntmps5
    go_wp2
    go_ret
    exact ⟨q5_14, q5_10⟩
  · rw [if_neg c2] at H
    have c2b0 : decide (1048576 < (l0.length : Int)) = false := decide_eq_false c2
    have c2b1 : decide (1048576 < l0.length) = false := decide_eq_false (by omega)
    clear c2
    replace H := Option.bind_eq_some_iff.mp H
    obtain ⟨⟨t438, t441⟩, A30, H⟩ := H
    replace H : ((impl_RoughGet.f k t438 t441).bind fun t443 => ((spec_RoughGet.f k t438 t441).bind fun t444 => (if t443 = t444 then (if t441 < 0 then (laws_FnRoughNew.j0 k t441 t443 true t438) else (laws_FnRoughNew.j0 k t441 t443 (decide (t441 ≥ 64)) t438)) else (laws_FnRoughNew.j0 k t441 t443 true t438)))) = some r := H
    have A3 := Aside0.mk A30
    clear A30
    replace H := Option.bind_eq_some_iff.mp H
    obtain ⟨t443, A40, H⟩ := H
    replace H : ((spec_RoughGet.f k t438 t441).bind fun t444 => (if t443 = t444 then (if t441 < 0 then (laws_FnRoughNew.j0 k t441 t443 true t438) else (laws_FnRoughNew.j0 k t441 t443 (decide (t441 ≥ 64)) t438)) else (laws_FnRoughNew.j0 k t441 t443 true t438))) = some r := H
    have A4 := Aside0.mk A40
    clear A40
    have HC5 := Aside0.mk H
    clear H
    go_enter Try.func5, Try.ntmps5
    go_upto_region 5 with (first | ((with_reducible refine gate_callee (f := 19) rfl ?_); refine goesL_ (some 13) rfl rfl Try.func19 (by kernel_rfl) rfl #[.slice A0 l0.length c0] rfl q5_3 ?_; (with_reducible refine (spec_DrawRoughGet.calls k _ _ l0 t438 t441 _ ?side1 ?side2 A3.out).mono ?_); (case side1 => repeat (first | exact HR0.out | (with_reducible refine Kd.C_alloc ?_ _) | (with_reducible refine Kd.C_drewN ?_ _) | (with_reducible refine Kd.C_drew ?_))); (case side2 => exact HC0.out); rintro e w6 ⟨v439, rfl, ho0, hb⟩; refine ⟨_, rfl, ?_⟩; have n0_ := Aside0.mk (Kd.Q_lower ho0 (below_size q5_10)); have n1_ := Aside0.mk (below_step q5_10 hb); clear HB; have HO440 := n0_; have HB := n1_; clear n0_ n1_; (try clear hb); (try clear hb2); (try clear hk); (try clear hi); (try clear ho0)) | ((with_reducible refine gate_dst (N := 3) rfl ?_); refine box_event ?hg (N := 3) ?hd (cs := #[.slice none 0 0]) (t := 25) ?hr ?_; (case hd => rfl); (case hg => rfl); (case hr => exact q5_34); intro gb442 hg w7 hbox hb; have n0_ := Aside0.mk (Kd.Q_below q5_19 hb); have n1_ := Aside0.mk (below_step q5_10 hb); have n2_ := Aside0.mk (hbox); have n3_ := Aside0.mk ((by rw [hg]; exact (below_size q5_10) : w.heap.size ≤ gb442)); have n4_ := Aside0.mk ((by rw [hg]; exact (below_size q5_10) : w.heap.size ≤ gb442)); clear HO440; clear HB; have HO440 := n0_; have HB := n1_; have BK442 := n2_; have GW442 := n3_; have GE442 := n4_; clear n0_ n1_ n2_ n3_ n4_; clear hb hbox hg; obtain ⟨Ao8, co8, eo8, _⟩ := Kd.Q_slice HO440.out; subst eo8; have hcz9_0 : w7.cell? ⟨gb442, 0, none⟩ = some (.slice none 0 0) := (blk_cell BK442.out 0).trans rfl; have hfz9_0 := blk_frozen BK442.out 0) | ((with_reducible refine gate_callee (f := 20) rfl ?_); refine goesL_ (some 18) rfl rfl Try.func20 (by kernel_rfl) rfl #[.agg #[.slice Ao8 t438.length co8], .int .i64 t441] rfl q5_3 ?_; (with_reducible refine (impl_RoughGet.calls k _ _ t438 t441 t443 _ ?side1 ?side2 A4.out).mono ?_); (case side1 => refine (Kd.Q_reads' (e := 43) (base := w.heap.size) (ok := fun k_ => True) (n := t438.length) (c := co8) ?_).2.2; exact q5_32); (case side2 => exact (Kd.Q_reads' HO440.out).2.1); rintro e w10 ⟨rfl, hb⟩; refine ⟨_, rfl, ?_⟩; have n0_ := Aside0.mk (Kd.Q_below q5_32 hb); have n1_ := Aside0.mk (blk_below (g := gb442) (o := .cells #[.slice Ao8 t438.length co8] 25 (0, 0)) (by (with_reducible repeat (first | refine blk_drewN ?_ _ | refine blk_drew ?_ | refine blk_alloc ?_ _)); refine blk_put (cs := #[.slice none 0 0]) ?_ 0 _ rfl; (with_reducible repeat (first | refine blk_drewN ?_ _ | refine blk_drew ?_ | refine blk_alloc ?_ _)); exact BK442.out) hb); have n2_ := Aside0.mk (below_step q5_0 hb); clear HO440; clear BK442; clear HB; have HO440 := n0_; have BK442 := n1_; have HB := n2_; clear n0_ n1_ n2_; (try clear hb); (try clear hb2); (try clear hk); (try clear hi)))
    (try simp only [Act.put, List.setIfInBounds_toArray, List.set_cons_zero, List.set_cons_succ])
    go_cut [31] (fun v31 wc => ∃ (kq : Nat) (x31_4 : Bool), v31 = .bool x31_4 ∧ Aside0 (laws_FnRoughNew.j0 kq t441 t443 x31_4 t438 = some r) ∧ Aside0 (kq ≤ k) ∧ Aside0 (Kd.Q (Kd.slice 3 (Kd.int .i64)) 43 wc w.heap.size (fun _ => True) (.slice Ao8 t438.length co8) t438) ∧ Aside0 (wc.heap[gb442]? = some (.cells #[(.slice Ao8 t438.length co8)] 25 (0, 0))) ∧ Aside0 (Below w.heap.size w wc))
    case first =>
      have H := HC5.out
      clear HC5
      replace H := Option.bind_eq_some_iff.mp H
      obtain ⟨t444, A110, H⟩ := H
      replace H : (if t443 = t444 then (if t441 < 0 then (laws_FnRoughNew.j0 k t441 t443 true t438) else (laws_FnRoughNew.j0 k t441 t443 (decide (t441 ≥ 64)) t438)) else (laws_FnRoughNew.j0 k t441 t443 true t438)) = some r := H
      have A11 := Aside0.mk A110
      clear A110
      by_cases c12 : t443 = t444
      · rw [if_pos c12] at H
        have c12b0 : (t443 == t444) = true := beq_iff_eq.mpr c12
        have c12b1 : (t443 != t444) = false := bne_eq_false_iff_eq.mpr c12
        clear c12
        (first | rw [c12b0] | (simp only [i64_w, i32_w]; rw [c12b0]) | skip)
        by_cases c13 : t441 < 0
        · rw [if_pos c13] at H
          have c13b0 : decide (t441 < 0) = true := decide_eq_true c13
          clear c13
          have H' := Aside0.mk H
          clear H
          have hcz14_0 : w10.cell? ⟨gb442, 0, none⟩ = some (.slice Ao8 t438.length co8) := (blk_cell BK442.out 0).trans rfl
          have hfz14_0 := blk_frozen BK442.out 0
          go_wp2_with (first | ((with_reducible refine gate_callee (f := 21) rfl ?_); refine goesL_ (some 22) rfl rfl Try.func21 (by kernel_rfl) rfl #[.agg #[.slice Ao8 t438.length co8], .int .i64 t441] rfl q5_3 ?_; (with_reducible refine (spec_RoughGet.calls k _ _ t438 t441 t444 _ ?side1 ?side2 A11.out).mono ?_); (case side1 => exact q5_15); (case side2 => exact (Kd.Q_reads' HO440.out).2.1); rintro e w15 ⟨rfl, hb⟩; refine ⟨_, rfl, ?_⟩; have n0_ := Aside0.mk (Kd.Q_below q5_19 hb); have n1_ := Aside0.mk (blk_below (g := gb442) (o := .cells #[.slice Ao8 t438.length co8] 25 (0, 0)) q5_2 hb); have n2_ := Aside0.mk (below_step q5_0 hb); clear HO440; clear BK442; clear HB; have HO440 := n0_; have BK442 := n1_; have HB := n2_; clear n0_ n1_ n2_; (try clear hb); (try clear hb2); (try clear hk); (try clear hi)))
          go_meet
          case rel => exact ⟨_, (true), (by first | rfl | (simp; done) | (simp [*]; done)), H', ⟨by first | omega | exact Nat.le_refl _⟩, ⟨by (with_reducible repeat (first | apply Kd.Q_alloc | apply Kd.Q_drewN | apply Kd.Q_drew)); exact HO440.out⟩, ⟨by (with_reducible repeat (first | refine blk_drewN ?_ _ | refine blk_drew ?_ | refine blk_alloc ?_ _)); exact BK442.out⟩, ⟨q5_0⟩⟩
        · rw [if_neg c13] at H
          have c13b0 : decide (t441 < 0) = false := decide_eq_false c13
          clear c13
          have H' := Aside0.mk H
          clear H
          have hcz16_0 : w10.cell? ⟨gb442, 0, none⟩ = some (.slice Ao8 t438.length co8) := (blk_cell BK442.out 0).trans rfl
          have hfz16_0 := blk_frozen BK442.out 0
          go_wp2_with (first | ((with_reducible refine gate_callee (f := 21) rfl ?_); refine goesL_ (some 22) rfl rfl Try.func21 (by kernel_rfl) rfl #[.agg #[.slice Ao8 t438.length co8], .int .i64 t441] rfl q5_3 ?_; (with_reducible refine (spec_RoughGet.calls k _ _ t438 t441 t444 _ ?side1 ?side2 A11.out).mono ?_); (case side1 => exact q5_15); (case side2 => exact (Kd.Q_reads' HO440.out).2.1); rintro e w17 ⟨rfl, hb⟩; refine ⟨_, rfl, ?_⟩; have n0_ := Aside0.mk (Kd.Q_below q5_19 hb); have n1_ := Aside0.mk (blk_below (g := gb442) (o := .cells #[.slice Ao8 t438.length co8] 25 (0, 0)) q5_2 hb); have n2_ := Aside0.mk (below_step q5_0 hb); clear HO440; clear BK442; clear HB; have HO440 := n0_; have BK442 := n1_; have HB := n2_; clear n0_ n1_ n2_; (try clear hb); (try clear hb2); (try clear hk); (try clear hi)))
          go_meet
          case rel => exact ⟨_, (decide (t441 ≥ 64)), (by first | rfl | (simp; done) | (simp [*]; done)), H', ⟨by first | omega | exact Nat.le_refl _⟩, ⟨by (with_reducible repeat (first | apply Kd.Q_alloc | apply Kd.Q_drewN | apply Kd.Q_drew)); exact HO440.out⟩, ⟨by (with_reducible repeat (first | refine blk_drewN ?_ _ | refine blk_drew ?_ | refine blk_alloc ?_ _)); exact BK442.out⟩, ⟨q5_0⟩⟩
      · rw [if_neg c12] at H
        have c12b0 : (t443 == t444) = false := beq_eq_false_iff_ne.mpr c12
        have c12b1 : (t443 != t444) = true := bne_iff_ne.mpr c12
        (first | rw [c12b0] | (simp only [i64_w, i32_w]; rw [c12b0]) | skip)
        have H' := Aside0.mk H
        clear H
        have hcz18_0 : w10.cell? ⟨gb442, 0, none⟩ = some (.slice Ao8 t438.length co8) := (blk_cell BK442.out 0).trans rfl
        have hfz18_0 := blk_frozen BK442.out 0
        go_wp2_with (first | ((with_reducible refine gate_callee (f := 21) rfl ?_); refine goesL_ (some 22) rfl rfl Try.func21 (by kernel_rfl) rfl #[.agg #[.slice Ao8 t438.length co8], .int .i64 t441] rfl q5_3 ?_; (with_reducible refine (spec_RoughGet.calls k _ _ t438 t441 t444 _ ?side1 ?side2 A11.out).mono ?_); (case side1 => exact q5_15); (case side2 => exact (Kd.Q_reads' HO440.out).2.1); rintro e w19 ⟨rfl, hb⟩; refine ⟨_, rfl, ?_⟩; have n0_ := Aside0.mk (Kd.Q_below q5_19 hb); have n1_ := Aside0.mk (blk_below (g := gb442) (o := .cells #[.slice Ao8 t438.length co8] 25 (0, 0)) q5_2 hb); have n2_ := Aside0.mk (below_step q5_0 hb); clear HO440; clear BK442; clear HB; have HO440 := n0_; have BK442 := n1_; have HB := n2_; clear n0_ n1_ n2_; (try clear hb); (try clear hb2); (try clear hk); (try clear hi)))
        go_meet
        case rel => exact ⟨_, (true), (by first | rfl | (simp; done) | (simp [*]; done)), H', ⟨by first | omega | exact Nat.le_refl _⟩, ⟨by (with_reducible repeat (first | apply Kd.Q_alloc | apply Kd.Q_drewN | apply Kd.Q_drew)); exact HO440.out⟩, ⟨by (with_reducible repeat (first | refine blk_drewN ?_ _ | refine blk_drew ?_ | refine blk_alloc ?_ _)); exact BK442.out⟩, ⟨q5_0⟩⟩
    case rest =>
      clear HC5
      try clear c1
      try clear c2
      try clear c2b0
      try clear c2b1
      try clear p2
      try clear c5
      try clear c12
      try clear c12b0
      try clear c12b1
      try clear c13
      try clear c13b0
      try clear c19
      try clear hcz14_0
      try clear hcz16_0
      try clear hcz18_0
      try clear hcz9_0
      try clear hfz14_0
      try clear hfz16_0
      try clear hfz18_0
      try clear hfz9_0
      obtain ⟨kq, x31_4, rfl, HA, HJ4, HO_443000, BK442, HB⟩ := hcut
      cases kq with
      | zero => exact absurd HA.out (by simp [laws_FnRoughNew.j0])
      | succ kj4 =>
        have H := HA.out
        clear HA
        simp only [laws_FnRoughNew.j0] at H
        by_cases c20 : x31_4 = true
        · subst c20
          have H1 : ((spec_RoughGet.f kj4 t438 t441).bind fun t445 => (some (t443 == t445))) = some r := by rw [if_pos rfl] at H; exact H
          clear H
          have H := H1
          clear H1
          replace H := Option.bind_eq_some_iff.mp H
          obtain ⟨t445, A210, H⟩ := H
          replace H : (some (t443 == t445)) = some r := H
          have A21 := Aside0.mk A210
          clear A210
          obtain rfl := Option.some.inj H
          have hcz22_0 : wc.cell? ⟨gb442, 0, none⟩ = some (.slice Ao8 t438.length co8) := (blk_cell BK442.out 0).trans rfl
          have hfz22_0 := blk_frozen BK442.out 0
          go_wp2_with (first | ((with_reducible refine gate_callee (f := 21) rfl ?_); refine goesL_ (some 35) rfl rfl Try.func21 (by kernel_rfl) rfl #[.agg #[.slice Ao8 t438.length co8], .int .i64 t441] rfl q5_3 ?_; (with_reducible refine (spec_RoughGet.calls kj4 _ _ t438 t441 t445 _ ?side1 ?side2 A21.out).mono ?_); (case side1 => repeat (first | exact (Kd.Q_reads' HO_443000.out).2.2 | (with_reducible refine Kd.C_alloc ?_ _) | (with_reducible refine Kd.C_drewN ?_ _) | (with_reducible refine Kd.C_drew ?_))); (case side2 => exact (Kd.Q_reads' HO_443000.out).2.1); rintro e w23 ⟨rfl, hb⟩; refine ⟨_, rfl, ?_⟩; have n0_ := Aside0.mk (Kd.Q_below q5_4 hb); have n1_ := Aside0.mk (blk_below (g := gb442) (o := .cells #[.slice Ao8 t438.length co8] 25 (0, 0)) q5_2 hb); have n2_ := Aside0.mk (below_step q5_0 hb); clear HO_443000; clear BK442; clear HB; have HO_443000 := n0_; have BK442 := n1_; have HB := n2_; clear n0_ n1_ n2_; (try clear hb); (try clear hb2); (try clear hk); (try clear hi)))
          go_ret
          exact ⟨q5_14, q5_0⟩
        · replace c20 := Bool.eq_false_iff.mpr c20
          subst c20
          have H1 : ((impl_RoughNew.f kj4).bind fun t446 => ((impl_RoughAdd.f kj4 t446 t441 5).bind fun bt449 => ((impl_RoughNew.f kj4).bind fun t454 => ((impl_RoughGet.f kj4 t454 t441).bind fun t457 => (if t457 = 0 then (if bt449.2 = true then ((impl_RoughGet.f kj4 bt449.1 t441).bind fun t458 => (if t458 = 5 then ((impl_RoughAll.f kj4 bt449.1).bind fun t459 => (some (t459 == 5))) else (some false))) else (some false)) else (some false)))))) = some r := by rw [if_neg (show ¬ (false = true) by decide)] at H; exact H
          clear H
          have H := H1
          clear H1
          replace H := Option.bind_eq_some_iff.mp H
          obtain ⟨t446, A240, H⟩ := H
          replace H : ((impl_RoughAdd.f kj4 t446 t441 5).bind fun bt449 => ((impl_RoughNew.f kj4).bind fun t454 => ((impl_RoughGet.f kj4 t454 t441).bind fun t457 => (if t457 = 0 then (if bt449.2 = true then ((impl_RoughGet.f kj4 bt449.1 t441).bind fun t458 => (if t458 = 5 then ((impl_RoughAll.f kj4 bt449.1).bind fun t459 => (some (t459 == 5))) else (some false))) else (some false)) else (some false))))) = some r := H
          have A24 := Aside0.mk A240
          clear A240
          replace H := Option.bind_eq_some_iff.mp H
          obtain ⟨⟨t449, t452⟩, A250, H⟩ := H
          replace H : ((impl_RoughNew.f kj4).bind fun t454 => ((impl_RoughGet.f kj4 t454 t441).bind fun t457 => (if t457 = 0 then (if t452 = true then ((impl_RoughGet.f kj4 t449 t441).bind fun t458 => (if t458 = 5 then ((impl_RoughAll.f kj4 t449).bind fun t459 => (some (t459 == 5))) else (some false))) else (some false)) else (some false)))) = some r := H
          have A25 := Aside0.mk A250
          clear A250
          replace H := Option.bind_eq_some_iff.mp H
          obtain ⟨t454, A260, H⟩ := H
          replace H : ((impl_RoughGet.f kj4 t454 t441).bind fun t457 => (if t457 = 0 then (if t452 = true then ((impl_RoughGet.f kj4 t449 t441).bind fun t458 => (if t458 = 5 then ((impl_RoughAll.f kj4 t449).bind fun t459 => (some (t459 == 5))) else (some false))) else (some false)) else (some false))) = some r := H
          have A26 := Aside0.mk A260
          clear A260
          replace H := Option.bind_eq_some_iff.mp H
          obtain ⟨t457, A270, H⟩ := H
          replace H : (if t457 = 0 then (if t452 = true then ((impl_RoughGet.f kj4 t449 t441).bind fun t458 => (if t458 = 5 then ((impl_RoughAll.f kj4 t449).bind fun t459 => (some (t459 == 5))) else (some false))) else (some false)) else (some false)) = some r := H
          have A27 := Aside0.mk A270
          clear A270
          by_cases c28 : t457 = 0
          · rw [if_pos c28] at H
            have c28b0 : (t457 == 0) = true := beq_iff_eq.mpr c28
            have c28b1 : (t457 != 0) = false := bne_eq_false_iff_eq.mpr c28
            clear c28
            by_cases c29 : t452 = true
            · subst c29
              have H1 : ((impl_RoughGet.f kj4 t449 t441).bind fun t458 => (if t458 = 5 then ((impl_RoughAll.f kj4 t449).bind fun t459 => (some (t459 == 5))) else (some false))) = some r := by rw [if_pos rfl] at H; exact H
              clear H
              have H := H1
              clear H1
              replace H := Option.bind_eq_some_iff.mp H
              obtain ⟨t458, A300, H⟩ := H
              replace H : (if t458 = 5 then ((impl_RoughAll.f kj4 t449).bind fun t459 => (some (t459 == 5))) else (some false)) = some r := H
              have A30 := Aside0.mk A300
              clear A300
              by_cases c31 : t458 = 5
              · rw [if_pos c31] at H
                have c31b0 : (t458 == 5) = true := beq_iff_eq.mpr c31
                have c31b1 : (t458 != 5) = false := bne_eq_false_iff_eq.mpr c31
                clear c31
                replace H := Option.bind_eq_some_iff.mp H
                obtain ⟨t459, A320, H⟩ := H
                replace H : (some (t459 == 5)) = some r := H
                have A32 := Aside0.mk A320
                clear A320
                obtain rfl := Option.some.inj H
                go_wp2_with (first | ((with_reducible refine gate_callee (f := 16) rfl ?_); refine goesL_ (some 38) rfl rfl Try.func16 (by kernel_rfl) rfl #[] rfl q5_3 ?_; (with_reducible refine (impl_RoughNew.calls kj4  t446 _ A24.out).mono ?_); rintro e w33 ⟨v447, rfl, ho0, hb⟩; refine ⟨_, rfl, ?_⟩; have n0_ := Aside0.mk (Kd.Q_elder' q5_4 (Kd.S_base ho0) hb); have n1_ := Aside0.mk (Kd.S_lower (Kd.S_new' ho0 (Kd.Q_lt q5_4)) (below_size q5_0)); have n2_ := Aside0.mk (blk_below (g := gb442) (o := .cells #[.slice Ao8 t438.length co8] 25 (0, 0)) q5_2 hb); have n3_ := Aside0.mk (below_step q5_0 hb); clear HO_443000; clear BK442; clear HB; have HO_443000 := n0_; have HO448 := n1_; have BK442 := n2_; have HB := n3_; clear n0_ n1_ n2_ n3_; (try clear hb); (try clear hb2); (try clear hk); (try clear hi); (try clear ho0); obtain ⟨Ao34, co34, eo34⟩ := Kd.S_slice HO448.out; subst eo34) | ((with_reducible refine gate_callee (f := 22) rfl ?_); refine goesL_ (some 40) rfl rfl Try.func22 (by kernel_rfl) rfl #[.agg #[.slice Ao34 t446.length co34], .int .i64 t441, .int .i64 5] rfl q5_3 ?_; (with_reducible refine (impl_RoughAdd.calls kj4 _ _ t446 t441 5 t449 true _ ?side1 ?side2 A25.out).mono ?_); (case side1 => exact q5_12); (case side2 => exact (Kd.S_reads' HO448.out).2.1); rintro e w35 ⟨v450, rfl, ho0, hb⟩; refine ⟨_, rfl, ?_⟩; have n0_ := Aside0.mk (Kd.Q_elder' q5_4 (Kd.S_base ho0) hb); have n1_ := Aside0.mk (Kd.S_elder' q5_5 (Kd.S_base ho0) hb); have n2_ := Aside0.mk (Kd.S_lower (Kd.S_new' (Kd.S_new' ho0 (Kd.Q_lt q5_4)) (Kd.S_lt q5_5)) (below_size q5_0)); have n3_ := Aside0.mk (blk_below (g := gb442) (o := .cells #[.slice Ao8 t438.length co8] 25 (0, 0)) q5_2 hb); have n4_ := Aside0.mk (below_step q5_0 hb); clear HO_443000; clear HO448; clear BK442; clear HB; have HO_443000 := n0_; have HO448 := n1_; have HO451 := n2_; have BK442 := n3_; have HB := n4_; clear n0_ n1_ n2_ n3_ n4_; (try clear hb); (try clear hb2); (try clear hk); (try clear hi); (try clear ho0)) | ((with_reducible refine gate_dst (N := 6) rfl ?_); refine box_event ?hg (N := 6) ?hd (cs := #[.slice none 0 0]) (t := 25) ?hr ?_; (case hd => rfl); (case hg => rfl); (case hr => exact q5_34); intro gb453 hg w36 hbox hb; have n0_ := Aside0.mk (Kd.Q_below q5_4 hb); have n1_ := Aside0.mk (Kd.S_below q5_5 hb); have n2_ := Aside0.mk (Kd.S_below q5_6 hb); have n3_ := Aside0.mk (blk_below (g := gb442) (o := .cells #[.slice Ao8 t438.length co8] 25 (0, 0)) q5_2 hb); have n4_ := Aside0.mk (below_step q5_0 hb); have n5_ := Aside0.mk (hbox); have n6_ := Aside0.mk ((q5_33 : w.heap.size ≤ gb453)); have n7_ := Aside0.mk ((q5_33 : w.heap.size ≤ gb453)); have n8_ := Aside0.mk ((q5_17 : gb442 ≠ gb453)); have n9_ := Aside0.mk ((q5_18 : gb453 ≠ gb442)); clear HO_443000; clear HO448; clear HO451; clear BK442; clear HB; have HO_443000 := n0_; have HO448 := n1_; have HO451 := n2_; have BK442 := n3_; have HB := n4_; have BK453 := n5_; have GW453 := n6_; have GE453 := n7_; have NB442_453 := n8_; have NB453_442 := n9_; clear n0_ n1_ n2_ n3_ n4_ n5_ n6_ n7_ n8_ n9_; clear hb hbox hg; obtain ⟨Ao37, co37, eo37⟩ := Kd.S_slice HO451.out; subst eo37; have hnb38 := NB453_442.out; have hnc38 := NB442_453.out; have hcz39_0 : w36.cell? ⟨gb453, 0, none⟩ = some (.slice none 0 0) := (blk_cell BK453.out 0).trans rfl; have hfz39_0 := blk_frozen BK453.out 0) | ((with_reducible refine gate_callee (f := 16) rfl ?_); refine goesL_ (some 43) rfl rfl Try.func16 (by kernel_rfl) rfl #[] rfl q5_3 ?_; (with_reducible refine (impl_RoughNew.calls kj4  t454 _ A26.out).mono ?_); rintro e w40 ⟨v455, rfl, ho0, hb⟩; refine ⟨_, rfl, ?_⟩; have n0_ := Aside0.mk (Kd.Q_elder' q5_20 (Kd.S_base ho0) hb); have n1_ := Aside0.mk (Kd.S_elder' q5_24 (Kd.S_base ho0) hb); have n2_ := Aside0.mk (Kd.S_elder' q5_25 (Kd.S_base ho0) hb); have n3_ := Aside0.mk (Kd.S_lower (Kd.S_new' (Kd.S_new' (Kd.S_new' ho0 (Kd.Q_lt q5_20)) (Kd.S_lt q5_24)) (Kd.S_lt q5_25)) (below_size q5_1)); have n4_ := Aside0.mk (blk_below (g := gb442) (o := .cells #[.slice Ao8 t438.length co8] 25 (0, 0)) q5_8 hb); have n5_ := Aside0.mk (blk_below (g := gb453) (o := .cells #[.slice Ao37 t449.length co37] 25 (0, 0)) q5_7 hb); have n6_ := Aside0.mk (below_step q5_1 hb); clear HO_443000; clear HO448; clear HO451; clear BK442; clear BK453; clear HB; have HO_443000 := n0_; have HO448 := n1_; have HO451 := n2_; have HO456 := n3_; have BK442 := n4_; have BK453 := n5_; have HB := n6_; clear n0_ n1_ n2_ n3_ n4_ n5_ n6_; (try clear hb); (try clear hb2); (try clear hk); (try clear hi); (try clear ho0); obtain ⟨Ao41, co41, eo41⟩ := Kd.S_slice HO456.out; subst eo41) | ((with_reducible refine gate_callee (f := 20) rfl ?_); refine goesL_ (some 45) rfl rfl Try.func20 (by kernel_rfl) rfl #[.agg #[.slice Ao41 t454.length co41], .int .i64 t441] rfl q5_3 ?_; (with_reducible refine (impl_RoughGet.calls kj4 _ _ t454 t441 t457 _ ?side1 ?side2 A27.out).mono ?_); (case side1 => exact q5_13); (case side2 => exact (Kd.S_reads' HO456.out).2.1); rintro e w42 ⟨rfl, hb⟩; refine ⟨_, rfl, ?_⟩; have n0_ := Aside0.mk (Kd.Q_below q5_4 hb); have n1_ := Aside0.mk (Kd.S_below q5_5 hb); have n2_ := Aside0.mk (Kd.S_below q5_6 hb); have n3_ := Aside0.mk (Kd.S_below q5_11 hb); have n4_ := Aside0.mk (blk_below (g := gb442) (o := .cells #[.slice Ao8 t438.length co8] 25 (0, 0)) q5_2 hb); have n5_ := Aside0.mk (blk_below (g := gb453) (o := .cells #[.slice Ao37 t449.length co37] 25 (0, 0)) q5_9 hb); have n6_ := Aside0.mk (below_step q5_1 hb); clear HO_443000; clear HO448; clear HO451; clear HO456; clear BK442; clear BK453; clear HB; have HO_443000 := n0_; have HO448 := n1_; have HO451 := n2_; have HO456 := n3_; have BK442 := n4_; have BK453 := n5_; have HB := n6_; clear n0_ n1_ n2_ n3_ n4_ n5_ n6_; (try clear hb); (try clear hb2); (try clear hk); (try clear hi); have hcz43_0 : w42.cell? ⟨gb453, 0, none⟩ = some (.slice Ao37 t449.length co37) := (blk_cell BK453.out 0).trans rfl; have hfz43_0 := blk_frozen BK453.out 0) | (go_at_call 20; (with_reducible refine (impl_RoughGet.calls kj4 _ _ t449 t441 t458 _ ?side1 ?side2 A30.out).mono ?_); (case side1 => exact q5_16); (case side2 => exact (Kd.S_reads' HO451.out).2.1); rintro e w44 ⟨rfl, hb⟩; have n0_ := Aside0.mk (Kd.Q_below q5_4 hb); have n1_ := Aside0.mk (Kd.S_below q5_5 hb); have n2_ := Aside0.mk (Kd.S_below q5_6 hb); have n3_ := Aside0.mk (Kd.S_below q5_11 hb); have n4_ := Aside0.mk (blk_below (g := gb442) (o := .cells #[.slice Ao8 t438.length co8] 25 (0, 0)) q5_2 hb); have n5_ := Aside0.mk (blk_below (g := gb453) (o := .cells #[.slice Ao37 t449.length co37] 25 (0, 0)) q5_9 hb); have n6_ := Aside0.mk (below_step q5_1 hb); clear HO_443000; clear HO448; clear HO451; clear HO456; clear BK442; clear BK453; clear HB; have HO_443000 := n0_; have HO448 := n1_; have HO451 := n2_; have HO456 := n3_; have BK442 := n4_; have BK453 := n5_; have HB := n6_; clear n0_ n1_ n2_ n3_ n4_ n5_ n6_; (try clear hb); (try clear hb2); (try clear hk); (try clear hi); have hcz45_0 : w44.cell? ⟨gb453, 0, none⟩ = some (.slice Ao37 t449.length co37) := (blk_cell BK453.out 0).trans rfl; have hfz45_0 := blk_frozen BK453.out 0) | (go_at_call 18; (with_reducible refine (impl_RoughAll.calls kj4 _ _ t449 t459 _ ?side1 ?side2 A32.out).mono ?_); (case side1 => exact q5_16); (case side2 => exact (Kd.S_reads' HO451.out).2.1); rintro e w46 ⟨rfl, hb⟩; have n0_ := Aside0.mk (Kd.Q_below q5_4 hb); have n1_ := Aside0.mk (Kd.S_below q5_5 hb); have n2_ := Aside0.mk (Kd.S_below q5_6 hb); have n3_ := Aside0.mk (Kd.S_below q5_11 hb); have n4_ := Aside0.mk (blk_below (g := gb442) (o := .cells #[.slice Ao8 t438.length co8] 25 (0, 0)) q5_2 hb); have n5_ := Aside0.mk (blk_below (g := gb453) (o := .cells #[.slice Ao37 t449.length co37] 25 (0, 0)) q5_9 hb); have n6_ := Aside0.mk (below_step q5_1 hb); clear HO_443000; clear HO448; clear HO451; clear HO456; clear BK442; clear BK453; clear HB; have HO_443000 := n0_; have HO448 := n1_; have HO451 := n2_; have HO456 := n3_; have BK442 := n4_; have BK453 := n5_; have HB := n6_; clear n0_ n1_ n2_ n3_ n4_ n5_ n6_; (try clear hb); (try clear hb2); (try clear hk); (try clear hi)))
                go_ret
                exact ⟨q5_14, q5_1⟩
              · rw [if_neg c31] at H
                have c31b0 : (t458 == 5) = false := beq_eq_false_iff_ne.mpr c31
                have c31b1 : (t458 != 5) = true := bne_iff_ne.mpr c31
                obtain rfl := Option.some.inj H
                go_wp2_with (first | ((with_reducible refine gate_callee (f := 16) rfl ?_); refine goesL_ (some 38) rfl rfl Try.func16 (by kernel_rfl) rfl #[] rfl q5_3 ?_; (with_reducible refine (impl_RoughNew.calls kj4  t446 _ A24.out).mono ?_); rintro e w47 ⟨v447, rfl, ho0, hb⟩; refine ⟨_, rfl, ?_⟩; have n0_ := Aside0.mk (Kd.Q_elder' q5_4 (Kd.S_base ho0) hb); have n1_ := Aside0.mk (Kd.S_lower (Kd.S_new' ho0 (Kd.Q_lt q5_4)) (below_size q5_0)); have n2_ := Aside0.mk (blk_below (g := gb442) (o := .cells #[.slice Ao8 t438.length co8] 25 (0, 0)) q5_2 hb); have n3_ := Aside0.mk (below_step q5_0 hb); clear HO_443000; clear BK442; clear HB; have HO_443000 := n0_; have HO448 := n1_; have BK442 := n2_; have HB := n3_; clear n0_ n1_ n2_ n3_; (try clear hb); (try clear hb2); (try clear hk); (try clear hi); (try clear ho0); obtain ⟨Ao48, co48, eo48⟩ := Kd.S_slice HO448.out; subst eo48) | ((with_reducible refine gate_callee (f := 22) rfl ?_); refine goesL_ (some 40) rfl rfl Try.func22 (by kernel_rfl) rfl #[.agg #[.slice Ao48 t446.length co48], .int .i64 t441, .int .i64 5] rfl q5_3 ?_; (with_reducible refine (impl_RoughAdd.calls kj4 _ _ t446 t441 5 t449 true _ ?side1 ?side2 A25.out).mono ?_); (case side1 => exact q5_12); (case side2 => exact (Kd.S_reads' HO448.out).2.1); rintro e w49 ⟨v450, rfl, ho0, hb⟩; refine ⟨_, rfl, ?_⟩; have n0_ := Aside0.mk (Kd.Q_elder' q5_4 (Kd.S_base ho0) hb); have n1_ := Aside0.mk (Kd.S_elder' q5_5 (Kd.S_base ho0) hb); have n2_ := Aside0.mk (Kd.S_lower (Kd.S_new' (Kd.S_new' ho0 (Kd.Q_lt q5_4)) (Kd.S_lt q5_5)) (below_size q5_0)); have n3_ := Aside0.mk (blk_below (g := gb442) (o := .cells #[.slice Ao8 t438.length co8] 25 (0, 0)) q5_2 hb); have n4_ := Aside0.mk (below_step q5_0 hb); clear HO_443000; clear HO448; clear BK442; clear HB; have HO_443000 := n0_; have HO448 := n1_; have HO451 := n2_; have BK442 := n3_; have HB := n4_; clear n0_ n1_ n2_ n3_ n4_; (try clear hb); (try clear hb2); (try clear hk); (try clear hi); (try clear ho0)) | ((with_reducible refine gate_dst (N := 6) rfl ?_); refine box_event ?hg (N := 6) ?hd (cs := #[.slice none 0 0]) (t := 25) ?hr ?_; (case hd => rfl); (case hg => rfl); (case hr => exact q5_34); intro gb453 hg w50 hbox hb; have n0_ := Aside0.mk (Kd.Q_below q5_4 hb); have n1_ := Aside0.mk (Kd.S_below q5_5 hb); have n2_ := Aside0.mk (Kd.S_below q5_6 hb); have n3_ := Aside0.mk (blk_below (g := gb442) (o := .cells #[.slice Ao8 t438.length co8] 25 (0, 0)) q5_2 hb); have n4_ := Aside0.mk (below_step q5_0 hb); have n5_ := Aside0.mk (hbox); have n6_ := Aside0.mk ((q5_33 : w.heap.size ≤ gb453)); have n7_ := Aside0.mk ((q5_33 : w.heap.size ≤ gb453)); have n8_ := Aside0.mk ((q5_17 : gb442 ≠ gb453)); have n9_ := Aside0.mk ((q5_18 : gb453 ≠ gb442)); clear HO_443000; clear HO448; clear HO451; clear BK442; clear HB; have HO_443000 := n0_; have HO448 := n1_; have HO451 := n2_; have BK442 := n3_; have HB := n4_; have BK453 := n5_; have GW453 := n6_; have GE453 := n7_; have NB442_453 := n8_; have NB453_442 := n9_; clear n0_ n1_ n2_ n3_ n4_ n5_ n6_ n7_ n8_ n9_; clear hb hbox hg; obtain ⟨Ao51, co51, eo51⟩ := Kd.S_slice HO451.out; subst eo51; have hnb52 := NB453_442.out; have hnc52 := NB442_453.out; have hcz53_0 : w50.cell? ⟨gb453, 0, none⟩ = some (.slice none 0 0) := (blk_cell BK453.out 0).trans rfl; have hfz53_0 := blk_frozen BK453.out 0) | ((with_reducible refine gate_callee (f := 16) rfl ?_); refine goesL_ (some 43) rfl rfl Try.func16 (by kernel_rfl) rfl #[] rfl q5_3 ?_; (with_reducible refine (impl_RoughNew.calls kj4  t454 _ A26.out).mono ?_); rintro e w54 ⟨v455, rfl, ho0, hb⟩; refine ⟨_, rfl, ?_⟩; have n0_ := Aside0.mk (Kd.Q_elder' q5_21 (Kd.S_base ho0) hb); have n1_ := Aside0.mk (Kd.S_elder' q5_26 (Kd.S_base ho0) hb); have n2_ := Aside0.mk (Kd.S_elder' q5_27 (Kd.S_base ho0) hb); have n3_ := Aside0.mk (Kd.S_lower (Kd.S_new' (Kd.S_new' (Kd.S_new' ho0 (Kd.Q_lt q5_21)) (Kd.S_lt q5_26)) (Kd.S_lt q5_27)) (below_size q5_1)); have n4_ := Aside0.mk (blk_below (g := gb442) (o := .cells #[.slice Ao8 t438.length co8] 25 (0, 0)) q5_8 hb); have n5_ := Aside0.mk (blk_below (g := gb453) (o := .cells #[.slice Ao51 t449.length co51] 25 (0, 0)) q5_7 hb); have n6_ := Aside0.mk (below_step q5_1 hb); clear HO_443000; clear HO448; clear HO451; clear BK442; clear BK453; clear HB; have HO_443000 := n0_; have HO448 := n1_; have HO451 := n2_; have HO456 := n3_; have BK442 := n4_; have BK453 := n5_; have HB := n6_; clear n0_ n1_ n2_ n3_ n4_ n5_ n6_; (try clear hb); (try clear hb2); (try clear hk); (try clear hi); (try clear ho0); obtain ⟨Ao55, co55, eo55⟩ := Kd.S_slice HO456.out; subst eo55) | ((with_reducible refine gate_callee (f := 20) rfl ?_); refine goesL_ (some 45) rfl rfl Try.func20 (by kernel_rfl) rfl #[.agg #[.slice Ao55 t454.length co55], .int .i64 t441] rfl q5_3 ?_; (with_reducible refine (impl_RoughGet.calls kj4 _ _ t454 t441 t457 _ ?side1 ?side2 A27.out).mono ?_); (case side1 => exact q5_13); (case side2 => exact (Kd.S_reads' HO456.out).2.1); rintro e w56 ⟨rfl, hb⟩; refine ⟨_, rfl, ?_⟩; have n0_ := Aside0.mk (Kd.Q_below q5_4 hb); have n1_ := Aside0.mk (Kd.S_below q5_5 hb); have n2_ := Aside0.mk (Kd.S_below q5_6 hb); have n3_ := Aside0.mk (Kd.S_below q5_11 hb); have n4_ := Aside0.mk (blk_below (g := gb442) (o := .cells #[.slice Ao8 t438.length co8] 25 (0, 0)) q5_2 hb); have n5_ := Aside0.mk (blk_below (g := gb453) (o := .cells #[.slice Ao51 t449.length co51] 25 (0, 0)) q5_9 hb); have n6_ := Aside0.mk (below_step q5_1 hb); clear HO_443000; clear HO448; clear HO451; clear HO456; clear BK442; clear BK453; clear HB; have HO_443000 := n0_; have HO448 := n1_; have HO451 := n2_; have HO456 := n3_; have BK442 := n4_; have BK453 := n5_; have HB := n6_; clear n0_ n1_ n2_ n3_ n4_ n5_ n6_; (try clear hb); (try clear hb2); (try clear hk); (try clear hi); have hcz57_0 : w56.cell? ⟨gb453, 0, none⟩ = some (.slice Ao51 t449.length co51) := (blk_cell BK453.out 0).trans rfl; have hfz57_0 := blk_frozen BK453.out 0) | (go_at_call 20; (with_reducible refine (impl_RoughGet.calls kj4 _ _ t449 t441 t458 _ ?side1 ?side2 A30.out).mono ?_); (case side1 => exact q5_16); (case side2 => exact (Kd.S_reads' HO451.out).2.1); rintro e w58 ⟨rfl, hb⟩; have n0_ := Aside0.mk (Kd.Q_below q5_4 hb); have n1_ := Aside0.mk (Kd.S_below q5_5 hb); have n2_ := Aside0.mk (Kd.S_below q5_6 hb); have n3_ := Aside0.mk (Kd.S_below q5_11 hb); have n4_ := Aside0.mk (blk_below (g := gb442) (o := .cells #[.slice Ao8 t438.length co8] 25 (0, 0)) q5_2 hb); have n5_ := Aside0.mk (blk_below (g := gb453) (o := .cells #[.slice Ao51 t449.length co51] 25 (0, 0)) q5_9 hb); have n6_ := Aside0.mk (below_step q5_1 hb); clear HO_443000; clear HO448; clear HO451; clear HO456; clear BK442; clear BK453; clear HB; have HO_443000 := n0_; have HO448 := n1_; have HO451 := n2_; have HO456 := n3_; have BK442 := n4_; have BK453 := n5_; have HB := n6_; clear n0_ n1_ n2_ n3_ n4_ n5_ n6_; (try clear hb); (try clear hb2); (try clear hk); (try clear hi)))
                go_ret
                exact ⟨q5_14, q5_1⟩
            · replace c29 := Bool.eq_false_iff.mpr c29
              subst c29
              have H1 : (some false) = some r := by rw [if_neg (show ¬ (false = true) by decide)] at H; exact H
              clear H
              have H := H1
              clear H1
              obtain rfl := Option.some.inj H
              go_wp2_with (first | ((with_reducible refine gate_callee (f := 16) rfl ?_); refine goesL_ (some 38) rfl rfl Try.func16 (by kernel_rfl) rfl #[] rfl q5_3 ?_; (with_reducible refine (impl_RoughNew.calls kj4  t446 _ A24.out).mono ?_); rintro e w59 ⟨v447, rfl, ho0, hb⟩; refine ⟨_, rfl, ?_⟩; have n0_ := Aside0.mk (Kd.Q_elder' q5_4 (Kd.S_base ho0) hb); have n1_ := Aside0.mk (Kd.S_lower (Kd.S_new' ho0 (Kd.Q_lt q5_4)) (below_size q5_0)); have n2_ := Aside0.mk (blk_below (g := gb442) (o := .cells #[.slice Ao8 t438.length co8] 25 (0, 0)) q5_2 hb); have n3_ := Aside0.mk (below_step q5_0 hb); clear HO_443000; clear BK442; clear HB; have HO_443000 := n0_; have HO448 := n1_; have BK442 := n2_; have HB := n3_; clear n0_ n1_ n2_ n3_; (try clear hb); (try clear hb2); (try clear hk); (try clear hi); (try clear ho0); obtain ⟨Ao60, co60, eo60⟩ := Kd.S_slice HO448.out; subst eo60) | ((with_reducible refine gate_callee (f := 22) rfl ?_); refine goesL_ (some 40) rfl rfl Try.func22 (by kernel_rfl) rfl #[.agg #[.slice Ao60 t446.length co60], .int .i64 t441, .int .i64 5] rfl q5_3 ?_; (with_reducible refine (impl_RoughAdd.calls kj4 _ _ t446 t441 5 t449 false _ ?side1 ?side2 A25.out).mono ?_); (case side1 => exact q5_12); (case side2 => exact (Kd.S_reads' HO448.out).2.1); rintro e w61 ⟨v450, rfl, ho0, hb⟩; refine ⟨_, rfl, ?_⟩; have n0_ := Aside0.mk (Kd.Q_elder' q5_4 (Kd.S_base ho0) hb); have n1_ := Aside0.mk (Kd.S_elder' q5_5 (Kd.S_base ho0) hb); have n2_ := Aside0.mk (Kd.S_lower (Kd.S_new' (Kd.S_new' ho0 (Kd.Q_lt q5_4)) (Kd.S_lt q5_5)) (below_size q5_0)); have n3_ := Aside0.mk (blk_below (g := gb442) (o := .cells #[.slice Ao8 t438.length co8] 25 (0, 0)) q5_2 hb); have n4_ := Aside0.mk (below_step q5_0 hb); clear HO_443000; clear HO448; clear BK442; clear HB; have HO_443000 := n0_; have HO448 := n1_; have HO451 := n2_; have BK442 := n3_; have HB := n4_; clear n0_ n1_ n2_ n3_ n4_; (try clear hb); (try clear hb2); (try clear hk); (try clear hi); (try clear ho0)) | ((with_reducible refine gate_dst (N := 6) rfl ?_); refine box_event ?hg (N := 6) ?hd (cs := #[.slice none 0 0]) (t := 25) ?hr ?_; (case hd => rfl); (case hg => rfl); (case hr => exact q5_34); intro gb453 hg w62 hbox hb; have n0_ := Aside0.mk (Kd.Q_below q5_4 hb); have n1_ := Aside0.mk (Kd.S_below q5_5 hb); have n2_ := Aside0.mk (Kd.S_below q5_6 hb); have n3_ := Aside0.mk (blk_below (g := gb442) (o := .cells #[.slice Ao8 t438.length co8] 25 (0, 0)) q5_2 hb); have n4_ := Aside0.mk (below_step q5_0 hb); have n5_ := Aside0.mk (hbox); have n6_ := Aside0.mk ((q5_33 : w.heap.size ≤ gb453)); have n7_ := Aside0.mk ((q5_33 : w.heap.size ≤ gb453)); have n8_ := Aside0.mk ((q5_17 : gb442 ≠ gb453)); have n9_ := Aside0.mk ((q5_18 : gb453 ≠ gb442)); clear HO_443000; clear HO448; clear HO451; clear BK442; clear HB; have HO_443000 := n0_; have HO448 := n1_; have HO451 := n2_; have BK442 := n3_; have HB := n4_; have BK453 := n5_; have GW453 := n6_; have GE453 := n7_; have NB442_453 := n8_; have NB453_442 := n9_; clear n0_ n1_ n2_ n3_ n4_ n5_ n6_ n7_ n8_ n9_; clear hb hbox hg; obtain ⟨Ao63, co63, eo63⟩ := Kd.S_slice HO451.out; subst eo63; have hnb64 := NB453_442.out; have hnc64 := NB442_453.out; have hcz65_0 : w62.cell? ⟨gb453, 0, none⟩ = some (.slice none 0 0) := (blk_cell BK453.out 0).trans rfl; have hfz65_0 := blk_frozen BK453.out 0) | ((with_reducible refine gate_callee (f := 16) rfl ?_); refine goesL_ (some 43) rfl rfl Try.func16 (by kernel_rfl) rfl #[] rfl q5_3 ?_; (with_reducible refine (impl_RoughNew.calls kj4  t454 _ A26.out).mono ?_); rintro e w66 ⟨v455, rfl, ho0, hb⟩; refine ⟨_, rfl, ?_⟩; have n0_ := Aside0.mk (Kd.Q_elder' q5_22 (Kd.S_base ho0) hb); have n1_ := Aside0.mk (Kd.S_elder' q5_28 (Kd.S_base ho0) hb); have n2_ := Aside0.mk (Kd.S_elder' q5_29 (Kd.S_base ho0) hb); have n3_ := Aside0.mk (Kd.S_lower (Kd.S_new' (Kd.S_new' (Kd.S_new' ho0 (Kd.Q_lt q5_22)) (Kd.S_lt q5_28)) (Kd.S_lt q5_29)) (below_size q5_1)); have n4_ := Aside0.mk (blk_below (g := gb442) (o := .cells #[.slice Ao8 t438.length co8] 25 (0, 0)) q5_8 hb); have n5_ := Aside0.mk (blk_below (g := gb453) (o := .cells #[.slice Ao63 t449.length co63] 25 (0, 0)) q5_7 hb); have n6_ := Aside0.mk (below_step q5_1 hb); clear HO_443000; clear HO448; clear HO451; clear BK442; clear BK453; clear HB; have HO_443000 := n0_; have HO448 := n1_; have HO451 := n2_; have HO456 := n3_; have BK442 := n4_; have BK453 := n5_; have HB := n6_; clear n0_ n1_ n2_ n3_ n4_ n5_ n6_; (try clear hb); (try clear hb2); (try clear hk); (try clear hi); (try clear ho0); obtain ⟨Ao67, co67, eo67⟩ := Kd.S_slice HO456.out; subst eo67) | ((with_reducible refine gate_callee (f := 20) rfl ?_); refine goesL_ (some 45) rfl rfl Try.func20 (by kernel_rfl) rfl #[.agg #[.slice Ao67 t454.length co67], .int .i64 t441] rfl q5_3 ?_; (with_reducible refine (impl_RoughGet.calls kj4 _ _ t454 t441 t457 _ ?side1 ?side2 A27.out).mono ?_); (case side1 => exact q5_13); (case side2 => exact (Kd.S_reads' HO456.out).2.1); rintro e w68 ⟨rfl, hb⟩; refine ⟨_, rfl, ?_⟩; have n0_ := Aside0.mk (Kd.Q_below q5_4 hb); have n1_ := Aside0.mk (Kd.S_below q5_5 hb); have n2_ := Aside0.mk (Kd.S_below q5_6 hb); have n3_ := Aside0.mk (Kd.S_below q5_11 hb); have n4_ := Aside0.mk (blk_below (g := gb442) (o := .cells #[.slice Ao8 t438.length co8] 25 (0, 0)) q5_2 hb); have n5_ := Aside0.mk (blk_below (g := gb453) (o := .cells #[.slice Ao63 t449.length co63] 25 (0, 0)) q5_9 hb); have n6_ := Aside0.mk (below_step q5_1 hb); clear HO_443000; clear HO448; clear HO451; clear HO456; clear BK442; clear BK453; clear HB; have HO_443000 := n0_; have HO448 := n1_; have HO451 := n2_; have HO456 := n3_; have BK442 := n4_; have BK453 := n5_; have HB := n6_; clear n0_ n1_ n2_ n3_ n4_ n5_ n6_; (try clear hb); (try clear hb2); (try clear hk); (try clear hi)))
              go_ret
              exact ⟨q5_14, q5_1⟩
          · rw [if_neg c28] at H
            have c28b0 : (t457 == 0) = false := beq_eq_false_iff_ne.mpr c28
            have c28b1 : (t457 != 0) = true := bne_iff_ne.mpr c28
            obtain rfl := Option.some.inj H
            go_wp2_with (first | ((with_reducible refine gate_callee (f := 16) rfl ?_); refine goesL_ (some 38) rfl rfl Try.func16 (by kernel_rfl) rfl #[] rfl q5_3 ?_; (with_reducible refine (impl_RoughNew.calls kj4  t446 _ A24.out).mono ?_); rintro e w69 ⟨v447, rfl, ho0, hb⟩; refine ⟨_, rfl, ?_⟩; have n0_ := Aside0.mk (Kd.Q_elder' q5_4 (Kd.S_base ho0) hb); have n1_ := Aside0.mk (Kd.S_lower (Kd.S_new' ho0 (Kd.Q_lt q5_4)) (below_size q5_0)); have n2_ := Aside0.mk (blk_below (g := gb442) (o := .cells #[.slice Ao8 t438.length co8] 25 (0, 0)) q5_2 hb); have n3_ := Aside0.mk (below_step q5_0 hb); clear HO_443000; clear BK442; clear HB; have HO_443000 := n0_; have HO448 := n1_; have BK442 := n2_; have HB := n3_; clear n0_ n1_ n2_ n3_; (try clear hb); (try clear hb2); (try clear hk); (try clear hi); (try clear ho0); obtain ⟨Ao70, co70, eo70⟩ := Kd.S_slice HO448.out; subst eo70) | ((with_reducible refine gate_callee (f := 22) rfl ?_); refine goesL_ (some 40) rfl rfl Try.func22 (by kernel_rfl) rfl #[.agg #[.slice Ao70 t446.length co70], .int .i64 t441, .int .i64 5] rfl q5_3 ?_; (with_reducible refine (impl_RoughAdd.calls kj4 _ _ t446 t441 5 t449 t452 _ ?side1 ?side2 A25.out).mono ?_); (case side1 => exact q5_12); (case side2 => exact (Kd.S_reads' HO448.out).2.1); rintro e w71 ⟨v450, rfl, ho0, hb⟩; refine ⟨_, rfl, ?_⟩; have n0_ := Aside0.mk (Kd.Q_elder' q5_4 (Kd.S_base ho0) hb); have n1_ := Aside0.mk (Kd.S_elder' q5_5 (Kd.S_base ho0) hb); have n2_ := Aside0.mk (Kd.S_lower (Kd.S_new' (Kd.S_new' ho0 (Kd.Q_lt q5_4)) (Kd.S_lt q5_5)) (below_size q5_0)); have n3_ := Aside0.mk (blk_below (g := gb442) (o := .cells #[.slice Ao8 t438.length co8] 25 (0, 0)) q5_2 hb); have n4_ := Aside0.mk (below_step q5_0 hb); clear HO_443000; clear HO448; clear BK442; clear HB; have HO_443000 := n0_; have HO448 := n1_; have HO451 := n2_; have BK442 := n3_; have HB := n4_; clear n0_ n1_ n2_ n3_ n4_; (try clear hb); (try clear hb2); (try clear hk); (try clear hi); (try clear ho0)) | ((with_reducible refine gate_dst (N := 6) rfl ?_); refine box_event ?hg (N := 6) ?hd (cs := #[.slice none 0 0]) (t := 25) ?hr ?_; (case hd => rfl); (case hg => rfl); (case hr => exact q5_34); intro gb453 hg w72 hbox hb; have n0_ := Aside0.mk (Kd.Q_below q5_4 hb); have n1_ := Aside0.mk (Kd.S_below q5_5 hb); have n2_ := Aside0.mk (Kd.S_below q5_6 hb); have n3_ := Aside0.mk (blk_below (g := gb442) (o := .cells #[.slice Ao8 t438.length co8] 25 (0, 0)) q5_2 hb); have n4_ := Aside0.mk (below_step q5_0 hb); have n5_ := Aside0.mk (hbox); have n6_ := Aside0.mk ((q5_33 : w.heap.size ≤ gb453)); have n7_ := Aside0.mk ((q5_33 : w.heap.size ≤ gb453)); have n8_ := Aside0.mk ((q5_17 : gb442 ≠ gb453)); have n9_ := Aside0.mk ((q5_18 : gb453 ≠ gb442)); clear HO_443000; clear HO448; clear HO451; clear BK442; clear HB; have HO_443000 := n0_; have HO448 := n1_; have HO451 := n2_; have BK442 := n3_; have HB := n4_; have BK453 := n5_; have GW453 := n6_; have GE453 := n7_; have NB442_453 := n8_; have NB453_442 := n9_; clear n0_ n1_ n2_ n3_ n4_ n5_ n6_ n7_ n8_ n9_; clear hb hbox hg; obtain ⟨Ao73, co73, eo73⟩ := Kd.S_slice HO451.out; subst eo73; have hnb74 := NB453_442.out; have hnc74 := NB442_453.out; have hcz75_0 : w72.cell? ⟨gb453, 0, none⟩ = some (.slice none 0 0) := (blk_cell BK453.out 0).trans rfl; have hfz75_0 := blk_frozen BK453.out 0) | ((with_reducible refine gate_callee (f := 16) rfl ?_); refine goesL_ (some 43) rfl rfl Try.func16 (by kernel_rfl) rfl #[] rfl q5_3 ?_; (with_reducible refine (impl_RoughNew.calls kj4  t454 _ A26.out).mono ?_); rintro e w76 ⟨v455, rfl, ho0, hb⟩; refine ⟨_, rfl, ?_⟩; have n0_ := Aside0.mk (Kd.Q_elder' q5_23 (Kd.S_base ho0) hb); have n1_ := Aside0.mk (Kd.S_elder' q5_30 (Kd.S_base ho0) hb); have n2_ := Aside0.mk (Kd.S_elder' q5_31 (Kd.S_base ho0) hb); have n3_ := Aside0.mk (Kd.S_lower (Kd.S_new' (Kd.S_new' (Kd.S_new' ho0 (Kd.Q_lt q5_23)) (Kd.S_lt q5_30)) (Kd.S_lt q5_31)) (below_size q5_1)); have n4_ := Aside0.mk (blk_below (g := gb442) (o := .cells #[.slice Ao8 t438.length co8] 25 (0, 0)) q5_8 hb); have n5_ := Aside0.mk (blk_below (g := gb453) (o := .cells #[.slice Ao73 t449.length co73] 25 (0, 0)) q5_7 hb); have n6_ := Aside0.mk (below_step q5_1 hb); clear HO_443000; clear HO448; clear HO451; clear BK442; clear BK453; clear HB; have HO_443000 := n0_; have HO448 := n1_; have HO451 := n2_; have HO456 := n3_; have BK442 := n4_; have BK453 := n5_; have HB := n6_; clear n0_ n1_ n2_ n3_ n4_ n5_ n6_; (try clear hb); (try clear hb2); (try clear hk); (try clear hi); (try clear ho0); obtain ⟨Ao77, co77, eo77⟩ := Kd.S_slice HO456.out; subst eo77) | ((with_reducible refine gate_callee (f := 20) rfl ?_); refine goesL_ (some 45) rfl rfl Try.func20 (by kernel_rfl) rfl #[.agg #[.slice Ao77 t454.length co77], .int .i64 t441] rfl q5_3 ?_; (with_reducible refine (impl_RoughGet.calls kj4 _ _ t454 t441 t457 _ ?side1 ?side2 A27.out).mono ?_); (case side1 => exact q5_13); (case side2 => exact (Kd.S_reads' HO456.out).2.1); rintro e w78 ⟨rfl, hb⟩; refine ⟨_, rfl, ?_⟩; have n0_ := Aside0.mk (Kd.Q_below q5_4 hb); have n1_ := Aside0.mk (Kd.S_below q5_5 hb); have n2_ := Aside0.mk (Kd.S_below q5_6 hb); have n3_ := Aside0.mk (Kd.S_below q5_11 hb); have n4_ := Aside0.mk (blk_below (g := gb442) (o := .cells #[.slice Ao8 t438.length co8] 25 (0, 0)) q5_2 hb); have n5_ := Aside0.mk (blk_below (g := gb453) (o := .cells #[.slice Ao73 t449.length co73] 25 (0, 0)) q5_9 hb); have n6_ := Aside0.mk (below_step q5_1 hb); clear HO_443000; clear HO448; clear HO451; clear HO456; clear BK442; clear BK453; clear HB; have HO_443000 := n0_; have HO448 := n1_; have HO451 := n2_; have HO456 := n3_; have BK442 := n4_; have BK453 := n5_; have HB := n6_; clear n0_ n1_ n2_ n3_ n4_ n5_ n6_; (try clear hb); (try clear hb2); (try clear hk); (try clear hi)))
            go_ret
            exact ⟨q5_14, q5_1⟩

/-- THE ONE PURE STATEMENT of laws_FnRoughNew: yours. -/
def laws_FnRoughNew.Pure : Prop := ∀ (l0 : List Int), l0.length ≤ maxLen → l0.length * 1 ≤ 140737488351232 → (∀ x ∈ l0, (Lit.int .u8 x).wf = true) → ∃ k, laws_FnRoughNew.f k l0 = some true
theorem laws_FnRoughNew.walk (P : laws_FnRoughNew.Pure) (a0 : Option Addr) (len0 cap0 : Nat) (z0 : List Int) (w : World) (w0 : (a0 = none ∧ len0 = 0 ∧ cap0 = 0 ∧ z0 = []) ∨ ∃ x, a0 = some x ∧ len0 ≤ cap0 ∧ cap0 ≤ maxLen ∧ z0.length = cap0 ∧ (∀ i, i < z0.length → w.cell? (x.add i) = some (.int .u8 (z0.getD i 0))) ∧ ∀ n ∈ z0, (Lit.int .u8 n).wf = true) (y0 : len0 * 1 ≤ 140737488351232) :
    Calls Try.prog 5 #[.slice a0 len0 cap0] w fun e w' => e = .returned (.bool true) ∧ Below w.heap.size w w' := by
  obtain ⟨l0, rfl, hr0, hm0, hw0, hc0⟩ := ReadsInt.ofRowC w0
  obtain ⟨k, h⟩ := P l0 hm0 y0 hw0
  refine (laws_FnRoughNew.calls k _ _ l0 true w (Kd.C_of_reads (d := (0 : Int)) (h1 := fun _ => rfl) hr0) hc0 h).mono ?_
  rintro e w' ⟨rfl, hd⟩
  exact ⟨rfl, hd⟩

end Go.Proofs.Ytojhkhpgahhacaa.PA
