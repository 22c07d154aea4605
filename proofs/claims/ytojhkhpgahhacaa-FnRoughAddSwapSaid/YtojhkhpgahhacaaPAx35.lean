-- Made by a program of this session (wip/tools/pr2.sh) out of the translation, by way of the printer: shared by the seat's laws.
import Derived.Test.YtojhkhpgahhacaaPAx0
import Derived.Test.YtojhkhpgahhacaaPAx1
import Derived.Test.YtojhkhpgahhacaaPAx8
import Derived.Test.YtojhkhpgahhacaaPAx10
import Derived.Test.YtojhkhpgahhacaaPAx27
namespace Go.Proofs.Ytojhkhpgahhacaa.PA
open Go.RowKit Go.Proofs.YtojhkhpgahhacaaW.PrintWords Go.Proofs.YtojhkhpgahhacaaW.PrintLast Go.Proofs.YtojhkhpgahhacaaW.PrintMore
attribute [local go_sem] max2_int min2_int max_two min_two max_three min_three max_four min_four   -- for this text's walks alone
set_option linter.unusedVariables false
set_option linter.unusedSimpArgs false

/-! ### spec_DrawRoughAdd: function 23 -/
def spec_DrawRoughAdd.f (k : Nat) (l0 : List Int) : Option ((List (List Int)) × Int × Int) := (spec_l6Open.f l0).bind fun bt461 => ((spec_l71Rough.f k bt461.1 bt461.2).bind fun bt464 => ((spec_l71Thing.f k bt461.1 bt464.2).bind fun bt468 => ((some (([0, 1, 1, 5, 30, (-1), 2000] : List Int) : List Int)).bind fun y470 => ((spec_l6Rd_pick.f k bt461.1 bt468.2 7).bind fun bt473 => (if 0 ≤ bt473.1 then (if bt473.1 < (y470.length : Int) then (some (bt464.1, bt468.1, rd y470 bt473.1)) else (none)) else (none))))))
theorem spec_DrawRoughAdd.mono : ∀ a0 k, LeO (spec_DrawRoughAdd.f k a0) (spec_DrawRoughAdd.f (k + 1) a0) := by
  intro a0 k
  unfold spec_DrawRoughAdd.f
  repeat' first
      | (with_reducible exact spec_l6Rd_pick.mono _ _ _ _)
      | (with_reducible exact spec_l71Rough.mono _ _ _)
      | (with_reducible exact spec_l71Thing.mono _ _ _)
      | (with_reducible exact LeO.refl _)
      | (with_reducible exact LeO.none _)
      | (with_reducible refine LeO.ite ?_ ?_)
      | (with_reducible refine LeO.bind ?_ (fun _ => ?_))
      | exact spec_l6Rd_pick.mono _ _ _ _
      | exact spec_l71Rough.mono _ _ _
      | exact spec_l71Thing.mono _ _ _
      | exact LeO.none _
      | refine LeO.ite ?_ ?_
      | refine LeO.bind ?_ (fun _ => ?_)
def spec_DrawRoughAdd.T2 : Bool × List (List Nat × List Nat) := (true, [([], []), ([0], [0]), ([], []), ([2, 1], [2]), ([], []), ([], []), ([5, 3], [5]), ([4, 6], [4, 6]), ([7], [7]), ([1, 6, 0, 1], [1]), ([3, 9, 0, 1, 2, 3, 9], [3]), ([8, 10, 0, 1, 2, 3, 4, 5, 6, 7, 8, 9, 10], [8])])
def spec_DrawRoughAdd.B2 : List Nat := [0, 1, 0, 7, 0, 0, 47, 127, 255, 111, 623, 2047]
theorem spec_DrawRoughAdd.tab2 : rtab .any (opsOf Try.f23 2) = spec_DrawRoughAdd.T2 := by kernel_rfl
theorem spec_DrawRoughAdd.bits2 : waitsOk spec_DrawRoughAdd.T2.2 spec_DrawRoughAdd.B2 = true := by kernel_rfl
theorem q23_0 {p : Prop} (h : p := by repeat (first | (with_reducible first | exact HI463.out | apply IsS66.alloc | apply IsS66.drewN | apply IsS66.drew | apply IsS66.set_1 | refine IsS66.far ?_ NB463_460.out _) | exact HI463.out)) : p := h
theorem q23_1 {p : Prop} (h : p := by repeat (first | (with_reducible first | exact HB.out | apply below_alloc | apply pw_below_drewN | apply below_drew1 | refine below_set ?_ (IsS66.ge HI463.out) | refine below_set ?_ GE460.out) | exact HB.out)) : p := h
theorem q23_2 {p : Prop} (h : p := by (with_reducible repeat (first | refine blk_drewN ?_ _ | refine blk_drew ?_ | refine blk_alloc ?_ _)); exact BK460.out) : p := h
theorem q23_3 {p : Prop} (h : p := by (with_reducible repeat (first | apply Kd.R_alloc | apply Kd.R_drewN | apply Kd.R_drew)); exact (Q_HO472 h0_)) : p := h
theorem q23_4 {p : Prop} (h : p := by repeat (first | (with_reducible first | exact HB.out | apply below_alloc | apply pw_below_drewN | apply below_drew1 | refine below_set ?_ GE460.out) | exact HB.out)) : p := h
theorem q23_5 {p : Prop} (h : p := by (with_reducible repeat (first | apply Kd.Q_alloc | apply Kd.Q_drewN | apply Kd.Q_drew)); exact HO466.out) : p := h
theorem q23_6 {p : Prop} (h : p := by repeat (first | (with_reducible first | exact HB.out | apply below_alloc | apply pw_below_drewN | apply below_drew1) | exact HB.out)) : p := h
theorem q23_7 {p : Prop} (h : p := by (with_reducible repeat (first | apply Kd.Q_alloc | apply Kd.Q_drewN | apply Kd.Q_drew)); exact (Q_HO466 h0_)) : p := h
set_option maxHeartbeats 8000000 in
set_option maxRecDepth 100000 in
theorem spec_DrawRoughAdd.calls (k : Nat) (A0 : Option Addr) (c0 : Nat) (l0 : List Int) (r1 : List (List Int)) (r2 : Int) (r3 : Int) (w : World) (hr0 : Kd.C (Kd.int .u8) w A0 l0.length l0) (hc0 : l0.length ≤ c0) (h : spec_DrawRoughAdd.f k l0 = some (r1, r2, r3)) :
    Calls Try.prog 23 #[.slice A0 l0.length c0] w fun e w' => ∃ v0_ : Value, e = .returned (.tuple #[.agg #[v0_], .int .i64 r2, .int .i64 r3]) ∧ Kd.Q (Kd.slice 3 (Kd.int .i64)) 43 w' w.heap.size (fun _ => True) v0_ r1 ∧ Below w.heap.size w w' := by
  have hu25 := Try.underlying25
  have HR0 := Aside0.mk hr0
  have HC0 := Aside0.mk hc0
  clear hr0 hc0
  have HB := Aside0.mk (Below.refl w.heap.size w)
  have H : ((spec_l6Open.f l0).bind fun bt461 => ((spec_l71Rough.f k bt461.1 bt461.2).bind fun bt464 => ((spec_l71Thing.f k bt461.1 bt464.2).bind fun bt468 => ((some (([0, 1, 1, 5, 30, (-1), 2000] : List Int) : List Int)).bind fun y470 => ((spec_l6Rd_pick.f k bt461.1 bt468.2 7).bind fun bt473 => (if 0 ≤ bt473.1 then (if bt473.1 < (y470.length : Int) then (some (bt464.1, bt468.1, rd y470 bt473.1)) else (none)) else (none))))))) = some (r1, r2, r3) := h
  clear h
  replace H := Option.bind_eq_some_iff.mp H
  obtain ⟨⟨t461, t462⟩, A20, H⟩ := H
  replace H : ((spec_l71Rough.f k t461 t462).bind fun bt464 => ((spec_l71Thing.f k t461 bt464.2).bind fun bt468 => ((some (([0, 1, 1, 5, 30, (-1), 2000] : List Int) : List Int)).bind fun y470 => ((spec_l6Rd_pick.f k t461 bt468.2 7).bind fun bt473 => (if 0 ≤ bt473.1 then (if bt473.1 < (y470.length : Int) then (some (bt464.1, bt468.1, rd y470 bt473.1)) else (none)) else (none)))))) = some (r1, r2, r3) := H
  have A2 := Aside0.mk A20
  clear A20
  replace H := Option.bind_eq_some_iff.mp H
  obtain ⟨⟨t464, t467⟩, A30, H⟩ := H
  replace H : ((spec_l71Thing.f k t461 t467).bind fun bt468 => ((some (([0, 1, 1, 5, 30, (-1), 2000] : List Int) : List Int)).bind fun y470 => ((spec_l6Rd_pick.f k t461 bt468.2 7).bind fun bt473 => (if 0 ≤ bt473.1 then (if bt473.1 < (y470.length : Int) then (some (t464, bt468.1, rd y470 bt473.1)) else (none)) else (none))))) = some (r1, r2, r3) := H
  have A3 := Aside0.mk A30
  clear A30
  replace H := Option.bind_eq_some_iff.mp H
  obtain ⟨⟨t468, t469⟩, A40, H⟩ := H
  replace H : ((some (([0, 1, 1, 5, 30, (-1), 2000] : List Int) : List Int)).bind fun y470 => ((spec_l6Rd_pick.f k t461 t469 7).bind fun bt473 => (if 0 ≤ bt473.1 then (if bt473.1 < (y470.length : Int) then (some (t464, t468, rd y470 bt473.1)) else (none)) else (none)))) = some (r1, r2, r3) := H
  have A4 := Aside0.mk A40
  clear A40
  obtain ⟨y470, hy470⟩ : ∃ y_ : List Int, y_ = (([0, 1, 1, 5, 30, (-1), 2000] : List Int)) := ⟨_, rfl⟩
  replace H : ((spec_l6Rd_pick.f k t461 t469 7).bind fun bt473 => (if 0 ≤ bt473.1 then (if bt473.1 < (y470.length : Int) then (some (t464, t468, rd y470 bt473.1)) else (none)) else (none))) = some (r1, r2, r3) := by first | (rw [hy470]; with_reducible exact H) | (have H2_ := (Option.bind_some _ _).symm.trans H; rw [hy470]; with_reducible exact H2_) | (have H2_ := (Option.bind_some _ _).symm.trans H; with_reducible exact H2_) | with_reducible exact H | (rw [hy470]; exact H) | exact H
  have Ny470 := Aside0.mk hy470
  clear hy470
  replace H := Option.bind_eq_some_iff.mp H
  obtain ⟨⟨t473, t474⟩, A50, H⟩ := H
  replace H : (if 0 ≤ t473 then (if t473 < (y470.length : Int) then (some (t464, t468, rd y470 t473)) else (none)) else (none)) = some (r1, r2, r3) := H
  have A5 := Aside0.mk A50
  clear A50
  by_cases c6 : 0 ≤ t473
  · rw [if_pos c6] at H
    have c6b0 : decide (0 ≤ t473) = true := decide_eq_true c6
    clear c6
    by_cases c7 : t473 < (y470.length : Int)
    · rw [if_pos c7] at H
      have c7b0 : decide (t473 < (y470.length : Int)) = true := decide_eq_true c7
      clear c7
      simp only [Option.some.injEq, Prod.mk.injEq] at H
      obtain ⟨rfl, rfl, rfl⟩ := H
      go_enter Try.func23, Try.ntmps23
      try go_wp2_with (first | ((with_reducible refine gate_dst (N := 2) rfl ?_); refine box_event ?hg (N := 2) ?hd (cs := #[.slice none 0 0]) (t := 25) ?hr ?_; (case hd => rfl); (case hg => rfl); (case hr => first | (go_simp; done) | (go_simp; rfl)); intro gb460 hg w8 hbox hb; have n0_ := Aside0.mk (below_step q23_6 hb); have n1_ := Aside0.mk (hbox); have n2_ := Aside0.mk ((by rw [hg]; exact (below_size q23_6) : w.heap.size ≤ gb460)); have n3_ := Aside0.mk ((by rw [hg]; exact (below_size q23_6) : w.heap.size ≤ gb460)); clear HB; have HB := n0_; have BK460 := n1_; have GW460 := n2_; have GE460 := n3_; clear n0_ n1_ n2_ n3_; clear hb hbox hg) | ((with_reducible refine gate_callee (f := 31) rfl ?_); refine goesL_ (some 7) rfl rfl Try.func31 (by kernel_rfl) rfl #[.slice A0 l0.length c0] rfl (by (try simp only [List.map_toArray, List.map_cons, List.map_nil]); first | done | rfl | (simp only [List.length_drop, List.length_take]; rfl)) ?_; (with_reducible refine (spec_l6Open.calls _ _ l0 t461 t462 w _ ?side1 ?side2 ?side3 A2.out).mono ?_); (case side1 => exact q23_4); (case side2 => exact HR0.out); (case side3 => exact HC0.out); rintro e w9 ⟨g463, rfl, hi, hb, hb2⟩; refine ⟨_, rfl, ?_⟩; have n0_ := Aside0.mk (blk_below (g := gb460) (o := .cells #[.slice none 0 0] 25 (0, 0)) q23_2 hb2); have n1_ := Aside0.mk (hb); have n2_ := Aside0.mk (hi); have n3_ := Aside0.mk (IsS66.ne_blk hi (blk_below (g := gb460) (o := .cells #[.slice none 0 0] 25 (0, 0)) q23_2 hb2) (by decide)); have n4_ := Aside0.mk (Ne.symm (IsS66.ne_blk hi (blk_below (g := gb460) (o := .cells #[.slice none 0 0] 25 (0, 0)) q23_2 hb2) (by decide))); clear BK460; clear HB; have BK460 := n0_; have HB := n1_; have HI463 := n2_; have NB463_460 := n3_; have NB460_463 := n4_; clear n0_ n1_ n2_ n3_ n4_; (try clear hb); (try clear hb2); (try clear hk); (try clear hi)))
      have pi475 : (0 ≤ (t473 : Int)) = True := eq_true (of_decide_eq_true (by first | (with_reducible assumption) | assumption))
      have qi475 : (t473 < (y470.length : Int)) = True := eq_true (of_decide_eq_true (by first | (with_reducible assumption) | assumption))
      have n0_ := Aside0.mk (blk_drew BK460.out)
      have n1_ := Aside0.mk (IsS66.drew HI463.out)
      have n2_ := Aside0.mk (below_drew1 HB.out)
      clear BK460
      clear HI463
      clear HB
      have BK460 := n0_
      have HI463 := n1_
      have HB := n2_
      clear n0_ n1_ n2_
      refine start_ (n := 12) (S := fun w' => True) (ds := []) #[false, false, false, false, false, false, false, false, false, false, false, false] (by kernel_rfl) rfl rfl trivial (fun hHeld => ?_); refine with_tabW spec_DrawRoughAdd.tab2 spec_DrawRoughAdd.bits2 (fun HT_ HW_ => ?_)
      generalize w9.drew = w10 at BK460 HI463 HB hHeld ⊢
      refine pure_ (i := 0) (N := some 8) (v := ?_) (a' := ?_) #[true, false, false, false, false, false, false, false, false, false, false, false] rfl rfl (any_of HT_.out (by kernel_rfl)) (fun _ _ _ h => h) (Or.inl ⟨by rfl, ?_⟩) ?_ ?_
      rotate_left
      · intro w'
        go_simp
        with_reducible rfl
      rotate_left
      · simp only [Act.put, List.setIfInBounds_toArray, List.set_cons_zero, List.set_cons_succ, i64_w, i32_w]
        rfl
      refine pure_ (i := 2) (N := some 10) (v := ?_) (a' := ?_) #[true, false, true, false, false, false, false, false, false, false, false, false] rfl rfl (any_of HT_.out (by kernel_rfl)) (fun _ _ _ h => h) (Or.inl ⟨by rfl, ?_⟩) ?_ ?_
      rotate_left
      · intro w'
        go_simp
        with_reducible rfl
      rotate_left
      · simp only [Act.put, List.setIfInBounds_toArray, List.set_cons_zero, List.set_cons_succ, i64_w, i32_w]
        rfl
      refine pure_ (i := 5) (N := some 13) (v := ?_) (a' := ?_) #[true, false, true, false, false, true, false, false, false, false, false, false] rfl rfl (any_of HT_.out (by kernel_rfl)) (fun _ _ _ h => h) (Or.inl ⟨by rfl, ?_⟩) ?_ ?_
      rotate_left
      · intro w'
        go_simp
        with_reducible rfl
      rotate_left
      · simp only [Act.put, List.setIfInBounds_toArray, List.set_cons_zero, List.set_cons_succ, i64_w, i32_w]
        rfl
      refine inv_at [1, 3, 4, 6, 7, 8, 9, 10, 11] (fun a0_ b a w' => ∃ (v465 : Value) (v471 : Value) (adz_v471 : Addr) (m1_ : Value) (m7_ : Value), a = putSel a0_ b [(1, 9, m1_), (3, 11, .int .i64 t468), (4, 12, v471), (6, 14, .int .i64 t473), (7, 15, m7_), (8, 16, .int .i64 (rd y470 t473)), (10, 3, .int .i64 t468), (11, 4, .int .i64 (rd y470 t473))] ∧ (b 9 = false → w'.heap[gb460]? = some (.cells #[.slice none 0 0] 25 (0, 0))) ∧ (b 1 = false → IsS66 w w' g463 t461 t462) ∧ (Below w.heap.size w w') ∧ (b 1 = true → Kd.Q (Kd.slice 3 (Kd.int .i64)) 43 w' w.heap.size (fun _ => True) v465 t464) ∧ (b 1 = true → b 3 = false → IsS66 w w' g463 t461 t467) ∧ (b 3 = true → b 6 = false → IsS66 w w' g463 t461 t469) ∧ (b 4 = true → Kd.R (Kd.int .i64) 3 w' w.heap.size (fun _ => True) v471 y470) ∧ (b 4 = true → ∃ c_, (v471 : Value) = .slice (some adz_v471) y470.length c_) ∧ (b 6 = true → IsS66 w w' g463 t461 t474) ∧ (b 9 = true → w'.heap[gb460]? = some (.cells #[v465] 25 (0, 0))) ∧ (b 1 = true → (m1_ : Value) = .agg #[v465]) ∧ (b 7 = true → (m7_ : Value) = .pointer (some (adz_v471.add (t473).toNat)))) HT_.out HW_.out (by kernel_rfl) (by kernel_rfl) ?_ ?_ ?_
      · exact ⟨.bool false, .bool false, ⟨0, 0, none⟩, .bool false, .bool false, by simp only [putSel, Bool.false_eq_true, if_false], fun _ => BK460.out, fun _ => HI463.out, HB.out, fun h_ => absurd h_ (by decide), fun h_ => absurd h_ (by decide), fun h_ => absurd h_ (by decide), fun h_ => absurd h_ (by decide), fun h_ => absurd h_ (by decide), fun h_ => absurd h_ (by decide), fun h_ => absurd h_ (by decide), fun h_ => absurd h_ (by decide), fun h_ => absurd h_ (by decide)⟩
      · skip
        clear BK460 HB HI463
        refine steps_cons ?_ ?_
        · rintro b a w' ⟨v465, v471, adz_v471, m1_, m7_, ha, Q_BK460, Q_HI463, Q_HB, Q_HO466, Q_HI463_e1, Q_HI463_e3, Q_HO472, Q_HA_HO472, Q_HI463_e6, Q_BK460_e9, Q_X1_, Q_X7_⟩ hb_ hon hoff
          refine ⟨_, rfl, fun K hK => ?_⟩
          have e8 : a.tmps[8]? = some (.pointer (some ⟨g463, 0, none⟩)) := by rw [ha]; exact (putSel_off rfl).trans rfl
          replace ha := Aside0.mk ha
          have BK460 := Aside0.mk (Q_BK460 (hoff 9 (by kernel_rfl)))
          have HI463 := Aside0.mk (Q_HI463 hb_)
          have HB := Aside0.mk Q_HB
          refine goes_ Try.func32 (by kernel_rfl) rfl #[.pointer (some ⟨g463, 0, none⟩)] (by rfl) rfl rfl (by first | (simp only [List.map_toArray, List.map_cons, List.map_nil, Act.eval, Array.getD_eq_getD_getElem?, Option.getD_some, e8]; done) | (simp only [List.map_toArray, List.map_cons, List.map_nil, Act.eval, Array.getD_eq_getD_getElem?, Option.getD_some, e8]; rfl)) ?_
          with_reducible refine (spec_l71Rough.calls k g463 t461 t462 t464 t467 w _ ?side1 ?side2 A3.out).mono ?_
          (case side1 => exact q23_0)
          (case side2 => exact q23_1)
          rintro e w11 ⟨v465, rfl, ho0, hi, hb, hk⟩
          refine ⟨_, rfl, ?_⟩
          have n0_ := Aside0.mk (KeepBut.blk hk (g' := gb460) (o := .cells #[.slice none 0 0] 25 (0, 0)) q23_2 NB460_463.out (by simp))
          have n1_ := Aside0.mk (Kd.Q_lower ho0 (below_size q23_1))
          have n2_ := Aside0.mk (hb)
          have n3_ := Aside0.mk (hi)
          have z_HO472 := fun (h0_ : b 4 = true) => (show Kd.R (Kd.int .i64) 3 w11 w.heap.size (fun _ => True) v471 y470 from by first | exact (Kd.R_mono (Kd.R_keep (IsS66.apart (show IsS66 w _ g463 t461 t462 from q23_0) q23_3 (by decide)) hk (fun _ h => h.2)) (fun _ h => h.1)) | exact Kd.R_mono (Kd.R_mono (Kd.R_keep (IsS66.apart (show IsS66 w _ g463 t461 t462 from q23_0) q23_3 (by decide)) hk (fun _ h => h.2)) (fun _ h => h.1)) (fun _ h_ => by first | trivial | exact h_ | exact h_.1))
          clear BK460
          clear HB
          clear HI463
          have BK460 := n0_
          have HO466 := n1_
          have HB := n2_
          have HI463 := n3_
          clear n0_ n1_ n2_ n3_
          (try clear hb)
          (try clear hb2)
          (try clear hk)
          (try clear hi)
          (try clear ho0)
          refine hK.out _ _ ⟨v465, v471, adz_v471, (.agg #[v465]), m7_, (by rw [ha.out]; exact putSel_upk 0 hb_ rfl rfl rfl), fun _ => q23_2, fun h0_ => absurd ((up_self b 1).symm.trans h0_) (by decide), q23_1, fun _ => q23_5, fun _ _ => q23_0, fun h0_ _ => absurd ((hoff 3 (by kernel_rfl)).symm.trans h0_) (by decide), z_HO472, Q_HA_HO472, fun h0_ => absurd ((hoff 6 (by kernel_rfl)).symm.trans h0_) (by decide), fun h0_ => absurd ((hoff 9 (by kernel_rfl)).symm.trans h0_) (by decide), fun _ => rfl, fun h0_ => absurd ((hoff 7 (by kernel_rfl)).symm.trans h0_) (by decide)⟩
        refine steps_cons ?_ ?_
        · rintro b a w' ⟨v465, v471, adz_v471, m1_, m7_, ha, Q_BK460, Q_HI463, Q_HB, Q_HO466, Q_HI463_e1, Q_HI463_e3, Q_HO472, Q_HA_HO472, Q_HI463_e6, Q_BK460_e9, Q_X1_, Q_X7_⟩ hb_ hon hoff
          refine ⟨_, rfl, fun K hK => ?_⟩
          have e10 : a.tmps[10]? = some (.pointer (some ⟨g463, 0, none⟩)) := by rw [ha]; exact (putSel_off rfl).trans rfl
          replace ha := Aside0.mk ha
          have BK460 := Aside0.mk (Q_BK460 (hoff 9 (by kernel_rfl)))
          have HB := Aside0.mk Q_HB
          have HO466 := Aside0.mk (Q_HO466 (hon 1 (by kernel_rfl)))
          have HI463 := Aside0.mk (Q_HI463_e1 (hon 1 (by kernel_rfl)) hb_)
          refine goes_ Try.func39 (by kernel_rfl) rfl #[.pointer (some ⟨g463, 0, none⟩)] (by rfl) rfl rfl (by first | (simp only [List.map_toArray, List.map_cons, List.map_nil, Act.eval, Array.getD_eq_getD_getElem?, Option.getD_some, e10]; done) | (simp only [List.map_toArray, List.map_cons, List.map_nil, Act.eval, Array.getD_eq_getD_getElem?, Option.getD_some, e10]; rfl)) ?_
          with_reducible refine (spec_l71Thing.calls k g463 t461 t467 t468 t469 w _ ?side1 ?side2 A4.out).mono ?_
          (case side1 => exact q23_0)
          (case side2 => exact q23_1)
          rintro e w13 ⟨rfl, hi, hb, hk⟩
          refine ⟨_, rfl, ?_⟩
          have n0_ := Aside0.mk (KeepBut.blk hk (g' := gb460) (o := .cells #[.slice none 0 0] 25 (0, 0)) q23_2 NB460_463.out (by simp))
          have n1_ := Aside0.mk (Kd.Q_mono (Kd.Q_keep (IsS66.apartQ (show IsS66 w _ g463 t461 t467 from q23_0) q23_5 (by decide)) hk (fun _ h => h.2)) (fun _ h => h.1))
          have n2_ := Aside0.mk (hb)
          have n3_ := Aside0.mk (hi)
          have z_HO472 := fun (h0_ : b 4 = true) => (show Kd.R (Kd.int .i64) 3 w13 w.heap.size (fun _ => True) v471 y470 from by first | exact (Kd.R_mono (Kd.R_keep (IsS66.apart (show IsS66 w _ g463 t461 t467 from q23_0) q23_3 (by decide)) hk (fun _ h => h.2)) (fun _ h => h.1)) | exact Kd.R_mono (Kd.R_mono (Kd.R_keep (IsS66.apart (show IsS66 w _ g463 t461 t467 from q23_0) q23_3 (by decide)) hk (fun _ h => h.2)) (fun _ h => h.1)) (fun _ h_ => by first | trivial | exact h_ | exact h_.1))
          clear BK460
          clear HO466
          clear HB
          clear HI463
          have BK460 := n0_
          have HO466 := n1_
          have HB := n2_
          have HI463 := n3_
          clear n0_ n1_ n2_ n3_
          (try clear hb)
          (try clear hb2)
          (try clear hk)
          (try clear hi)
          refine hK.out _ _ ⟨v465, v471, adz_v471, m1_, m7_, (by rw [ha.out]; exact putSel_upk 1 hb_ rfl rfl rfl), fun _ => q23_2, fun h0_ => absurd ((hon 1 (by kernel_rfl)).symm.trans h0_) (by decide), q23_1, fun _ => q23_5, fun _ h1_ => absurd ((up_self b 3).symm.trans h1_) (by decide), fun _ _ => q23_0, z_HO472, Q_HA_HO472, fun h0_ => absurd ((hoff 6 (by kernel_rfl)).symm.trans h0_) (by decide), fun h0_ => absurd ((hoff 9 (by kernel_rfl)).symm.trans h0_) (by decide), Q_X1_, fun h0_ => absurd ((hoff 7 (by kernel_rfl)).symm.trans h0_) (by decide)⟩
        refine steps_cons ?_ ?_
        · rintro b a w' ⟨v465, v471, adz_v471, m1_, m7_, ha, Q_BK460, Q_HI463, Q_HB, Q_HO466, Q_HI463_e1, Q_HI463_e3, Q_HO472, Q_HA_HO472, Q_HI463_e6, Q_BK460_e9, Q_X1_, Q_X7_⟩ hb_ hon hoff
          refine ⟨_, rfl, fun K hK => ?_⟩
          replace ha := Aside0.mk ha
          have HB := Aside0.mk Q_HB
          refine Kd.R_lit_step (Kd.int .i64) _ 3 ?hg (N := 12) ?hd (xs := ([0, 1, 1, 5, 30, (-1), 2000] : List Int)) (inner := [.int .i64 0, .int .i64 1, .int .i64 1, .int .i64 5, .int .i64 30, .int .i64 (-1), .int .i64 2000]) (ok := fun _ => True) (okp := fun _ => True) ?hr ?hp (fun _ hk => hk) trivial (Below.refl _ _) (Nat.le_refl _) (by simp) ?_; (case hd => rfl); (case hg => rfl); (case hr => first | (go_simp; done) | (go_simp; rfl)); (case hp => exact (Reps.one (show Kd.M (Kd.int .i64) _ _ _ 0 [.int .i64 0] from rfl) (Reps.one (show Kd.M (Kd.int .i64) _ _ _ 1 [.int .i64 1] from rfl) (Reps.one (show Kd.M (Kd.int .i64) _ _ _ 1 [.int .i64 1] from rfl) (Reps.one (show Kd.M (Kd.int .i64) _ _ _ 5 [.int .i64 5] from rfl) (Reps.one (show Kd.M (Kd.int .i64) _ _ _ 30 [.int .i64 30] from rfl) (Reps.one (show Kd.M (Kd.int .i64) _ _ _ (-1) [.int .i64 (-1)] from rfl) (Reps.one (show Kd.M (Kd.int .i64) _ _ _ 2000 [.int .i64 2000] from rfl) (Reps.none _ _)))))))))
          intro v471 w11 ho12 hb hg_ hnew_
          clear hg_ hnew_
          (first | rw [← Ny470.out] at ho12 | (simp only [Int.reduceToNat] at ho12; rw [← Ny470.out] at ho12))
          have n0_ := Aside0.mk (Kd.R_lower ho12 (below_size q23_4))
          have n3_ := Aside0.mk (below_step q23_4 hb)
          have z_BK460 := fun (h0_ : b 9 = false) => (show w11.heap[gb460]? = some (.cells #[.slice none 0 0] 25 (0, 0)) from by first | exact (blk_below (g := gb460) (o := .cells #[.slice none 0 0] 25 (0, 0)) (by (with_reducible repeat (first | refine blk_drewN ?_ _ | refine blk_drew ?_ | refine blk_alloc ?_ _)); exact (Q_BK460 h0_)) hb))
          have z_HI463 := fun (h0_ : b 1 = false) => (show IsS66 w w11 g463 t461 t462 from by first | exact (IsS66.below (by repeat (first | (with_reducible first | exact (Q_HI463 h0_) | apply IsS66.alloc | apply IsS66.drewN | apply IsS66.drew | apply IsS66.set_1 | refine IsS66.far ?_ NB463_460.out _) | exact (Q_HI463 h0_))) hb))
          have z_HO466 := fun (h0_ : b 1 = true) => (show Kd.Q (Kd.slice 3 (Kd.int .i64)) 43 w11 w.heap.size (fun _ => True) v465 t464 from by first | exact (Kd.Q_elder' q23_7 (Kd.R_base ho12) hb) | exact Kd.Q_mono (Kd.Q_elder' q23_7 (Kd.R_base ho12) hb) (fun _ h_ => by first | trivial | exact h_ | exact h_.1))
          have z_HI463_e1 := fun (h0_ : b 1 = true) (h1_ : b 3 = false) => (show IsS66 w w11 g463 t461 t467 from by first | exact (IsS66.below (by repeat (first | (with_reducible first | exact (Q_HI463_e1 h0_ h1_) | apply IsS66.alloc | apply IsS66.drewN | apply IsS66.drew | apply IsS66.set_1 | refine IsS66.far ?_ NB463_460.out _) | exact (Q_HI463_e1 h0_ h1_))) hb))
          have z_HI463_e3 := fun (h0_ : b 3 = true) (h1_ : b 6 = false) => (show IsS66 w w11 g463 t461 t469 from by first | exact (IsS66.below (by repeat (first | (with_reducible first | exact (Q_HI463_e3 h0_ h1_) | apply IsS66.alloc | apply IsS66.drewN | apply IsS66.drew | apply IsS66.set_1 | refine IsS66.far ?_ NB463_460.out _) | exact (Q_HI463_e3 h0_ h1_))) hb))
          have z_HI463_e6 := fun (h0_ : b 6 = true) => (show IsS66 w w11 g463 t461 t474 from by first | exact (IsS66.below (by repeat (first | (with_reducible first | exact (Q_HI463_e6 h0_) | apply IsS66.alloc | apply IsS66.drewN | apply IsS66.drew | apply IsS66.set_1 | refine IsS66.far ?_ NB463_460.out _) | exact (Q_HI463_e6 h0_))) hb))
          have z_BK460_e9 := fun (h0_ : b 9 = true) => (show w11.heap[gb460]? = some (.cells #[v465] 25 (0, 0)) from by first | exact (blk_below (g := gb460) (o := .cells #[v465] 25 (0, 0)) (by (with_reducible repeat (first | refine blk_drewN ?_ _ | refine blk_drew ?_ | refine blk_alloc ?_ _)); exact (Q_BK460_e9 h0_)) hb))
          clear HB
          have HO472 := n0_
          have HB := n3_
          clear n0_ n3_
          clear hb ho12
          obtain ⟨Ao13, co13, eo13⟩ := Kd.R_slice HO472.out
          subst eo13
          obtain ⟨ado13, fo13, _⟩ := Kd.at_int (Kd.R_reads' HO472.out).2.2 0 (by decide) (by rw [Ny470.out]; simp)
          cases fo13
          refine hK.out _ _ ⟨v465, .slice (some ado13) y470.length co13, ado13, m1_, m7_, (by rw [ha.out]; exact putSel_upk 2 hb_ rfl rfl rfl), z_BK460, z_HI463, q23_4, z_HO466, z_HI463_e1, z_HI463_e3, fun _ => (by (with_reducible repeat (first | apply Kd.R_alloc | apply Kd.R_drewN | apply Kd.R_drew)); exact HO472.out), fun _ => ⟨_, rfl⟩, z_HI463_e6, z_BK460_e9, Q_X1_, fun h0_ => absurd ((hoff 7 (by kernel_rfl)).symm.trans h0_) (by decide)⟩
        refine steps_cons ?_ ?_
        · rintro b a w' ⟨v465, v471, adz_v471, m1_, m7_, ha, Q_BK460, Q_HI463, Q_HB, Q_HO466, Q_HI463_e1, Q_HI463_e3, Q_HO472, Q_HA_HO472, Q_HI463_e6, Q_BK460_e9, Q_X1_, Q_X7_⟩ hb_ hon hoff
          refine ⟨_, rfl, fun K hK => ?_⟩
          have e13 : a.tmps[13]? = some (.pointer (some ⟨g463, 0, none⟩)) := by rw [ha]; exact (putSel_off rfl).trans rfl
          replace ha := Aside0.mk ha
          have BK460 := Aside0.mk (Q_BK460 (hoff 9 (by kernel_rfl)))
          have HB := Aside0.mk Q_HB
          have HO466 := Aside0.mk (Q_HO466 (hon 1 (by kernel_rfl)))
          have HI463 := Aside0.mk (Q_HI463_e3 (hon 3 (by kernel_rfl)) hb_)
          refine goes_ Try.func43 (by kernel_rfl) rfl #[.pointer (some ⟨g463, 0, none⟩), .int .i64 7] (by rfl) rfl rfl (by first | (simp only [List.map_toArray, List.map_cons, List.map_nil, Act.eval, Array.getD_eq_getD_getElem?, Option.getD_some, e13]; done) | (simp only [List.map_toArray, List.map_cons, List.map_nil, Act.eval, Array.getD_eq_getD_getElem?, Option.getD_some, e13]; rfl)) ?_
          with_reducible refine (spec_l6Rd_pick.calls k g463 t461 t469 7 t473 t474 w _ ?side1 ?side2 A5.out).mono ?_
          (case side1 => exact q23_0)
          (case side2 => exact q23_1)
          rintro e w14 ⟨rfl, hi, hb, hk⟩
          refine ⟨_, rfl, ?_⟩
          have n0_ := Aside0.mk (KeepBut.blk hk (g' := gb460) (o := .cells #[.slice none 0 0] 25 (0, 0)) q23_2 NB460_463.out (by simp))
          have n1_ := Aside0.mk (Kd.Q_mono (Kd.Q_keep (IsS66.apartQ (show IsS66 w _ g463 t461 t469 from q23_0) q23_5 (by decide)) hk (fun _ h => h.2)) (fun _ h => h.1))
          have n2_ := Aside0.mk (hb)
          have n3_ := Aside0.mk (hi)
          have z_HO472 := fun (h0_ : b 4 = true) => (show Kd.R (Kd.int .i64) 3 w14 w.heap.size (fun _ => True) v471 y470 from by first | exact (Kd.R_mono (Kd.R_keep (IsS66.apart (show IsS66 w _ g463 t461 t469 from q23_0) q23_3 (by decide)) hk (fun _ h => h.2)) (fun _ h => h.1)) | exact Kd.R_mono (Kd.R_mono (Kd.R_keep (IsS66.apart (show IsS66 w _ g463 t461 t469 from q23_0) q23_3 (by decide)) hk (fun _ h => h.2)) (fun _ h => h.1)) (fun _ h_ => by first | trivial | exact h_ | exact h_.1))
          clear BK460
          clear HO466
          clear HB
          clear HI463
          have BK460 := n0_
          have HO466 := n1_
          have HB := n2_
          have HI463 := n3_
          clear n0_ n1_ n2_ n3_
          (try clear hb)
          (try clear hb2)
          (try clear hk)
          (try clear hi)
          refine hK.out _ _ ⟨v465, v471, adz_v471, m1_, m7_, (by rw [ha.out]; exact putSel_upk 3 hb_ rfl rfl rfl), fun _ => q23_2, fun h0_ => absurd ((hon 1 (by kernel_rfl)).symm.trans h0_) (by decide), q23_1, fun _ => q23_5, fun _ h1_ => absurd ((hon 3 (by kernel_rfl)).symm.trans h1_) (by decide), fun _ h1_ => absurd ((up_self b 6).symm.trans h1_) (by decide), z_HO472, Q_HA_HO472, fun _ => q23_0, fun h0_ => absurd ((hoff 9 (by kernel_rfl)).symm.trans h0_) (by decide), Q_X1_, fun h0_ => absurd ((hoff 7 (by kernel_rfl)).symm.trans h0_) (by decide)⟩
        refine steps_cons ?_ ?_
        · rintro b a w' ⟨v465, v471, adz_v471, m1_, m7_, ha, Q_BK460, Q_HI463, Q_HB, Q_HO466, Q_HI463_e1, Q_HI463_e3, Q_HO472, Q_HA_HO472, Q_HI463_e6, Q_BK460_e9, Q_X1_, Q_X7_⟩ hb_ hon hoff
          refine ⟨_, rfl, fun K hK => ?_⟩
          have e12 : a.tmps[12]? = some (v471) := by rw [ha]; exact putSel_on (e := (4, 12, v471)) 2 rfl rfl (hon 4 (by kernel_rfl)) rfl
          have e14 : a.tmps[14]? = some (.int .i64 t473) := by rw [ha]; exact putSel_on (e := (6, 14, .int .i64 t473)) 3 rfl rfl (hon 6 (by kernel_rfl)) rfl
          replace ha := Aside0.mk ha
          have HB := Aside0.mk Q_HB
          have HO466 := Aside0.mk (Q_HO466 (hon 1 (by kernel_rfl)))
          have HO472 := Aside0.mk (Q_HO472 (hon 4 (by kernel_rfl)))
          have HA_HO472 := Aside0.mk (Q_HA_HO472 (hon 4 (by kernel_rfl)))
          have HI463 := Aside0.mk (Q_HI463_e6 (hon 6 (by kernel_rfl)))
          obtain ⟨c_, hv_⟩ := HA_HO472.out
          rw [hv_] at e12
          refine value_ (w1 := w') (v := .pointer (some (adz_v471.add (t473).toNat))) (by rfl) rfl ?_ ?_
          · go_simp
            (try simp only [i64_w])
            try rfl
          refine hK.out _ _ ⟨v465, v471, adz_v471, m1_, (.pointer (some (adz_v471.add (t473).toNat))), (by rw [ha.out]; exact putSel_upk 4 hb_ rfl rfl rfl), Q_BK460, fun h0_ => absurd ((hon 1 (by kernel_rfl)).symm.trans h0_) (by decide), Q_HB, Q_HO466, fun _ h1_ => absurd ((hon 3 (by kernel_rfl)).symm.trans h1_) (by decide), fun _ h1_ => absurd ((hon 6 (by kernel_rfl)).symm.trans h1_) (by decide), Q_HO472, Q_HA_HO472, Q_HI463_e6, Q_BK460_e9, Q_X1_, fun _ => rfl⟩
        refine steps_cons ?_ ?_
        · rintro b a w' ⟨v465, v471, adz_v471, m1_, m7_, ha, Q_BK460, Q_HI463, Q_HB, Q_HO466, Q_HI463_e1, Q_HI463_e3, Q_HO472, Q_HA_HO472, Q_HI463_e6, Q_BK460_e9, Q_X1_, Q_X7_⟩ hb_ hon hoff
          refine ⟨_, rfl, fun K hK => ?_⟩
          have e15 : a.tmps[15]? = some (m7_) := by rw [ha]; exact putSel_on (e := (7, 15, m7_)) 4 rfl rfl (hon 7 (by kernel_rfl)) rfl
          rw [Q_X7_ (hon 7 (by kernel_rfl))] at e15
          replace ha := Aside0.mk ha
          have HB := Aside0.mk Q_HB
          have HO466 := Aside0.mk (Q_HO466 (hon 1 (by kernel_rfl)))
          have HO472 := Aside0.mk (Q_HO472 (hon 4 (by kernel_rfl)))
          have HA_HO472 := Aside0.mk (Q_HA_HO472 (hon 4 (by kernel_rfl)))
          have HI463 := Aside0.mk (Q_HI463_e6 (hon 6 (by kernel_rfl)))
          obtain ⟨c_, hv_⟩ := HA_HO472.out
          have hF_ := HO472.out
          rw [hv_] at hF_
          obtain ⟨ad_, ea_, hx_⟩ := Kd.at_int (Kd.R_reads' hF_).2.2 t473 (of_eq_true pi475) (of_eq_true qi475)
          cases ea_
          refine value_ (w1 := w') (v := .int .i64 (rd y470 t473)) (by rfl) rfl ?_ ?_
          · go_simp
            (try simp only [i64_w])
            try rfl
          refine hK.out _ _ ⟨v465, v471, adz_v471, m1_, m7_, (by rw [ha.out]; exact putSel_upk 5 hb_ rfl rfl rfl), Q_BK460, fun h0_ => absurd ((hon 1 (by kernel_rfl)).symm.trans h0_) (by decide), Q_HB, Q_HO466, fun _ h1_ => absurd ((hon 3 (by kernel_rfl)).symm.trans h1_) (by decide), fun _ h1_ => absurd ((hon 6 (by kernel_rfl)).symm.trans h1_) (by decide), Q_HO472, Q_HA_HO472, Q_HI463_e6, Q_BK460_e9, Q_X1_, Q_X7_⟩
        refine steps_cons ?_ ?_
        · rintro b a w' ⟨v465, v471, adz_v471, m1_, m7_, ha, Q_BK460, Q_HI463, Q_HB, Q_HO466, Q_HI463_e1, Q_HI463_e3, Q_HO472, Q_HA_HO472, Q_HI463_e6, Q_BK460_e9, Q_X1_, Q_X7_⟩ hb_ hon hoff
          refine ⟨_, rfl, fun K hK => ?_⟩
          have e2 : a.tmps[2]? = some (.pointer (some ⟨gb460, 0, none⟩)) := by rw [ha]; exact (putSel_off rfl).trans rfl
          have e9 : a.tmps[9]? = some (m1_) := by rw [ha]; exact putSel_on (e := (1, 9, m1_)) 0 rfl rfl (hon 1 (by kernel_rfl)) rfl
          rw [Q_X1_ (hon 1 (by kernel_rfl))] at e9
          replace ha := Aside0.mk ha
          have BK460 := Aside0.mk (Q_BK460 hb_)
          have HB := Aside0.mk Q_HB
          have HO466 := Aside0.mk (Q_HO466 (hon 1 (by kernel_rfl)))
          have HI463 := Aside0.mk (Q_HI463_e6 (hon 6 (by kernel_rfl)))
          obtain ⟨Ao15, co15, eo15, _⟩ := Kd.Q_slice HO466.out
          (first | subst eo15 | (injection eo15 with f1_ f2_ f3_; have f4_ := f1_.symm; have f5_ := f3_.symm; clear f1_ f2_ f3_; subst f4_; subst f5_))
          have hs16 : w'.cell? ⟨gb460, 0, none⟩ = some (.slice none 0 0) := (blk_cell BK460.out 0).trans rfl
          have hfs16 := blk_frozen BK460.out 0
          refine skip_ (w1 := ?_) (by rfl) rfl ?_ ?_
          rotate_left
          · go_simp
            rfl
          refine hK.out _ _ ⟨.slice Ao15 t464.length co15, v471, adz_v471, m1_, m7_, (by rw [ha.out]; exact putSel_none (v := undef) rfl), fun h0_ => absurd ((up_self b 9).symm.trans h0_) (by decide), fun h0_ => absurd ((hon 1 (by kernel_rfl)).symm.trans h0_) (by decide), q23_1, fun _ => (by (with_reducible repeat (first | apply Kd.Q_alloc | apply Kd.Q_drewN | apply Kd.Q_drew)); exact Kd.Q_mono (Kd.Q_far (p := ⟨gb460, 0, none⟩) (Kd.Q_types HO466.out BK460.out (by decide)) (fun _ hk => hk.2) (.slice Ao15 t464.length co15)) (fun _ hk => trivial)), fun _ h1_ => absurd ((hon 3 (by kernel_rfl)).symm.trans h1_) (by decide), fun _ h1_ => absurd ((hon 6 (by kernel_rfl)).symm.trans h1_) (by decide), fun h0_ => (by (with_reducible repeat (first | apply Kd.R_alloc | apply Kd.R_drewN | apply Kd.R_drew)); exact Kd.R_mono (Kd.R_far (p := ⟨gb460, 0, none⟩) (Kd.R_types (Q_HO472 h0_) BK460.out (by decide)) (fun _ hk => hk.2) (.slice Ao15 t464.length co15)) (fun _ hk => trivial)), Q_HA_HO472, fun _ => q23_0, fun _ => (by (with_reducible repeat (first | refine blk_drewN ?_ _ | refine blk_drew ?_ | refine blk_alloc ?_ _)); refine blk_put (cs := #[.slice none 0 0]) ?_ 0 _ rfl; (with_reducible repeat (first | refine blk_drewN ?_ _ | refine blk_drew ?_ | refine blk_alloc ?_ _)); exact BK460.out), Q_X1_, Q_X7_⟩
        refine steps_cons ?_ ?_
        · rintro b a w' ⟨v465, v471, adz_v471, m1_, m7_, ha, Q_BK460, Q_HI463, Q_HB, Q_HO466, Q_HI463_e1, Q_HI463_e3, Q_HO472, Q_HA_HO472, Q_HI463_e6, Q_BK460_e9, Q_X1_, Q_X7_⟩ hb_ hon hoff
          refine ⟨_, rfl, fun K hK => ?_⟩
          have e11 : a.tmps[11]? = some (.int .i64 t468) := by rw [ha]; exact putSel_on (e := (3, 11, .int .i64 t468)) 1 rfl rfl (hon 3 (by kernel_rfl)) rfl
          replace ha := Aside0.mk ha
          have HB := Aside0.mk Q_HB
          have HO466 := Aside0.mk (Q_HO466 (hon 1 (by kernel_rfl)))
          have HI463 := Aside0.mk (Q_HI463_e6 (hon 6 (by kernel_rfl)))
          have BK460 := Aside0.mk (Q_BK460_e9 (hon 9 (by kernel_rfl)))
          refine value_ (w1 := w') (v := .int .i64 t468) (by rfl) rfl ?_ ?_
          · go_simp
            (try simp only [i64_w])
            try rfl
          refine hK.out _ _ ⟨v465, v471, adz_v471, m1_, m7_, (by rw [ha.out]; exact putSel_upk 6 hb_ rfl rfl rfl), fun h0_ => absurd ((hon 9 (by kernel_rfl)).symm.trans h0_) (by decide), fun h0_ => absurd ((hon 1 (by kernel_rfl)).symm.trans h0_) (by decide), Q_HB, Q_HO466, fun _ h1_ => absurd ((hon 3 (by kernel_rfl)).symm.trans h1_) (by decide), fun _ h1_ => absurd ((hon 6 (by kernel_rfl)).symm.trans h1_) (by decide), Q_HO472, Q_HA_HO472, Q_HI463_e6, Q_BK460_e9, Q_X1_, Q_X7_⟩
        refine steps_cons ?_ ?_
        · rintro b a w' ⟨v465, v471, adz_v471, m1_, m7_, ha, Q_BK460, Q_HI463, Q_HB, Q_HO466, Q_HI463_e1, Q_HI463_e3, Q_HO472, Q_HA_HO472, Q_HI463_e6, Q_BK460_e9, Q_X1_, Q_X7_⟩ hb_ hon hoff
          refine ⟨_, rfl, fun K hK => ?_⟩
          have e16 : a.tmps[16]? = some (.int .i64 (rd y470 t473)) := by rw [ha]; exact putSel_on (e := (8, 16, .int .i64 (rd y470 t473))) 5 rfl rfl (hon 8 (by kernel_rfl)) rfl
          replace ha := Aside0.mk ha
          have HB := Aside0.mk Q_HB
          have HO466 := Aside0.mk (Q_HO466 (hon 1 (by kernel_rfl)))
          have HO472 := Aside0.mk (Q_HO472 (hon 4 (by kernel_rfl)))
          have HA_HO472 := Aside0.mk (Q_HA_HO472 (hon 4 (by kernel_rfl)))
          have HI463 := Aside0.mk (Q_HI463_e6 (hon 6 (by kernel_rfl)))
          have BK460 := Aside0.mk (Q_BK460_e9 (hon 9 (by kernel_rfl)))
          refine value_ (w1 := w') (v := .int .i64 (rd y470 t473)) (by rfl) rfl ?_ ?_
          · go_simp
            (try simp only [i64_w])
            try rfl
          refine hK.out _ _ ⟨v465, v471, adz_v471, m1_, m7_, (by rw [ha.out]; exact putSel_upk 7 hb_ rfl rfl rfl), fun h0_ => absurd ((hon 9 (by kernel_rfl)).symm.trans h0_) (by decide), fun h0_ => absurd ((hon 1 (by kernel_rfl)).symm.trans h0_) (by decide), Q_HB, Q_HO466, fun _ h1_ => absurd ((hon 3 (by kernel_rfl)).symm.trans h1_) (by decide), fun _ h1_ => absurd ((hon 6 (by kernel_rfl)).symm.trans h1_) (by decide), Q_HO472, Q_HA_HO472, Q_HI463_e6, Q_BK460_e9, Q_X1_, Q_X7_⟩
        exact steps_nil
      rintro b a w19 hall ⟨v465, v471, adz_v471, m1_, m7_, ha, Q_BK460, Q_HI463, Q_HB, Q_HO466, Q_HI463_e1, Q_HI463_e3, Q_HO472, Q_HA_HO472, Q_HI463_e6, Q_BK460_e9, Q_X1_, Q_X7_⟩
      clear BK460 HB HI463
      have hb1_ := hall 1 (by kernel_rfl)
      have hb3_ := hall 3 (by kernel_rfl)
      have hb4_ := hall 4 (by kernel_rfl)
      have hb6_ := hall 6 (by kernel_rfl)
      have hb7_ := hall 7 (by kernel_rfl)
      have hb8_ := hall 8 (by kernel_rfl)
      have hb9_ := hall 9 (by kernel_rfl)
      have hb10_ := hall 10 (by kernel_rfl)
      have hb11_ := hall 11 (by kernel_rfl)
      subst ha
      obtain rfl := Q_X1_ hb1_
      obtain rfl := Q_X7_ hb7_
      simp only [putSel, hb1_, hb3_, hb4_, hb6_, hb7_, hb8_, hb9_, hb10_, hb11_, if_true, Act.put, List.setIfInBounds_toArray, List.set_cons_zero, List.set_cons_succ]
      clear Q_BK460
      clear Q_HI463
      have HB := Aside0.mk Q_HB
      clear Q_HB
      have HO466 := Aside0.mk (Q_HO466 hb1_)
      clear Q_HO466
      clear Q_HI463_e1
      clear Q_HI463_e3
      have HO472 := Aside0.mk (Q_HO472 hb4_)
      clear Q_HO472
      have HA_HO472 := Aside0.mk (Q_HA_HO472 hb4_)
      clear Q_HA_HO472
      have HI463 := Aside0.mk (Q_HI463_e6 hb6_)
      clear Q_HI463_e6
      have BK460 := Aside0.mk (Q_BK460_e9 hb9_)
      clear Q_BK460_e9
      clear hall hb1_ hb3_ hb4_ hb6_ hb7_ hb8_ hb9_ hb10_ hb11_
      obtain ⟨co20, eo20⟩ := HA_HO472.out
      clear HA_HO472
      subst eo20
      try go_wp2
      refine bodyPost_ret (results_ctt rfl _ _ gb460 25 #[v465] (0, 0) _ rfl q23_2 Try.underlying25 rfl (by kernel_rfl)) rfl ?_
      exact ⟨_, by first | rfl | (simp [errW_none, errW_some] <;> rfl) | (simp [*, errW_none, errW_some] <;> rfl), by (with_reducible repeat (first | apply Kd.Q_alloc | apply Kd.Q_drewN | apply Kd.Q_drew)); exact Kd.Q_mono HO466.out (fun _ hk => trivial), q23_1⟩
    · rw [if_neg c7] at H
      exact absurd H (by simp)
  · rw [if_neg c6] at H
    exact absurd H (by simp)

end Go.Proofs.Ytojhkhpgahhacaa.PA
