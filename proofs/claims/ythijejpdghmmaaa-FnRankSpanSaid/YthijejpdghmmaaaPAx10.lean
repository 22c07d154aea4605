-- Made by a program of this session (wip/tools/pr2.sh) out of the translation, by way of the printer: shared by the seat's laws.
import Derived.Test.YthijejpdghmmaaaPAx0
import Derived.Test.YthijejpdghmmaaaPAx4
import Derived.Test.YthijejpdghmmaaaPAx5
import Derived.Test.YthijejpdghmmaaaPAx9
namespace Go.Proofs.Ythijejpdghmmaaa.PA
open Go.RowKit Go.Proofs.YthijejpdghmmaaaW.PrintWords Go.Proofs.YthijejpdghmmaaaW.PrintLast Go.Proofs.YthijejpdghmmaaaW.PrintMore
attribute [local go_sem] max2_int min2_int max_two min_two max_three min_three max_four min_four   -- for this text's walks alone
set_option linter.unusedVariables false
set_option linter.unusedSimpArgs false

/-! ### laws_FnRankSpan: function 5 -/
def laws_FnRankSpan.j0 : Nat → Int → Int → Int → Int → Int → Bool → Option (Bool)
  | 0, _, _, _, _, _, _ => none
  | k + 1, x3, x4, x5, x6, x7, x42 => if x42 = true then (if x6 = x4 then (if x7 = x5 then (some (decide (x6 > x7))) else (some false)) else (some false)) else (if x3 ≥ 64 then (if x6 = (wrap64 (x3 - 64)) then (some (x7 == x6)) else (some false)) else ((impl_RankSpan.f k (wrap64 (2 * x3))).bind fun bt124 => ((impl_RankSpan.f k (wrap64 ((wrap64 (2 * x3)) + 1))).bind fun bt126 => (if x6 = bt124.1 then (if (wrap64 (bt124.2 + 1)) = bt126.1 then (if bt126.2 = x7 then (some ((wrap64 (bt124.2 - bt124.1)) == (wrap64 (bt126.2 - bt126.1)))) else (some false)) else (some false)) else (some false)))))
def laws_FnRankSpan.f (k : Nat) (l0 : List Int) : Option (Bool) := if (l0.length : Int) > 1048576 then (some true) else ((spec_DrawRankSpan.f k l0).bind fun t119 => ((spec_RankSpan.f k t119).bind fun bt120 => ((impl_RankSpan.f k t119).bind fun bt122 => (if bt122.1 = bt120.1 then (if bt122.2 = bt120.2 then (if t119 < 1 then (laws_FnRankSpan.j0 k t119 bt120.1 bt120.2 bt122.1 bt122.2 true) else (laws_FnRankSpan.j0 k t119 bt120.1 bt120.2 bt122.1 bt122.2 (decide (t119 ≥ 128)))) else (laws_FnRankSpan.j0 k t119 bt120.1 bt120.2 bt122.1 bt122.2 true)) else (laws_FnRankSpan.j0 k t119 bt120.1 bt120.2 bt122.1 bt122.2 true)))))
theorem laws_FnRankSpan.mono_l : ∀ k, (∀ y0 y1 y2 y3 y4 y5, LeO (laws_FnRankSpan.j0 k y0 y1 y2 y3 y4 y5) (laws_FnRankSpan.j0 (k + 1) y0 y1 y2 y3 y4 y5))
  | 0 => fun _ _ _ _ _ _ r h => by simp [laws_FnRankSpan.j0] at h
  | k + 1 => by
    have ih0 := laws_FnRankSpan.mono_l k
    · intro y0 y1 y2 y3 y4 y5
      unfold laws_FnRankSpan.j0
      repeat' first
      | (with_reducible exact ih0 _ _ _ _ _ _)
      | (with_reducible exact impl_RankSpan.mono _ _)
      | (with_reducible exact spec_DrawRankSpan.mono _ _)
      | (with_reducible exact spec_RankSpan.mono _ _)
      | (with_reducible exact LeO.refl _)
      | (with_reducible exact LeO.none _)
      | (with_reducible refine LeO.ite ?_ ?_)
      | (with_reducible refine LeO.bind ?_ (fun _ => ?_))
      | exact ih0 _ _ _ _ _ _
      | exact impl_RankSpan.mono _ _
      | exact spec_DrawRankSpan.mono _ _
      | exact spec_RankSpan.mono _ _
      | exact LeO.none _
      | refine LeO.ite ?_ ?_
      | refine LeO.bind ?_ (fun _ => ?_)
theorem laws_FnRankSpan.mono : ∀ a0 k, LeO (laws_FnRankSpan.f k a0) (laws_FnRankSpan.f (k + 1) a0) := by
  intro a0 k
  have ih0 := laws_FnRankSpan.mono_l k
  unfold laws_FnRankSpan.f
  repeat' first
      | (with_reducible exact ih0 _ _ _ _ _ _)
      | (with_reducible exact impl_RankSpan.mono _ _)
      | (with_reducible exact spec_DrawRankSpan.mono _ _)
      | (with_reducible exact spec_RankSpan.mono _ _)
      | (with_reducible exact LeO.refl _)
      | (with_reducible exact LeO.none _)
      | (with_reducible refine LeO.ite ?_ ?_)
      | (with_reducible refine LeO.bind ?_ (fun _ => ?_))
      | exact ih0 _ _ _ _ _ _
      | exact impl_RankSpan.mono _ _
      | exact spec_DrawRankSpan.mono _ _
      | exact spec_RankSpan.mono _ _
      | exact LeO.none _
      | refine LeO.ite ?_ ?_
      | refine LeO.bind ?_ (fun _ => ?_)
set_option maxHeartbeats 8000000 in
set_option maxRecDepth 100000 in
theorem laws_FnRankSpan.calls (k : Nat) (A0 : Option Addr) (c0 : Nat) (l0 : List Int) (r : Bool) (w : World) (hr0 : Kd.C (Kd.int .u8) w A0 l0.length l0) (hc0 : l0.length ≤ c0) (h : laws_FnRankSpan.f k l0 = some r) :
    Calls Try.prog 5 #[.slice A0 l0.length c0] w fun e w' => e = .returned (.bool r) ∧ Below w.heap.size w w' := by
  have HR0 := Aside0.mk hr0
  have HC0 := Aside0.mk hc0
  clear hr0 hc0
  have HB := Aside0.mk (Below.refl w.heap.size w)
  have H : (if (l0.length : Int) > 1048576 then (some true) else ((spec_DrawRankSpan.f k l0).bind fun t119 => ((spec_RankSpan.f k t119).bind fun bt120 => ((impl_RankSpan.f k t119).bind fun bt122 => (if bt122.1 = bt120.1 then (if bt122.2 = bt120.2 then (if t119 < 1 then (laws_FnRankSpan.j0 k t119 bt120.1 bt120.2 bt122.1 bt122.2 true) else (laws_FnRankSpan.j0 k t119 bt120.1 bt120.2 bt122.1 bt122.2 (decide (t119 ≥ 128)))) else (laws_FnRankSpan.j0 k t119 bt120.1 bt120.2 bt122.1 bt122.2 true)) else (laws_FnRankSpan.j0 k t119 bt120.1 bt120.2 bt122.1 bt122.2 true)))))) = some r := h
  clear h
  by_cases c2 : (l0.length : Int) > 1048576
  · rw [if_pos c2] at H
    have c2b0 : decide (1048576 < (l0.length : Int)) = true := decide_eq_true c2
    have c2b1 : decide (1048576 < l0.length) = true := decide_eq_true (by omega)
    clear c2
    obtain rfl := Option.some.inj H
    go_enter Try.func5, Try.ntmps5
    go_wp2
    go_ret
    exact ⟨by first | rfl | (simp [errW_none, errW_some] <;> rfl) | (simp [*, errW_none, errW_some] <;> rfl), by repeat (first | (with_reducible first | exact HB.out | apply below_alloc | apply pw_below_drewN | apply below_drew1) | exact HB.out)⟩
  · rw [if_neg c2] at H
    have c2b0 : decide (1048576 < (l0.length : Int)) = false := decide_eq_false c2
    have c2b1 : decide (1048576 < l0.length) = false := decide_eq_false (by omega)
    clear c2
    replace H := Option.bind_eq_some_iff.mp H
    obtain ⟨t119, A30, H⟩ := H
    replace H : ((spec_RankSpan.f k t119).bind fun bt120 => ((impl_RankSpan.f k t119).bind fun bt122 => (if bt122.1 = bt120.1 then (if bt122.2 = bt120.2 then (if t119 < 1 then (laws_FnRankSpan.j0 k t119 bt120.1 bt120.2 bt122.1 bt122.2 true) else (laws_FnRankSpan.j0 k t119 bt120.1 bt120.2 bt122.1 bt122.2 (decide (t119 ≥ 128)))) else (laws_FnRankSpan.j0 k t119 bt120.1 bt120.2 bt122.1 bt122.2 true)) else (laws_FnRankSpan.j0 k t119 bt120.1 bt120.2 bt122.1 bt122.2 true)))) = some r := H
    have A3 := Aside0.mk A30
    clear A30
    replace H := Option.bind_eq_some_iff.mp H
    obtain ⟨⟨t120, t121⟩, A40, H⟩ := H
    replace H : ((impl_RankSpan.f k t119).bind fun bt122 => (if bt122.1 = t120 then (if bt122.2 = t121 then (if t119 < 1 then (laws_FnRankSpan.j0 k t119 t120 t121 bt122.1 bt122.2 true) else (laws_FnRankSpan.j0 k t119 t120 t121 bt122.1 bt122.2 (decide (t119 ≥ 128)))) else (laws_FnRankSpan.j0 k t119 t120 t121 bt122.1 bt122.2 true)) else (laws_FnRankSpan.j0 k t119 t120 t121 bt122.1 bt122.2 true))) = some r := H
    have A4 := Aside0.mk A40
    clear A40
    replace H := Option.bind_eq_some_iff.mp H
    obtain ⟨⟨t122, t123⟩, A50, H⟩ := H
    replace H : (if t122 = t120 then (if t123 = t121 then (if t119 < 1 then (laws_FnRankSpan.j0 k t119 t120 t121 t122 t123 true) else (laws_FnRankSpan.j0 k t119 t120 t121 t122 t123 (decide (t119 ≥ 128)))) else (laws_FnRankSpan.j0 k t119 t120 t121 t122 t123 true)) else (laws_FnRankSpan.j0 k t119 t120 t121 t122 t123 true)) = some r := H
    have A5 := Aside0.mk A50
    clear A50
    have HC6 := Aside0.mk H
    clear H
    go_enter Try.func5, Try.ntmps5
    go_upto_region 6 with (first | ((with_reducible refine gate_callee (f := 14) rfl ?_); refine goesL_ (some 16) rfl rfl Try.func14 (by kernel_rfl) rfl #[.slice A0 l0.length c0] rfl (by (try simp only [List.map_toArray, List.map_cons, List.map_nil]); first | done | rfl | (simp only [List.length_drop, List.length_take]; rfl)) ?_; (with_reducible refine (spec_DrawRankSpan.calls k _ _ l0 t119 _ ?side1 ?side2 A3.out).mono ?_); (case side1 => repeat (first | exact HR0.out | (with_reducible refine Kd.C_alloc ?_ _) | (with_reducible refine Kd.C_drewN ?_ _) | (with_reducible refine Kd.C_drew ?_))); (case side2 => exact HC0.out); rintro e w7 ⟨rfl, hb⟩; refine ⟨_, rfl, ?_⟩; have n0_ := Aside0.mk (below_step (by repeat (first | (with_reducible first | exact HB.out | apply below_alloc | apply pw_below_drewN | apply below_drew1) | exact HB.out)) hb); clear HB; have HB := n0_; clear n0_; (try clear hb); (try clear hb2); (try clear hk); (try clear hi)) | ((with_reducible refine gate_callee (f := 12) rfl ?_); refine goesL_ (some 19) rfl rfl Try.func12 (by kernel_rfl) rfl #[.int .i64 t119] rfl (by (try simp only [List.map_toArray, List.map_cons, List.map_nil]); first | done | rfl | (simp only [List.length_drop, List.length_take]; rfl)) ?_; (with_reducible refine (spec_RankSpan.calls k t119 t120 t121 _ A4.out).mono ?_); rintro e w' ⟨rfl, ⟨nd, rfl⟩⟩; refine ⟨_, rfl, ?_⟩) | ((with_reducible refine gate_callee (f := 13) rfl ?_); refine goesL_ (some 24) rfl rfl Try.func13 (by kernel_rfl) rfl #[.int .i64 t119] rfl (by (try simp only [List.map_toArray, List.map_cons, List.map_nil]); first | done | rfl | (simp only [List.length_drop, List.length_take]; rfl)) ?_; (with_reducible refine (impl_RankSpan.calls k t119 t122 t123 _ A5.out).mono ?_); rintro e w' ⟨rfl, ⟨nd, rfl⟩⟩; refine ⟨_, rfl, ?_⟩))
    (try simp only [Act.put, List.setIfInBounds_toArray, List.set_cons_zero, List.set_cons_succ])
    go_cut [42] (fun v42 wc => ∃ (kq : Nat) (x42_5 : Bool), v42 = .bool x42_5 ∧ Aside0 (laws_FnRankSpan.j0 kq t119 t120 t121 t122 t123 x42_5 = some r) ∧ Aside0 (kq ≤ k) ∧ Aside0 (Below w.heap.size w wc))
    case first =>
      have H := HC6.out
      clear HC6
      by_cases c8 : t122 = t120
      · rw [if_pos c8] at H
        have c8b0 : (t122 == t120) = true := beq_iff_eq.mpr c8
        have c8b1 : (t122 != t120) = false := bne_eq_false_iff_eq.mpr c8
        clear c8
        (first | rw [c8b0] | (simp only [i64_w, i32_w]; rw [c8b0]) | skip)
        by_cases c9 : t123 = t121
        · rw [if_pos c9] at H
          have c9b0 : (t123 == t121) = true := beq_iff_eq.mpr c9
          have c9b1 : (t123 != t121) = false := bne_eq_false_iff_eq.mpr c9
          clear c9
          by_cases c10 : t119 < 1
          · rw [if_pos c10] at H
            have c10b0 : decide (t119 < 1) = true := decide_eq_true c10
            clear c10
            have H' := Aside0.mk H
            clear H
            go_wp2
            go_meet
            case rel => exact ⟨_, (true), (by first | rfl | (simp; done) | (simp [*]; done)), H', ⟨by first | omega | exact Nat.le_refl _⟩, ⟨by repeat (first | (with_reducible first | exact HB.out | apply below_alloc | apply pw_below_drewN | apply below_drew1) | exact HB.out)⟩⟩
          · rw [if_neg c10] at H
            have c10b0 : decide (t119 < 1) = false := decide_eq_false c10
            clear c10
            have H' := Aside0.mk H
            clear H
            go_wp2
            go_meet
            case rel => exact ⟨_, (decide (t119 ≥ 128)), (by first | rfl | (simp; done) | (simp [*]; done)), H', ⟨by first | omega | exact Nat.le_refl _⟩, ⟨by repeat (first | (with_reducible first | exact HB.out | apply below_alloc | apply pw_below_drewN | apply below_drew1) | exact HB.out)⟩⟩
        · rw [if_neg c9] at H
          have c9b0 : (t123 == t121) = false := beq_eq_false_iff_ne.mpr c9
          have c9b1 : (t123 != t121) = true := bne_iff_ne.mpr c9
          have H' := Aside0.mk H
          clear H
          go_wp2
          go_meet
          case rel => exact ⟨_, (true), (by first | rfl | (simp; done) | (simp [*]; done)), H', ⟨by first | omega | exact Nat.le_refl _⟩, ⟨by repeat (first | (with_reducible first | exact HB.out | apply below_alloc | apply pw_below_drewN | apply below_drew1) | exact HB.out)⟩⟩
      · rw [if_neg c8] at H
        have c8b0 : (t122 == t120) = false := beq_eq_false_iff_ne.mpr c8
        have c8b1 : (t122 != t120) = true := bne_iff_ne.mpr c8
        (first | rw [c8b0] | (simp only [i64_w, i32_w]; rw [c8b0]) | skip)
        have H' := Aside0.mk H
        clear H
        go_wp2
        go_meet
        case rel => exact ⟨_, (true), (by first | rfl | (simp; done) | (simp [*]; done)), H', ⟨by first | omega | exact Nat.le_refl _⟩, ⟨by repeat (first | (with_reducible first | exact HB.out | apply below_alloc | apply pw_below_drewN | apply below_drew1) | exact HB.out)⟩⟩
    case rest =>
      clear HC6
      try clear c1
      try clear c2
      try clear c2b0
      try clear c2b1
      try clear p2
      try clear c5
      try clear c8
      try clear c8b0
      try clear c8b1
      try clear c9
      try clear c9b0
      try clear c9b1
      try clear c10
      try clear c10b0
      obtain ⟨kq, x42_5, rfl, HA, HJ5, HB⟩ := hcut
      cases kq with
      | zero => exact absurd HA.out (by simp [laws_FnRankSpan.j0])
      | succ kj5 =>
        have H := HA.out
        clear HA
        simp only [laws_FnRankSpan.j0] at H
        by_cases c11 : x42_5 = true
        · subst c11
          have H1 : (if t122 = t120 then (if t123 = t121 then (some (decide (t122 > t123))) else (some false)) else (some false)) = some r := by rw [if_pos rfl] at H; exact H
          clear H
          have H := H1
          clear H1
          by_cases c12 : t122 = t120
          · rw [if_pos c12] at H
            have c12b0 : (t122 == t120) = true := beq_iff_eq.mpr c12
            have c12b1 : (t122 != t120) = false := bne_eq_false_iff_eq.mpr c12
            clear c12
            by_cases c13 : t123 = t121
            · rw [if_pos c13] at H
              have c13b0 : (t123 == t121) = true := beq_iff_eq.mpr c13
              have c13b1 : (t123 != t121) = false := bne_eq_false_iff_eq.mpr c13
              clear c13
              obtain rfl := Option.some.inj H
              go_wp2
              go_ret
              exact ⟨by first | rfl | (simp [errW_none, errW_some] <;> rfl) | (simp [*, errW_none, errW_some] <;> rfl), by repeat (first | (with_reducible first | exact HB.out | apply below_alloc | apply pw_below_drewN | apply below_drew1) | exact HB.out)⟩
            · rw [if_neg c13] at H
              have c13b0 : (t123 == t121) = false := beq_eq_false_iff_ne.mpr c13
              have c13b1 : (t123 != t121) = true := bne_iff_ne.mpr c13
              obtain rfl := Option.some.inj H
              go_wp2
              go_ret
              exact ⟨by first | rfl | (simp [errW_none, errW_some] <;> rfl) | (simp [*, errW_none, errW_some] <;> rfl), by repeat (first | (with_reducible first | exact HB.out | apply below_alloc | apply pw_below_drewN | apply below_drew1) | exact HB.out)⟩
          · rw [if_neg c12] at H
            have c12b0 : (t122 == t120) = false := beq_eq_false_iff_ne.mpr c12
            have c12b1 : (t122 != t120) = true := bne_iff_ne.mpr c12
            obtain rfl := Option.some.inj H
            go_wp2
            go_ret
            exact ⟨by first | rfl | (simp [errW_none, errW_some] <;> rfl) | (simp [*, errW_none, errW_some] <;> rfl), by repeat (first | (with_reducible first | exact HB.out | apply below_alloc | apply pw_below_drewN | apply below_drew1) | exact HB.out)⟩
        · replace c11 := Bool.eq_false_iff.mpr c11
          subst c11
          have H1 : (if t119 ≥ 64 then (if t122 = (wrap64 (t119 - 64)) then (some (t123 == t122)) else (some false)) else ((impl_RankSpan.f kj5 (wrap64 (2 * t119))).bind fun bt124 => ((impl_RankSpan.f kj5 (wrap64 ((wrap64 (2 * t119)) + 1))).bind fun bt126 => (if t122 = bt124.1 then (if (wrap64 (bt124.2 + 1)) = bt126.1 then (if bt126.2 = t123 then (some ((wrap64 (bt124.2 - bt124.1)) == (wrap64 (bt126.2 - bt126.1)))) else (some false)) else (some false)) else (some false))))) = some r := by rw [if_neg (show ¬ (false = true) by decide)] at H; exact H
          clear H
          have H := H1
          clear H1
          by_cases c14 : t119 ≥ 64
          · rw [if_pos c14] at H
            have c14b0 : decide (64 ≤ t119) = true := decide_eq_true c14
            clear c14
            by_cases c15 : t122 = (wrap64 (t119 - 64))
            · rw [if_pos c15] at H
              have c15b0 : (t122 == (wrap64 (t119 - 64))) = true := beq_iff_eq.mpr c15
              have c15b1 : (t122 != (wrap64 (t119 - 64))) = false := bne_eq_false_iff_eq.mpr c15
              clear c15
              obtain rfl := Option.some.inj H
              go_wp2
              go_ret
              exact ⟨by first | rfl | (simp [errW_none, errW_some] <;> rfl) | (simp [*, errW_none, errW_some] <;> rfl), by repeat (first | (with_reducible first | exact HB.out | apply below_alloc | apply pw_below_drewN | apply below_drew1) | exact HB.out)⟩
            · rw [if_neg c15] at H
              have c15b0 : (t122 == (wrap64 (t119 - 64))) = false := beq_eq_false_iff_ne.mpr c15
              have c15b1 : (t122 != (wrap64 (t119 - 64))) = true := bne_iff_ne.mpr c15
              obtain rfl := Option.some.inj H
              go_wp2
              go_ret
              exact ⟨by first | rfl | (simp [errW_none, errW_some] <;> rfl) | (simp [*, errW_none, errW_some] <;> rfl), by repeat (first | (with_reducible first | exact HB.out | apply below_alloc | apply pw_below_drewN | apply below_drew1) | exact HB.out)⟩
          · rw [if_neg c14] at H
            have c14b0 : decide (64 ≤ t119) = false := decide_eq_false c14
            clear c14
            replace H := Option.bind_eq_some_iff.mp H
            obtain ⟨⟨t124, t125⟩, A160, H⟩ := H
            replace H : ((impl_RankSpan.f kj5 (wrap64 ((wrap64 (2 * t119)) + 1))).bind fun bt126 => (if t122 = t124 then (if (wrap64 (t125 + 1)) = bt126.1 then (if bt126.2 = t123 then (some ((wrap64 (t125 - t124)) == (wrap64 (bt126.2 - bt126.1)))) else (some false)) else (some false)) else (some false))) = some r := H
            have A16 := Aside0.mk A160
            clear A160
            replace H := Option.bind_eq_some_iff.mp H
            obtain ⟨⟨t126, t127⟩, A170, H⟩ := H
            replace H : (if t122 = t124 then (if (wrap64 (t125 + 1)) = t126 then (if t127 = t123 then (some ((wrap64 (t125 - t124)) == (wrap64 (t127 - t126)))) else (some false)) else (some false)) else (some false)) = some r := H
            have A17 := Aside0.mk A170
            clear A170
            by_cases c18 : t122 = t124
            · rw [if_pos c18] at H
              have c18b0 : (t122 == t124) = true := beq_iff_eq.mpr c18
              have c18b1 : (t122 != t124) = false := bne_eq_false_iff_eq.mpr c18
              clear c18
              by_cases c19 : (wrap64 (t125 + 1)) = t126
              · rw [if_pos c19] at H
                have c19b0 : ((wrap64 (t125 + 1)) == t126) = true := beq_iff_eq.mpr c19
                have c19b1 : ((wrap64 (t125 + 1)) != t126) = false := bne_eq_false_iff_eq.mpr c19
                clear c19
                by_cases c20 : t127 = t123
                · rw [if_pos c20] at H
                  have c20b0 : (t127 == t123) = true := beq_iff_eq.mpr c20
                  have c20b1 : (t127 != t123) = false := bne_eq_false_iff_eq.mpr c20
                  clear c20
                  obtain rfl := Option.some.inj H
                  go_wp2_with (first | ((with_reducible refine gate_callee (f := 13) rfl ?_); refine goesL_ (some 70) rfl rfl Try.func13 (by kernel_rfl) rfl #[.int .i64 (wrap64 (2 * t119))] rfl (by (try simp only [List.map_toArray, List.map_cons, List.map_nil]); first | done | rfl | (simp only [List.length_drop, List.length_take]; rfl)) ?_; (with_reducible refine (impl_RankSpan.calls kj5 (wrap64 (2 * t119)) t124 t125 _ A16.out).mono ?_); rintro e w' ⟨rfl, ⟨nd, rfl⟩⟩; refine ⟨_, rfl, ?_⟩) | ((with_reducible refine gate_callee (f := 13) rfl ?_); refine goesL_ (some 77) rfl rfl Try.func13 (by kernel_rfl) rfl #[.int .i64 (wrap64 ((wrap64 (2 * t119)) + 1))] rfl (by (try simp only [List.map_toArray, List.map_cons, List.map_nil]); first | done | rfl | (simp only [List.length_drop, List.length_take]; rfl)) ?_; (with_reducible refine (impl_RankSpan.calls kj5 (wrap64 ((wrap64 (2 * t119)) + 1)) t126 t127 _ A17.out).mono ?_); rintro e w' ⟨rfl, ⟨nd, rfl⟩⟩; refine ⟨_, rfl, ?_⟩))
                  go_ret
                  exact ⟨by first | rfl | (simp [errW_none, errW_some] <;> rfl) | (simp [*, errW_none, errW_some] <;> rfl), by repeat (first | (with_reducible first | exact HB.out | apply below_alloc | apply pw_below_drewN | apply below_drew1) | exact HB.out)⟩
                · rw [if_neg c20] at H
                  have c20b0 : (t127 == t123) = false := beq_eq_false_iff_ne.mpr c20
                  have c20b1 : (t127 != t123) = true := bne_iff_ne.mpr c20
                  obtain rfl := Option.some.inj H
                  go_wp2_with (first | ((with_reducible refine gate_callee (f := 13) rfl ?_); refine goesL_ (some 70) rfl rfl Try.func13 (by kernel_rfl) rfl #[.int .i64 (wrap64 (2 * t119))] rfl (by (try simp only [List.map_toArray, List.map_cons, List.map_nil]); first | done | rfl | (simp only [List.length_drop, List.length_take]; rfl)) ?_; (with_reducible refine (impl_RankSpan.calls kj5 (wrap64 (2 * t119)) t124 t125 _ A16.out).mono ?_); rintro e w' ⟨rfl, ⟨nd, rfl⟩⟩; refine ⟨_, rfl, ?_⟩) | ((with_reducible refine gate_callee (f := 13) rfl ?_); refine goesL_ (some 77) rfl rfl Try.func13 (by kernel_rfl) rfl #[.int .i64 (wrap64 ((wrap64 (2 * t119)) + 1))] rfl (by (try simp only [List.map_toArray, List.map_cons, List.map_nil]); first | done | rfl | (simp only [List.length_drop, List.length_take]; rfl)) ?_; (with_reducible refine (impl_RankSpan.calls kj5 (wrap64 ((wrap64 (2 * t119)) + 1)) t126 t127 _ A17.out).mono ?_); rintro e w' ⟨rfl, ⟨nd, rfl⟩⟩; refine ⟨_, rfl, ?_⟩))
                  go_ret
                  exact ⟨by first | rfl | (simp [errW_none, errW_some] <;> rfl) | (simp [*, errW_none, errW_some] <;> rfl), by repeat (first | (with_reducible first | exact HB.out | apply below_alloc | apply pw_below_drewN | apply below_drew1) | exact HB.out)⟩
              · rw [if_neg c19] at H
                have c19b0 : ((wrap64 (t125 + 1)) == t126) = false := beq_eq_false_iff_ne.mpr c19
                have c19b1 : ((wrap64 (t125 + 1)) != t126) = true := bne_iff_ne.mpr c19
                obtain rfl := Option.some.inj H
                go_wp2_with (first | ((with_reducible refine gate_callee (f := 13) rfl ?_); refine goesL_ (some 70) rfl rfl Try.func13 (by kernel_rfl) rfl #[.int .i64 (wrap64 (2 * t119))] rfl (by (try simp only [List.map_toArray, List.map_cons, List.map_nil]); first | done | rfl | (simp only [List.length_drop, List.length_take]; rfl)) ?_; (with_reducible refine (impl_RankSpan.calls kj5 (wrap64 (2 * t119)) t124 t125 _ A16.out).mono ?_); rintro e w' ⟨rfl, ⟨nd, rfl⟩⟩; refine ⟨_, rfl, ?_⟩) | ((with_reducible refine gate_callee (f := 13) rfl ?_); refine goesL_ (some 77) rfl rfl Try.func13 (by kernel_rfl) rfl #[.int .i64 (wrap64 ((wrap64 (2 * t119)) + 1))] rfl (by (try simp only [List.map_toArray, List.map_cons, List.map_nil]); first | done | rfl | (simp only [List.length_drop, List.length_take]; rfl)) ?_; (with_reducible refine (impl_RankSpan.calls kj5 (wrap64 ((wrap64 (2 * t119)) + 1)) t126 t127 _ A17.out).mono ?_); rintro e w' ⟨rfl, ⟨nd, rfl⟩⟩; refine ⟨_, rfl, ?_⟩))
                go_ret
                exact ⟨by first | rfl | (simp [errW_none, errW_some] <;> rfl) | (simp [*, errW_none, errW_some] <;> rfl), by repeat (first | (with_reducible first | exact HB.out | apply below_alloc | apply pw_below_drewN | apply below_drew1) | exact HB.out)⟩
            · rw [if_neg c18] at H
              have c18b0 : (t122 == t124) = false := beq_eq_false_iff_ne.mpr c18
              have c18b1 : (t122 != t124) = true := bne_iff_ne.mpr c18
              obtain rfl := Option.some.inj H
              go_wp2_with (first | ((with_reducible refine gate_callee (f := 13) rfl ?_); refine goesL_ (some 70) rfl rfl Try.func13 (by kernel_rfl) rfl #[.int .i64 (wrap64 (2 * t119))] rfl (by (try simp only [List.map_toArray, List.map_cons, List.map_nil]); first | done | rfl | (simp only [List.length_drop, List.length_take]; rfl)) ?_; (with_reducible refine (impl_RankSpan.calls kj5 (wrap64 (2 * t119)) t124 t125 _ A16.out).mono ?_); rintro e w' ⟨rfl, ⟨nd, rfl⟩⟩; refine ⟨_, rfl, ?_⟩) | ((with_reducible refine gate_callee (f := 13) rfl ?_); refine goesL_ (some 77) rfl rfl Try.func13 (by kernel_rfl) rfl #[.int .i64 (wrap64 ((wrap64 (2 * t119)) + 1))] rfl (by (try simp only [List.map_toArray, List.map_cons, List.map_nil]); first | done | rfl | (simp only [List.length_drop, List.length_take]; rfl)) ?_; (with_reducible refine (impl_RankSpan.calls kj5 (wrap64 ((wrap64 (2 * t119)) + 1)) t126 t127 _ A17.out).mono ?_); rintro e w' ⟨rfl, ⟨nd, rfl⟩⟩; refine ⟨_, rfl, ?_⟩))
              go_ret
              exact ⟨by first | rfl | (simp [errW_none, errW_some] <;> rfl) | (simp [*, errW_none, errW_some] <;> rfl), by repeat (first | (with_reducible first | exact HB.out | apply below_alloc | apply pw_below_drewN | apply below_drew1) | exact HB.out)⟩

/-- THE ONE PURE STATEMENT of laws_FnRankSpan: yours. -/
def laws_FnRankSpan.Pure : Prop := ∀ (l0 : List Int), l0.length ≤ maxLen → l0.length * 1 ≤ 140737488351232 → (∀ x ∈ l0, (Lit.int .u8 x).wf = true) → ∃ k, laws_FnRankSpan.f k l0 = some true
theorem laws_FnRankSpan.walk (P : laws_FnRankSpan.Pure) (a0 : Option Addr) (len0 cap0 : Nat) (z0 : List Int) (w : World) (w0 : (a0 = none ∧ len0 = 0 ∧ cap0 = 0 ∧ z0 = []) ∨ ∃ x, a0 = some x ∧ len0 ≤ cap0 ∧ cap0 ≤ maxLen ∧ z0.length = cap0 ∧ (∀ i, i < z0.length → w.cell? (x.add i) = some (.int .u8 (z0.getD i 0))) ∧ ∀ n ∈ z0, (Lit.int .u8 n).wf = true) (y0 : len0 * 1 ≤ 140737488351232) :
    Calls Try.prog 5 #[.slice a0 len0 cap0] w fun e w' => e = .returned (.bool true) ∧ Below w.heap.size w w' := by
  obtain ⟨l0, rfl, hr0, hm0, hw0, hc0⟩ := ReadsInt.ofRowC w0
  obtain ⟨k, h⟩ := P l0 hm0 y0 hw0
  refine (laws_FnRankSpan.calls k _ _ l0 true w (Kd.C_of_reads (d := (0 : Int)) (h1 := fun _ => rfl) hr0) hc0 h).mono ?_
  rintro e w' ⟨rfl, hd⟩
  exact ⟨rfl, hd⟩

end Go.Proofs.Ythijejpdghmmaaa.PA
