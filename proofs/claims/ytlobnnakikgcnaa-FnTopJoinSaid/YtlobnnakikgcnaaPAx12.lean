-- Made by a program of this session (wip/tools/pr2.sh) out of the translation, by way of the printer: shared by the seat's laws.
import Derived.Test.YtlobnnakikgcnaaPAx0
import Derived.Test.YtlobnnakikgcnaaPAx2
import Derived.Test.YtlobnnakikgcnaaPAx11
namespace Go.Proofs.Ytlobnnakikgcnaa.PA
open Go.RowKit Go.Proofs.YtlobnnakikgcnaaW.PrintWords Go.Proofs.YtlobnnakikgcnaaW.PrintLast Go.Proofs.YtlobnnakikgcnaaW.PrintMore
attribute [local go_sem] max2_int min2_int max_two min_two max_three min_three max_four min_four   -- for this text's walks alone
set_option linter.unusedVariables false
set_option linter.unusedSimpArgs false

/-! ### spec_l71Thing: function 23 -/
def spec_l71Thing.j0 : Nat → Bool → List Int → Int → Option (Int × Int)
  | 0, _, _, _ => none
  | k + 1, x12, x1000, x1001 => if x12 = true then ((spec_l6Rd_pick.f k x1000 x1001 64).bind fun bt180 => (some (bt180.1, bt180.2))) else ((some (([3, 5, 9, 17, 33, 40] : List Int) : List Int)).bind fun y182 => ((spec_l6Rd_pick.f k x1000 x1001 6).bind fun bt185 => (if 0 ≤ bt185.1 then (if bt185.1 < (y182.length : Int) then (some (rd y182 bt185.1, bt185.2)) else (none)) else (none))))
def spec_l71Thing.f (k : Nat) (s0_0 : List Int) (s0_1 : Int) : Option (Int × Int) := (spec_l6Rd_pick.f k s0_0 s0_1 12).bind fun bt172 => (if bt172.1 = 0 then ((some (([(-1), 64, 0, 63] : List Int) : List Int)).bind fun y174 => ((spec_l6Rd_pick.f k s0_0 bt172.2 4).bind fun bt177 => (if 0 ≤ bt177.1 then (if bt177.1 < (y174.length : Int) then (some (rd y174 bt177.1, bt177.2)) else (none)) else (none)))) else (if bt172.1 = 1 then (spec_l71Thing.j0 k (bt172.1 == 1) s0_0 bt172.2) else (if bt172.1 = 2 then (spec_l71Thing.j0 k (bt172.1 == 2) s0_0 bt172.2) else (spec_l71Thing.j0 k (bt172.1 == 3) s0_0 bt172.2))))
theorem spec_l71Thing.mono_l : ∀ k, (∀ y0 y1 y2, LeO (spec_l71Thing.j0 k y0 y1 y2) (spec_l71Thing.j0 (k + 1) y0 y1 y2))
  | 0 => fun _ _ _ r h => by simp [spec_l71Thing.j0] at h
  | k + 1 => by
    have ih0 := spec_l71Thing.mono_l k
    · intro y0 y1 y2
      unfold spec_l71Thing.j0
      repeat' first
      | (with_reducible exact ih0 _ _ _)
      | (with_reducible exact spec_l6Rd_pick.mono _ _ _ _)
      | (with_reducible exact LeO.refl _)
      | (with_reducible exact LeO.none _)
      | (with_reducible refine LeO.ite ?_ ?_)
      | (with_reducible refine LeO.bind ?_ (fun _ => ?_))
      | exact ih0 _ _ _
      | exact spec_l6Rd_pick.mono _ _ _ _
      | exact LeO.none _
      | refine LeO.ite ?_ ?_
      | refine LeO.bind ?_ (fun _ => ?_)
theorem spec_l71Thing.mono : ∀ a0 a1 k, LeO (spec_l71Thing.f k a0 a1) (spec_l71Thing.f (k + 1) a0 a1) := by
  intro a0 a1 k
  have ih0 := spec_l71Thing.mono_l k
  unfold spec_l71Thing.f
  repeat' first
      | (with_reducible exact ih0 _ _ _)
      | (with_reducible exact spec_l6Rd_pick.mono _ _ _ _)
      | (with_reducible exact LeO.refl _)
      | (with_reducible exact LeO.none _)
      | (with_reducible refine LeO.ite ?_ ?_)
      | (with_reducible refine LeO.bind ?_ (fun _ => ?_))
      | exact ih0 _ _ _
      | exact spec_l6Rd_pick.mono _ _ _ _
      | exact LeO.none _
      | refine LeO.ite ?_ ?_
      | refine LeO.bind ?_ (fun _ => ?_)
variable {p : Prop}
theorem q23_0 (h : p := by repeat (first | (with_reducible first | exact HI0.out | apply IsS62.alloc | apply IsS62.drewN | apply IsS62.drew | apply IsS62.set_1) | exact HI0.out)) : p := h
theorem q23_1 (h : p := by repeat (first | (with_reducible first | exact HB.out | apply below_alloc | apply pw_below_drewN | apply below_drew1 | refine below_set ?_ (IsS62.ge HI0.out)) | exact HB.out)) : p := h
theorem q23_2 (h : p := by repeat (first | (with_reducible first | exact HK.out | apply KeepBut.set_ | apply keep_drewN | apply keep_drew | apply keep_alloc) | exact HK.out)) : p := h
theorem q23_3 (h : p := by (try simp only [List.map_toArray, List.map_cons, List.map_nil]); first | done | rfl | (simp only [List.length_drop, List.length_take]; rfl)) : p := h
theorem q23_4 (h : p := by first | rfl | (simp [errW_none, errW_some] <;> rfl) | (simp [*, errW_none, errW_some] <;> rfl)) : p := h
theorem q23_5 (h : p := by first | (with_reducible assumption) | assumption) : p := h
set_option maxHeartbeats 8000000 in
set_option maxRecDepth 100000 in
theorem spec_l71Thing.calls (k : Nat) (g : Nat) (s0_0 : List Int) (s0_1 : Int) (r1 : Int) (r2 : Int) (w0 w : World) (hI : IsS62 w0 w g s0_0 s0_1) (hB : Below w0.heap.size w0 w) (h : spec_l71Thing.f k s0_0 s0_1 = some (r1, r2)) :
    Calls Try.prog 23 #[.pointer (some ⟨g, 0, none⟩)] w fun e w' => e = .returned (.int .i64 r1) ∧ IsS62 w0 w' g s0_0 r2 ∧ Below w0.heap.size w0 w' ∧ KeepBut w w' g none := by
  have HI0 := Aside0.mk hI;have HK := Aside0.mk (KeepBut.refl w g none);have HL := Aside0.mk hB.size;clear hI;have HW0 := Aside0.mk hB.size;have HB := Aside0.mk hB;clear hB
  have H : ((spec_l6Rd_pick.f k s0_0 s0_1 12).bind fun bt172 => (if bt172.1 = 0 then ((some (([(-1), 64, 0, 63] : List Int) : List Int)).bind fun y174 => ((spec_l6Rd_pick.f k s0_0 bt172.2 4).bind fun bt177 => (if 0 ≤ bt177.1 then (if bt177.1 < (y174.length : Int) then (some (rd y174 bt177.1, bt177.2)) else (none)) else (none)))) else (if bt172.1 = 1 then (spec_l71Thing.j0 k (bt172.1 == 1) s0_0 bt172.2) else (if bt172.1 = 2 then (spec_l71Thing.j0 k (bt172.1 == 2) s0_0 bt172.2) else (spec_l71Thing.j0 k (bt172.1 == 3) s0_0 bt172.2))))) = some (r1, r2) := h
  clear h
  replace H := Option.bind_eq_some_iff.mp H
  obtain ⟨⟨t172, t173⟩, A20, H⟩ := H
  replace H : (if t172 = 0 then ((some (([(-1), 64, 0, 63] : List Int) : List Int)).bind fun y174 => ((spec_l6Rd_pick.f k s0_0 t173 4).bind fun bt177 => (if 0 ≤ bt177.1 then (if bt177.1 < (y174.length : Int) then (some (rd y174 bt177.1, bt177.2)) else (none)) else (none)))) else (if t172 = 1 then (spec_l71Thing.j0 k (t172 == 1) s0_0 t173) else (if t172 = 2 then (spec_l71Thing.j0 k (t172 == 2) s0_0 t173) else (spec_l71Thing.j0 k (t172 == 3) s0_0 t173)))) = some (r1, r2) := H
  have A2 := Aside0.mk A20;clear A20
  by_cases c3 : t172 = 0
  · rw [if_pos c3] at H
    have c3b0 : (t172 == 0) = true := beq_iff_eq.mpr c3
    have c3b1 : (t172 != 0) = false := bne_eq_false_iff_eq.mpr c3
    clear c3;obtain ⟨y174, hy174⟩ : ∃ y_ : List Int, y_ = (([(-1), 64, 0, 63] : List Int)) := ⟨_, rfl⟩
    replace H : ((spec_l6Rd_pick.f k s0_0 t173 4).bind fun bt177 => (if 0 ≤ bt177.1 then (if bt177.1 < (y174.length : Int) then (some (rd y174 bt177.1, bt177.2)) else (none)) else (none))) = some (r1, r2) := by first | (rw [hy174]; with_reducible exact H) | (have H2_ := (Option.bind_some _ _).symm.trans H; rw [hy174]; with_reducible exact H2_) | (have H2_ := (Option.bind_some _ _).symm.trans H; with_reducible exact H2_) | with_reducible exact H | (rw [hy174]; exact H) | exact H
    have Ny174 := Aside0.mk hy174;clear hy174
    replace H := Option.bind_eq_some_iff.mp H
    obtain ⟨⟨t177, t178⟩, A40, H⟩ := H
    replace H : (if 0 ≤ t177 then (if t177 < (y174.length : Int) then (some (rd y174 t177, t178)) else (none)) else (none)) = some (r1, r2) := H
    have A4 := Aside0.mk A40;clear A40
    by_cases c5 : 0 ≤ t177
    · rw [if_pos c5] at H
      have c5b0 : decide (0 ≤ t177) = true := decide_eq_true c5
      clear c5
      by_cases c6 : t177 < (y174.length : Int)
      · rw [if_pos c6] at H
        have c6b0 : decide (t177 < (y174.length : Int)) = true := decide_eq_true c6
        clear c6
        simp only [Option.some.injEq, Prod.mk.injEq] at H
        obtain ⟨rfl, rfl⟩ := H
        go_enter Try.func23, Try.ntmps23
        go_wp2_with (first | ((with_reducible refine gate_callee (f := 36) rfl ?_); refine goesL_ (some 4) rfl rfl Try.func36 (by kernel_rfl) rfl #[.pointer (some ⟨g, 0, none⟩), .int .i64 12] rfl q23_3 ?_; (with_reducible refine (spec_l6Rd_pick.calls k g s0_0 s0_1 12 t172 t173 w0 _ ?side1 ?side2 A2.out).mono ?_); (case side1 => exact q23_0); (case side2 => exact q23_1); rintro e w7 ⟨rfl, hi, hb, hk⟩; refine ⟨_, rfl, ?_⟩; have n0_ := Aside0.mk (KeepBut.trans q23_2 hk (.inl rfl)); have n1_ := Aside0.mk (hb); have n2_ := Aside0.mk (hi); clear HK; clear HB; clear HI0; have HK := n0_; have HB := n1_; have HI0 := n2_; clear n0_ n1_ n2_; (try clear hb); (try clear hb2); (try clear hk); (try clear hi)) | ((with_reducible refine gate_dst (N := 7) rfl ?_); refine Kd.R_lit (Kd.int .i64) _ 3 ?hg (N := 7) ?hd (xs := ([(-1), 64, 0, 63] : List Int)) (inner := [.int .i64 (-1), .int .i64 64, .int .i64 0, .int .i64 63]) (ok := fun _ => True) (okp := fun _ => True) ?hr ?hp (fun _ hk => hk) trivial (Below.refl _ _) (Nat.le_refl _) (by simp) ?_; (case hd => rfl); (case hg => rfl); (case hr => first | (go_simp; done) | (go_simp; rfl)); (case hp => exact (Reps.one (show Kd.M (Kd.int .i64) _ _ _ (-1) [.int .i64 (-1)] from rfl) (Reps.one (show Kd.M (Kd.int .i64) _ _ _ 64 [.int .i64 64] from rfl) (Reps.one (show Kd.M (Kd.int .i64) _ _ _ 0 [.int .i64 0] from rfl) (Reps.one (show Kd.M (Kd.int .i64) _ _ _ 63 [.int .i64 63] from rfl) (Reps.none _ _)))))); intro v175 w8 ho9 hb hg_ hnew_; clear hg_ hnew_; (first | rw [← Ny174.out] at ho9 | (simp only [Int.reduceToNat] at ho9; rw [← Ny174.out] at ho9)); have n0_ := Aside0.mk (Kd.R_lower ho9 (keep_size (w := w) (g := g) (row := none) q23_2)); have n1_ := Aside0.mk (IsS62.below q23_0 hb); have n2_ := Aside0.mk (KeepBut.trans q23_2 (KeepBut.of_below hb g none) (.inl rfl)); have n3_ := Aside0.mk (below_step q23_1 hb); clear HI0; clear HK; clear HB; have HO176 := n0_; have HI0 := n1_; have HK := n2_; have HB := n3_; clear n0_ n1_ n2_ n3_; clear hb ho9) | ((with_reducible refine gate_callee (f := 36) rfl ?_); refine goesL_ (some 9) rfl rfl Try.func36 (by kernel_rfl) rfl #[.pointer (some ⟨g, 0, none⟩), .int .i64 4] rfl q23_3 ?_; (with_reducible refine (spec_l6Rd_pick.calls k g s0_0 t173 4 t177 t178 w0 _ ?side1 ?side2 A4.out).mono ?_); (case side1 => exact q23_0); (case side2 => exact q23_1); rintro e w10 ⟨rfl, hi, hb, hk⟩; refine ⟨_, rfl, ?_⟩; have n0_ := Aside0.mk (Kd.R_mono (Kd.R_keep (IsS62.apart (show IsS62 w0 _ g s0_0 t173 from q23_0) (by (with_reducible repeat (first | apply Kd.R_alloc | apply Kd.R_drewN | apply Kd.R_drew)); exact HO176.out) (by decide)) hk (fun _ h => h.2)) (fun _ h => h.1)); have n1_ := Aside0.mk (KeepBut.trans q23_2 hk (.inl rfl)); have n2_ := Aside0.mk (hb); have n3_ := Aside0.mk (hi); clear HO176; clear HK; clear HB; clear HI0; have HO176 := n0_; have HK := n1_; have HB := n2_; have HI0 := n3_; clear n0_ n1_ n2_ n3_; (try clear hb); (try clear hb2); (try clear hk); (try clear hi); obtain ⟨Ao11, co11, eo11⟩ := Kd.R_slice HO176.out; subst eo11; have p179 : 0 ≤ (t177 : Int) := of_decide_eq_true q23_5; have q179 : t177 < (y174.length : Int) := of_decide_eq_true q23_5; obtain ⟨ad179, e179, hx179_0⟩ := Kd.at_int (Kd.R_reads' HO176.out).2.2 t177 p179 q179; cases e179; replace p179 := eq_true p179; replace q179 := eq_true q179))
        go_ret
        exact ⟨q23_4, q23_0, q23_1, q23_2⟩
      · rw [if_neg c6] at H
        exact absurd H (by simp)
    · rw [if_neg c5] at H
      exact absurd H (by simp)
  · rw [if_neg c3] at H
    have c3b0 : (t172 == 0) = false := beq_eq_false_iff_ne.mpr c3
    have c3b1 : (t172 != 0) = true := bne_iff_ne.mpr c3
    have HC12 := Aside0.mk H;clear H
    go_enter Try.func23, Try.ntmps23
    go_upto_if 12 with (first | ((with_reducible refine gate_callee (f := 36) rfl ?_); refine goesL_ (some 4) rfl rfl Try.func36 (by kernel_rfl) rfl #[.pointer (some ⟨g, 0, none⟩), .int .i64 12] rfl q23_3 ?_; (with_reducible refine (spec_l6Rd_pick.calls k g s0_0 s0_1 12 t172 t173 w0 _ ?side1 ?side2 A2.out).mono ?_); (case side1 => exact q23_0); (case side2 => exact q23_1); rintro e w13 ⟨rfl, hi, hb, hk⟩; refine ⟨_, rfl, ?_⟩; have n0_ := Aside0.mk (KeepBut.trans q23_2 hk (.inl rfl)); have n1_ := Aside0.mk (hb); have n2_ := Aside0.mk (hi); clear HK; clear HB; clear HI0; have HK := n0_; have HB := n1_; have HI0 := n2_; clear n0_ n1_ n2_; (try clear hb); (try clear hb2); (try clear hk); (try clear hi)))
    (try simp only [Act.put, List.setIfInBounds_toArray, List.set_cons_zero, List.set_cons_succ])
    go_cut [12] (fun v12 wc => ∃ (kq : Nat) (x12_11 : Bool), v12 = .bool x12_11 ∧ Aside0 (spec_l71Thing.j0 kq x12_11 s0_0 t173 = some (r1, r2)) ∧ Aside0 (kq ≤ k) ∧ Aside0 (IsS62 w0 wc g s0_0 t173) ∧ Aside0 (KeepBut w wc g none) ∧ Aside0 (Below w0.heap.size w0 wc))
    case first =>
      have H := HC12.out;clear HC12
      by_cases c14 : t172 = 1
      · rw [if_pos c14] at H
        have c14b0 : (t172 == 1) = true := beq_iff_eq.mpr c14
        have c14b1 : (t172 != 1) = false := bne_eq_false_iff_eq.mpr c14
        clear c14;(first | rw [c14b0] | (simp only [i64_w, i32_w]; rw [c14b0]) | skip)
        have H' := Aside0.mk H
        clear H
        go_wp2
        go_meet
        case rel => exact ⟨_, ((t172 == 1)), (by first | rfl | (simp; done) | (simp [*]; done)), H', ⟨by first | omega | exact Nat.le_refl _⟩, ⟨q23_0⟩, ⟨q23_2⟩, ⟨q23_1⟩⟩
      · rw [if_neg c14] at H
        have c14b0 : (t172 == 1) = false := beq_eq_false_iff_ne.mpr c14
        have c14b1 : (t172 != 1) = true := bne_iff_ne.mpr c14
        (first | rw [c14b0] | (simp only [i64_w, i32_w]; rw [c14b0]) | skip)
        by_cases c15 : t172 = 2
        · rw [if_pos c15] at H
          have c15b0 : (t172 == 2) = true := beq_iff_eq.mpr c15
          have c15b1 : (t172 != 2) = false := bne_eq_false_iff_eq.mpr c15
          clear c15
          have H' := Aside0.mk H
          clear H
          go_wp2
          go_meet
          case rel => exact ⟨_, ((t172 == 2)), (by first | rfl | (simp; done) | (simp [*]; done)), H', ⟨by first | omega | exact Nat.le_refl _⟩, ⟨q23_0⟩, ⟨q23_2⟩, ⟨q23_1⟩⟩
        · rw [if_neg c15] at H
          have c15b0 : (t172 == 2) = false := beq_eq_false_iff_ne.mpr c15
          have c15b1 : (t172 != 2) = true := bne_iff_ne.mpr c15
          have H' := Aside0.mk H
          clear H
          go_wp2
          go_meet
          case rel => exact ⟨_, ((t172 == 3)), (by first | rfl | (simp; done) | (simp [*]; done)), H', ⟨by first | omega | exact Nat.le_refl _⟩, ⟨q23_0⟩, ⟨q23_2⟩, ⟨q23_1⟩⟩
    case rest =>
      clear HC12
      try clear c1
      try clear p1
      try clear q1
      try clear hx1
      try clear c2
      try clear p2
      try clear c3
      try clear c3b0
      try clear c3b1
      try clear c5
      try clear c5b0
      try clear c6
      try clear c6b0
      try clear c14
      try clear c14b0
      try clear c14b1
      try clear c15
      try clear c15b0
      try clear c15b1
      try clear hx179_0
      try clear p179
      try clear q179
      obtain ⟨kq, x12_11, rfl, HA, HJ11, HI0, HK, HB⟩ := hcut
      cases kq with
      | zero => exact absurd HA.out (by simp [spec_l71Thing.j0])
      | succ kj11 =>
        have H := HA.out;clear HA
        simp only [spec_l71Thing.j0] at H
        by_cases c16 : x12_11 = true
        · subst c16
          have H1 : ((spec_l6Rd_pick.f kj11 s0_0 t173 64).bind fun bt180 => (some (bt180.1, bt180.2))) = some (r1, r2) := by rw [if_pos rfl] at H; exact H
          clear H;have H := H1;clear H1
          replace H := Option.bind_eq_some_iff.mp H
          obtain ⟨⟨t180, t181⟩, A170, H⟩ := H
          replace H : (some (t180, t181)) = some (r1, r2) := H
          have A17 := Aside0.mk A170;clear A170
          simp only [Option.some.injEq, Prod.mk.injEq] at H
          obtain ⟨rfl, rfl⟩ := H
          go_wp2_with (first | ((with_reducible refine gate_callee (f := 36) rfl ?_); refine goesL_ (some 17) rfl rfl Try.func36 (by kernel_rfl) rfl #[.pointer (some ⟨g, 0, none⟩), .int .i64 64] rfl q23_3 ?_; (with_reducible refine (spec_l6Rd_pick.calls kj11 g s0_0 t173 64 t180 t181 w0 _ ?side1 ?side2 A17.out).mono ?_); (case side1 => exact q23_0); (case side2 => exact q23_1); rintro e w18 ⟨rfl, hi, hb, hk⟩; refine ⟨_, rfl, ?_⟩; have n0_ := Aside0.mk (KeepBut.trans q23_2 hk (.inl rfl)); have n1_ := Aside0.mk (hb); have n2_ := Aside0.mk (hi); clear HK; clear HB; clear HI0; have HK := n0_; have HB := n1_; have HI0 := n2_; clear n0_ n1_ n2_; (try clear hb); (try clear hb2); (try clear hk); (try clear hi)))
          go_ret
          exact ⟨q23_4, q23_0, q23_1, q23_2⟩
        · replace c16 := Bool.eq_false_iff.mpr c16
          subst c16
          have H1 : ((some (([3, 5, 9, 17, 33, 40] : List Int) : List Int)).bind fun y182 => ((spec_l6Rd_pick.f kj11 s0_0 t173 6).bind fun bt185 => (if 0 ≤ bt185.1 then (if bt185.1 < (y182.length : Int) then (some (rd y182 bt185.1, bt185.2)) else (none)) else (none)))) = some (r1, r2) := by rw [if_neg (show ¬ (false = true) by decide)] at H; exact H
          clear H;have H := H1;clear H1;obtain ⟨y182, hy182⟩ : ∃ y_ : List Int, y_ = (([3, 5, 9, 17, 33, 40] : List Int)) := ⟨_, rfl⟩
          replace H : ((spec_l6Rd_pick.f kj11 s0_0 t173 6).bind fun bt185 => (if 0 ≤ bt185.1 then (if bt185.1 < (y182.length : Int) then (some (rd y182 bt185.1, bt185.2)) else (none)) else (none))) = some (r1, r2) := by first | (rw [hy182]; with_reducible exact H) | (have H2_ := (Option.bind_some _ _).symm.trans H; rw [hy182]; with_reducible exact H2_) | (have H2_ := (Option.bind_some _ _).symm.trans H; with_reducible exact H2_) | with_reducible exact H | (rw [hy182]; exact H) | exact H
          have Ny182 := Aside0.mk hy182;clear hy182
          replace H := Option.bind_eq_some_iff.mp H
          obtain ⟨⟨t185, t186⟩, A190, H⟩ := H
          replace H : (if 0 ≤ t185 then (if t185 < (y182.length : Int) then (some (rd y182 t185, t186)) else (none)) else (none)) = some (r1, r2) := H
          have A19 := Aside0.mk A190;clear A190
          by_cases c20 : 0 ≤ t185
          · rw [if_pos c20] at H
            have c20b0 : decide (0 ≤ t185) = true := decide_eq_true c20
            clear c20
            by_cases c21 : t185 < (y182.length : Int)
            · rw [if_pos c21] at H
              have c21b0 : decide (t185 < (y182.length : Int)) = true := decide_eq_true c21
              clear c21
              simp only [Option.some.injEq, Prod.mk.injEq] at H
              obtain ⟨rfl, rfl⟩ := H
              go_wp2_with (first | ((with_reducible refine gate_dst (N := 18) rfl ?_); refine Kd.R_lit (Kd.int .i64) _ 3 ?hg (N := 18) ?hd (xs := ([3, 5, 9, 17, 33, 40] : List Int)) (inner := [.int .i64 3, .int .i64 5, .int .i64 9, .int .i64 17, .int .i64 33, .int .i64 40]) (ok := fun _ => True) (okp := fun _ => True) ?hr ?hp (fun _ hk => hk) trivial (Below.refl _ _) (Nat.le_refl _) (by simp) ?_; (case hd => rfl); (case hg => rfl); (case hr => first | (go_simp; done) | (go_simp; rfl)); (case hp => exact (Reps.one (show Kd.M (Kd.int .i64) _ _ _ 3 [.int .i64 3] from rfl) (Reps.one (show Kd.M (Kd.int .i64) _ _ _ 5 [.int .i64 5] from rfl) (Reps.one (show Kd.M (Kd.int .i64) _ _ _ 9 [.int .i64 9] from rfl) (Reps.one (show Kd.M (Kd.int .i64) _ _ _ 17 [.int .i64 17] from rfl) (Reps.one (show Kd.M (Kd.int .i64) _ _ _ 33 [.int .i64 33] from rfl) (Reps.one (show Kd.M (Kd.int .i64) _ _ _ 40 [.int .i64 40] from rfl) (Reps.none _ _)))))))); intro v183 w22 ho23 hb hg_ hnew_; clear hg_ hnew_; (first | rw [← Ny182.out] at ho23 | (simp only [Int.reduceToNat] at ho23; rw [← Ny182.out] at ho23)); have n0_ := Aside0.mk (Kd.R_lower ho23 (keep_size (w := w) (g := g) (row := none) q23_2)); have n1_ := Aside0.mk (IsS62.below q23_0 hb); have n2_ := Aside0.mk (KeepBut.trans q23_2 (KeepBut.of_below hb g none) (.inl rfl)); have n3_ := Aside0.mk (below_step q23_1 hb); clear HI0; clear HK; clear HB; have HO184 := n0_; have HI0 := n1_; have HK := n2_; have HB := n3_; clear n0_ n1_ n2_ n3_; clear hb ho23) | ((with_reducible refine gate_callee (f := 36) rfl ?_); refine goesL_ (some 20) rfl rfl Try.func36 (by kernel_rfl) rfl #[.pointer (some ⟨g, 0, none⟩), .int .i64 6] rfl q23_3 ?_; (with_reducible refine (spec_l6Rd_pick.calls kj11 g s0_0 t173 6 t185 t186 w0 _ ?side1 ?side2 A19.out).mono ?_); (case side1 => exact q23_0); (case side2 => exact q23_1); rintro e w24 ⟨rfl, hi, hb, hk⟩; refine ⟨_, rfl, ?_⟩; have n0_ := Aside0.mk (Kd.R_mono (Kd.R_keep (IsS62.apart (show IsS62 w0 _ g s0_0 t173 from q23_0) (by (with_reducible repeat (first | apply Kd.R_alloc | apply Kd.R_drewN | apply Kd.R_drew)); exact HO184.out) (by decide)) hk (fun _ h => h.2)) (fun _ h => h.1)); have n1_ := Aside0.mk (KeepBut.trans q23_2 hk (.inl rfl)); have n2_ := Aside0.mk (hb); have n3_ := Aside0.mk (hi); clear HO184; clear HK; clear HB; clear HI0; have HO184 := n0_; have HK := n1_; have HB := n2_; have HI0 := n3_; clear n0_ n1_ n2_ n3_; (try clear hb); (try clear hb2); (try clear hk); (try clear hi); obtain ⟨Ao25, co25, eo25⟩ := Kd.R_slice HO184.out; subst eo25; have p187 : 0 ≤ (t185 : Int) := of_decide_eq_true q23_5; have q187 : t185 < (y182.length : Int) := of_decide_eq_true q23_5; obtain ⟨ad187, e187, hx187_0⟩ := Kd.at_int (Kd.R_reads' HO184.out).2.2 t185 p187 q187; cases e187; replace p187 := eq_true p187; replace q187 := eq_true q187))
              go_ret
              exact ⟨q23_4, q23_0, q23_1, q23_2⟩
            · rw [if_neg c21] at H
              exact absurd H (by simp)
          · rw [if_neg c20] at H
            exact absurd H (by simp)

end Go.Proofs.Ytlobnnakikgcnaa.PA
