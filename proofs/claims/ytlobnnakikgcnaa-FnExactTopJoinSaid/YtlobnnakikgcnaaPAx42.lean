-- Made by a program of this session (wip/tools/pr2.sh) out of the translation, by way of the printer: shared by the seat's laws.
import Derived.Test.YtlobnnakikgcnaaPAx0
import Derived.Test.YtlobnnakikgcnaaPAx38
import Derived.Test.YtlobnnakikgcnaaPAx41
namespace Go.Proofs.Ytlobnnakikgcnaa.PA
open Go.RowKit Go.Proofs.YtlobnnakikgcnaaW.PrintWords Go.Proofs.YtlobnnakikgcnaaW.PrintLast Go.Proofs.YtlobnnakikgcnaaW.PrintMore
attribute [local go_sem] max2_int min2_int max_two min_two max_three min_three max_four min_four   -- for this text's walks alone
set_option linter.unusedVariables false
set_option linter.unusedSimpArgs false

/-! ### impl_bothPairs: function 41 -/
def impl_bothPairs.l0 : Nat → List (S54) → List (S54) → Int → Int → Option ((List (S54)))
  | 0, _, _, _, _ => none
  | k + 1, x6, x19, x20, x21 => if x21 < x20 then (if 0 ≤ x21 then (if x21 < (x19.length : Int) then (if (wrap64 ((x6.length : Int) - 1)) ≥ 0 then (if 0 ≤ (wrap64 ((x6.length : Int) - 1)) then (if (wrap64 ((x6.length : Int) - 1)) < (x6.length : Int) then (if ((rd_T54 x6 (wrap64 ((x6.length : Int) - 1))).f0) = ((rd_T54 x19 x21).f0) then (impl_bothPairs.l0 k (x6.set ((wrap64 ((x6.length : Int) - 1)) : Int).toNat (⟨(rd_T54 x6 (wrap64 ((x6.length : Int) - 1))).f0, wrap64 (((rd_T54 x6 (wrap64 ((x6.length : Int) - 1))).f1) + ((rd_T54 x19 x21).f1))⟩ : S54)) x19 x20 (wrap64 (x21 + 1))) else (if x6.length < 8796093022208 then (impl_bothPairs.l0 k (x6 ++ [(⟨(rd_T54 x19 x21).f0, (rd_T54 x19 x21).f1⟩ : S54)]) x19 x20 (wrap64 (x21 + 1))) else (none))) else (none)) else (none)) else (if x6.length < 8796093022208 then (impl_bothPairs.l0 k (x6 ++ [(⟨(rd_T54 x19 x21).f0, (rd_T54 x19 x21).f1⟩ : S54)]) x19 x20 (wrap64 (x21 + 1))) else (none))) else (none)) else (none)) else (some x6)
def impl_bothPairs.f (k : Nat) (l0 : List (S54)) (l1 : List (S54)) : Option ((List (S54))) := (impl_Pair_46.f l0 l1).bind fun t257 => ((impl_sortPairs.f k t257 0).bind fun t260 => (impl_bothPairs.l0 k (([] : List (S54))) t260 (t257.length : Int) 0))
theorem impl_bothPairs.mono_l : ∀ k, (∀ y0 y1 y2 y3, LeO (impl_bothPairs.l0 k y0 y1 y2 y3) (impl_bothPairs.l0 (k + 1) y0 y1 y2 y3))
  | 0 => fun _ _ _ _ r h => by simp [impl_bothPairs.l0] at h
  | k + 1 => by
    have ih0 := impl_bothPairs.mono_l k
    · intro y0 y1 y2 y3
      unfold impl_bothPairs.l0
      repeat' first
      | (with_reducible exact ih0 _ _ _ _)
      | (with_reducible exact impl_sortPairs.mono _ _ _)
      | (with_reducible exact LeO.refl _)
      | (with_reducible exact LeO.none _)
      | (with_reducible refine LeO.ite ?_ ?_)
      | (with_reducible refine LeO.bind ?_ (fun _ => ?_))
      | exact ih0 _ _ _ _
      | exact impl_sortPairs.mono _ _ _
      | exact LeO.none _
      | refine LeO.ite ?_ ?_
      | refine LeO.bind ?_ (fun _ => ?_)
theorem impl_bothPairs.mono : ∀ a0 a1 k, LeO (impl_bothPairs.f k a0 a1) (impl_bothPairs.f (k + 1) a0 a1) := by
  intro a0 a1 k
  have ih0 := impl_bothPairs.mono_l k
  unfold impl_bothPairs.f
  repeat' first
      | (with_reducible exact ih0 _ _ _ _)
      | (with_reducible exact impl_sortPairs.mono _ _ _)
      | (with_reducible exact LeO.refl _)
      | (with_reducible exact LeO.none _)
      | (with_reducible refine LeO.ite ?_ ?_)
      | (with_reducible refine LeO.bind ?_ (fun _ => ?_))
      | exact ih0 _ _ _ _
      | exact impl_sortPairs.mono _ _ _
      | exact LeO.none _
      | refine LeO.ite ?_ ?_
      | refine LeO.bind ?_ (fun _ => ?_)
def impl_bothPairs.T8 : Bool × List (List Nat × List Nat) := (true, [([], []), ([0], [0]), ([1], [1]), ([2], [2]), ([2], [2]), ([3, 4, 2], [2, 3, 4]), ([5, 2], [2, 5]), ([6, 2], [2, 6]), ([2], [2]), ([8, 2], [2, 8]), ([7, 9, 2], [2, 7, 9]), ([2, 10], [2, 10])])
def impl_bothPairs.B8 : List Nat := [0, 1, 3, 7, 7, 31, 63, 127, 7, 263, 1023, 2047]
theorem impl_bothPairs.tab8 : rtab .any (opsOf Try.f41 8) = impl_bothPairs.T8 := by kernel_rfl
theorem impl_bothPairs.bits8 : waitsOk impl_bothPairs.T8.2 impl_bothPairs.B8 = true := by kernel_rfl
def impl_bothPairs.T9 : Bool × List (List Nat × List Nat) := (true, [([], []), ([], []), ([0, 1], [0, 1]), ([2], [2]), ([3], [3]), ([], []), ([5], [5]), ([4, 6], [4, 6]), ([0, 1, 0, 1, 2, 3, 4, 5, 6, 7], [0, 1]), ([8, 0, 1, 2, 3, 4, 5, 6, 7], [8]), ([9, 7, 0, 1, 2, 3, 4, 5, 6, 7], [7, 9])])
def impl_bothPairs.B9 : List Nat := [0, 0, 3, 7, 15, 0, 32, 127, 255, 511, 1023]
theorem impl_bothPairs.tab9 : rtab .any (opsOf Try.f41 9) = impl_bothPairs.T9 := by kernel_rfl
theorem impl_bothPairs.bits9 : waitsOk impl_bothPairs.T9.2 impl_bothPairs.B9 = true := by kernel_rfl
variable {p : Prop}
theorem q41_0 (h : p := by repeat (first | (with_reducible first | exact HB.out | apply below_alloc | apply pw_below_drewN | apply below_drew1) | exact HB.out)) : p := h
theorem q41_1 (h : p := by repeat (first | (with_reducible first | exact HB.out | apply below_alloc | apply pw_below_drewN | apply below_drew1 | refine below_set ?_ GE265.out) | exact HB.out)) : p := h
theorem q41_2 (h : p := by first | (with_reducible assumption) | assumption) : p := h
theorem q41_3 (h : p := by (with_reducible repeat (first | apply Kd.R_alloc | apply Kd.R_drewN | apply Kd.R_drew)); exact HO_19.out) : p := h
theorem q41_4 (h : p := by (with_reducible repeat (first | apply Kd.R_alloc | apply Kd.R_drewN | apply Kd.R_drew)); exact HO_6.out) : p := h
theorem q41_5 (h : p := by (with_reducible repeat (first | refine blk_drewN ?_ _ | refine blk_drew ?_ | refine blk_alloc ?_ _)); exact BK265.out) : p := h
theorem q41_6 (h : p := by (with_reducible repeat (first | apply Kd.R_alloc | apply Kd.R_drewN | apply Kd.R_drew)); exact Kd.R_mono HO_19.out (fun _ hk => ⟨hk.2, hk.1⟩)) : p := h
theorem q41_7 (h : p := by rw [hg]; exact (below_size q41_0)) : p := h
theorem q41_8 (h : p := by (try simp only [List.map_toArray, List.map_cons, List.map_nil]); first | done | rfl | (simp only [List.length_drop, List.length_take]; rfl)) : p := h
theorem q41_9 (h : p := by first | rfl | (simp; done) | (simp [*]; done)) : p := h
theorem q41_10 (h : p := by first | (go_simp; done) | (go_simp; rfl)) : p := h
theorem q41_11 (h : p := by (with_reducible repeat (first | apply Kd.R_alloc | apply Kd.R_drewN | apply Kd.R_drew)); exact HO259.out) : p := h
abbrev impl_bothPairs.D0 : Array Bool := #[false, false, false, false, false, false, false, false, false, false, false, false]
abbrev impl_bothPairs.D1 : Array Bool := #[true, false, false, false, false, false, false, false, false, false, false, false]
abbrev impl_bothPairs.D2 : Array Bool := #[true, true, false, false, false, false, false, false, false, false, false, false]
abbrev impl_bothPairs.D3 : Array Bool := #[true, true, true, false, false, false, false, false, false, false, false, false]
abbrev impl_bothPairs.D4 : Array Bool := #[true, true, true, true, false, false, false, false, false, false, false, false]
abbrev impl_bothPairs.D5 : Array Bool := #[true, true, true, true, true, false, false, false, false, false, false, false]
abbrev impl_bothPairs.D6 : Array Bool := #[true, true, true, true, true, true, false, false, false, false, false, false]
abbrev impl_bothPairs.D7 : Array Bool := #[true, true, true, true, true, true, true, false, false, false, false, false]
abbrev impl_bothPairs.D8 : Array Bool := #[true, true, true, true, true, true, true, false, true, false, false, false]
abbrev impl_bothPairs.D9 : Array Bool := #[true, true, true, true, true, true, true, true, true, false, false, false]
abbrev impl_bothPairs.D10 : Array Bool := #[true, true, true, true, true, true, true, true, true, true, false, false]
abbrev impl_bothPairs.D11 : Array Bool := #[true, true, true, true, true, true, true, true, true, true, true, false]
abbrev impl_bothPairs.D12 : Array Bool := #[true, true, true, true, true, true, true, true, true, true, true, true]
abbrev impl_bothPairs.D13 : Array Bool := #[false, false, false, false, false, false, false, false, false, false, false]
abbrev impl_bothPairs.D14 : Array Bool := #[true, false, false, false, false, false, false, false, false, false, false]
abbrev impl_bothPairs.D15 : Array Bool := #[true, true, false, false, false, false, false, false, false, false, false]
abbrev impl_bothPairs.D16 : Array Bool := #[true, true, true, false, false, false, false, false, false, false, false]
abbrev impl_bothPairs.D17 : Array Bool := #[true, true, true, true, false, false, false, false, false, false, false]
abbrev impl_bothPairs.D18 : Array Bool := #[true, true, true, true, false, true, false, false, false, false, false]
abbrev impl_bothPairs.D19 : Array Bool := #[true, true, true, true, true, true, false, false, false, false, false]
abbrev impl_bothPairs.D20 : Array Bool := #[true, true, true, true, true, true, true, false, false, false, false]
abbrev impl_bothPairs.D21 : Array Bool := #[true, true, true, true, true, true, true, true, false, false, false]
abbrev impl_bothPairs.D22 : Array Bool := #[true, true, true, true, true, true, true, true, true, false, false]
abbrev impl_bothPairs.D23 : Array Bool := #[true, true, true, true, true, true, true, true, true, true, false]
abbrev impl_bothPairs.D24 : Array Bool := #[true, true, true, true, true, true, true, true, true, true, true]
abbrev impl_bothPairs.D25 : Array Bool := #[true, true, true, true, true, true, true, true, false, false, false, false]
set_option maxHeartbeats 8000000 in
set_option maxRecDepth 100000 in
theorem impl_bothPairs.calls (k : Nat) (A0 : Option Addr) (c0 : Nat) (l0 : List (S54)) (A1 : Option Addr) (c1 : Nat) (l1 : List (S54)) (r : List (S54)) (w : World) (hr0 : Kd.C k54 w A0 l0.length l0) (hc0 : l0.length ≤ c0) (hr1 : Kd.C k54 w A1 l1.length l1) (hc1 : l1.length ≤ c1) (h : impl_bothPairs.f k l0 l1 = some r) :
    Calls Try.prog 41 #[.slice A0 l0.length c0, .slice A1 l1.length c1] w fun e w' => ∃ v0_ : Value, e = .returned (v0_) ∧ Kd.R k54 54 w' w.heap.size (fun _ => True) v0_ r ∧ Below w.heap.size w w' := by
 have hu54 := Try.underlying54;have HR0 := Aside0.mk hr0;have HC0 := Aside0.mk hc0;clear hr0 hc0;have HR1 := Aside0.mk hr1;have HC1 := Aside0.mk hc1;clear hr1 hc1;have HB := Aside0.mk (Below.refl w.heap.size w)
 have H : ((impl_Pair_46.f l0 l1).bind fun t257 => ((impl_sortPairs.f k t257 0).bind fun t260 => (impl_bothPairs.l0 k (([] : List (S54))) t260 (t257.length : Int) 0))) = some r := h
 clear h
 replace H := Option.bind_eq_some_iff.mp H
 obtain ⟨t257, A30, H⟩ := H
 replace H : ((impl_sortPairs.f k t257 0).bind fun t260 => (impl_bothPairs.l0 k (([] : List (S54))) t260 (t257.length : Int) 0)) = some r := H
 have A3 := Aside0.mk A30;clear A30
 replace H := Option.bind_eq_some_iff.mp H
 obtain ⟨t260, A40, H⟩ := H
 replace H : (impl_bothPairs.l0 k (([] : List (S54))) t260 (t257.length : Int) 0) = some r := H
 have A4 := Aside0.mk A40;clear A40;obtain ⟨y261, hy261⟩ : ∃ y_ : List (S54), y_ = (([] : List (S54))) := ⟨_, rfl⟩
 replace H : (impl_bothPairs.l0 k y261 t260 (t257.length : Int) 0) = some r := by first | (rw [hy261]; with_reducible exact H) | (have H2_ := (Option.bind_some _ _).symm.trans H; rw [hy261]; with_reducible exact H2_) | (have H2_ := (Option.bind_some _ _).symm.trans H; with_reducible exact H2_) | with_reducible exact H | (rw [hy261]; exact H) | exact H
 have Ny261 := Aside0.mk hy261;clear hy261
 have H' := Aside0.mk H
 clear H
 go_enter Try.func41, Try.ntmps41
 go_wp2_with (first | ((with_reducible refine gate_dst (N := 12) rfl ?_); refine Go.Proofs.Ytlobnnakikgcnaa.H.lit_event ?hg (cs := #[.slice A0 l0.length c0, .slice A1 l1.length c1]) (t := 23) (n := 2) ?hr ?_; (case hg => rfl); (case hr => exact q41_10); intro gl hgl wl hlit hbl; have nB_ := Aside0.mk (below_step HB.out hbl); have HLIT := Aside0.mk hlit; clear HB; have HB := nB_; clear nB_; clear hgl hlit hbl) | ((with_reducible refine gate_callee (f := 46) rfl ?_); refine goesL_ (some 13) rfl rfl Try.func46 (by kernel_rfl) rfl #[.slice (some ⟨gl, 0, none⟩) 2 2] rfl q41_8 ?_; refine (Go.Proofs.Ytlobnnakikgcnaa.H.concat_calls gl _ _ l0 _ _ l1 t257 _ HLIT.out (Kd.C_below HR0.out HB.out) HC0.out (Kd.C_below HR1.out HB.out) HC1.out A3.out).mono ?_; clear HLIT; rintro e w5 ⟨v258, rfl, ho0, hb⟩; refine ⟨_, rfl, ?_⟩; have n0_ := Aside0.mk (Kd.R_lower ho0 (below_size q41_0)); have n1_ := Aside0.mk (below_step q41_0 hb); clear HB; have HO259 := n0_; have HB := n1_; clear n0_ n1_; (try clear hb); (try clear hb2); (try clear hk); (try clear hi); (try clear ho0); obtain ⟨Ao6, co6, eo6⟩ := Kd.R_slice HO259.out; subst eo6) | ((with_reducible refine gate_callee (f := 45) rfl ?_); refine goesL_ (some 15) rfl rfl Try.func45 (by kernel_rfl) rfl #[.slice Ao6 t257.length co6, .int .i64 0] rfl q41_8 ?_; (with_reducible refine (impl_sortPairs.calls k (fun k_ => some k_ = (.slice Ao6 t257.length co6 : Value).ownBlock) (.slice Ao6 t257.length co6) t257 0 t260 w _ ?side1 ?side2 A4.out).mono ?_); (case side1 => exact q41_0); (case side2 => exact Kd.R_tight rfl HO259.out); rintro e w7 ⟨rfl, hy0, hb, hkp⟩; refine ⟨_, rfl, ?_⟩; have n0_ := Aside0.mk (Kd.R_reok rfl hy0 (fun k_ e_ => HO259.out.1 k_ e_)); have n1_ := Aside0.mk (hb); clear HO259; clear HB; have HO259 := n0_; have HB := n1_; clear n0_ n1_; (try clear hb); (try clear hkp); (try clear hy0)) | ((with_reducible refine gate_dst (N := 18) rfl ?_); refine Go.Proofs.Ytlobnnakikgcnaa.H.R_make0 k54 _ 54 ?hg 23 (.const (.int .i64 0)) (.tmp 17) rfl t257.length rfl rfl Try.underlying23 (.agg #[(.int .i64 0), (.int .i64 0)]) 16 info54 rfl (by decide) (by omega) (ok := fun _ => True) trivial (by have := Go.Proofs.Ytlobnnakikgcnaa.H.concat_len A3.out; omega) (Below.refl _ _) (Nat.le_refl _) ?_; (case hg => rfl); intro v262 w8 ho9 hb hg_ hnew_; clear hg_ hnew_; (first | rw [← Ny261.out] at ho9 | (simp only [Int.reduceToNat] at ho9; rw [← Ny261.out] at ho9)); have n0_ := Aside0.mk (Kd.R_elder' q41_11 (Kd.R_base ho9) hb); have n1_ := Aside0.mk (Kd.R_lower (Kd.R_new' ho9 (Kd.R_lt q41_11)) (below_size q41_0)); have n2_ := Aside0.mk (below_step q41_0 hb); clear HO259; clear HB; have HO259 := n0_; have HO263 := n1_; have HB := n2_; clear n0_ n1_ n2_; clear hb ho9))
 go_loopg [6, 21] k (fun kq v6 v21 w' => ∃ (x6_1 : List (S54)) (x19_1 : List (S54)) (x21_1 : Int), v21 = .int .i64 x21_1 ∧ Aside0 (impl_bothPairs.l0 kq x6_1 x19_1 (t257.length : Int) x21_1 = some r) ∧ Aside0 (kq ≤ k) ∧ Aside0 (Kd.R k54 54 w' w.heap.size (fun k_ => some k_ ≠ ((.slice Ao6 t257.length co6) : Value).ownBlock) v6 x6_1) ∧ Aside0 (Kd.R k54 54 w' w.heap.size (fun k_ => some k_ ≠ (v6 : Value).ownBlock) (.slice Ao6 t257.length co6) x19_1) ∧ Aside0 (Below w.heap.size w w'))
 case atStart => exact ⟨(y261), (t260), (0), q41_9, H', ⟨Nat.le_refl _⟩, ⟨by (with_reducible repeat (first | apply Kd.R_alloc | apply Kd.R_drewN | apply Kd.R_drew)); exact Kd.R_mono HO263.out (fun _ hk => hk.2)⟩, ⟨by (with_reducible repeat (first | apply Kd.R_alloc | apply Kd.R_drewN | apply Kd.R_drew)); exact Kd.R_mono HO259.out (fun _ hk => hk.2)⟩, ⟨q41_0⟩⟩
 case round =>
  clear H'
  try clear c1
  try clear p2
  try clear c4
  obtain ⟨x6_1, x19_1, x21_1, rfl, HA, HK1, HO_6, HO_19, HB⟩ := hrel;have hl19_1 := (Kd.R_reads' HO_19.out).1
  rw [hl19_1] at HO_19
  (try simp only [hl19_1])
  (try simp only [hl19_1] at HO_6)
  cases gk with
  | zero => exact absurd HA.out (by simp [impl_bothPairs.l0])
  | succ k1 =>
   have H := HA.out;clear HA
   simp only [impl_bothPairs.l0] at H
   by_cases c10 : x21_1 < (t257.length : Int)
   ·
    rw [if_pos c10] at H
    have c10b0 : decide (x21_1 < (t257.length : Int)) = true := decide_eq_true c10
    clear c10
    by_cases c11 : 0 ≤ x21_1
    ·
     rw [if_pos c11] at H
     have c11b0 : decide (0 ≤ x21_1) = true := decide_eq_true c11
     clear c11
     by_cases c12 : x21_1 < (x19_1.length : Int)
     ·
      rw [if_pos c12] at H
      have c12b0 : decide (x21_1 < (x19_1.length : Int)) = true := decide_eq_true c12
      clear c12
      by_cases c13 : (wrap64 ((x6_1.length : Int) - 1)) ≥ 0
      ·
       rw [if_pos c13] at H
       have c13b0 : decide (0 ≤ (wrap64 ((x6_1.length : Int) - 1))) = true := decide_eq_true c13
       clear c13;obtain ⟨ji14, hji14⟩ : ∃ j_ : Int, (wrap64 ((x6_1.length : Int) - 1)) = j_ := ⟨_, rfl⟩
       replace H : (if 0 ≤ (ji14) then (if (ji14) < (x6_1.length : Int) then (if ((rd_T54 x6_1 (ji14)).f0) = ((rd_T54 x19_1 x21_1).f0) then (impl_bothPairs.l0 k1 (x6_1.set ((ji14) : Int).toNat (⟨(rd_T54 x6_1 (ji14)).f0, wrap64 (((rd_T54 x6_1 (ji14)).f1) + ((rd_T54 x19_1 x21_1).f1))⟩ : S54)) x19_1 (t257.length : Int) (wrap64 (x21_1 + 1))) else (if x6_1.length < 8796093022208 then (impl_bothPairs.l0 k1 (x6_1 ++ [(⟨(rd_T54 x19_1 x21_1).f0, (rd_T54 x19_1 x21_1).f1⟩ : S54)]) x19_1 (t257.length : Int) (wrap64 (x21_1 + 1))) else (none))) else (none)) else (none)) = some r := by first | (rw [hji14] at H; exact H) | (simp only [hji14] at H ⊢; exact H)
       (try rw [hji14] at c13b0)
       have hji14w : (IntKind.i64.wrap ((x6_1.length : Int) - 1)) = ji14 := (i64_w _).trans hji14
       by_cases c15 : 0 ≤ (ji14)
       ·
        rw [if_pos c15] at H
        have c15b0 : decide (0 ≤ (ji14)) = true := decide_eq_true c15
        clear c15
        by_cases c16 : (ji14) < (x6_1.length : Int)
        ·
         rw [if_pos c16] at H
         have c16b0 : decide ((ji14) < (x6_1.length : Int)) = true := decide_eq_true c16
         clear c16
         by_cases c17 : ((rd_T54 x6_1 (ji14)).f0) = ((rd_T54 x19_1 x21_1).f0)
         ·
          rw [if_pos c17] at H
          have c17b0 : (((rd_T54 x6_1 (ji14)).f0) == ((rd_T54 x19_1 x21_1).f0)) = true := beq_iff_eq.mpr c17
          have c17b1 : (((rd_T54 x6_1 (ji14)).f0) != ((rd_T54 x19_1 x21_1).f0)) = false := bne_eq_false_iff_eq.mpr c17
          clear c17;obtain ⟨y268, hy268⟩ : ∃ y_ : List (S54), y_ = (x6_1.set ((ji14) : Int).toNat (⟨(rd_T54 x6_1 (ji14)).f0, wrap64 (((rd_T54 x6_1 (ji14)).f1) + ((rd_T54 x19_1 x21_1).f1))⟩ : S54)) := ⟨_, rfl⟩
          replace H : (impl_bothPairs.l0 k1 y268 x19_1 (t257.length : Int) (wrap64 (x21_1 + 1))) = some r := by first | (rw [hy268]; with_reducible exact H) | (have H2_ := (Option.bind_some _ _).symm.trans H; rw [hy268]; with_reducible exact H2_) | (have H2_ := (Option.bind_some _ _).symm.trans H; with_reducible exact H2_) | with_reducible exact H | (rw [hy268]; exact H) | exact H
          have Ny268 := Aside0.mk hy268;clear hy268
          have H' := Aside0.mk H
          clear H
          have p264 : 0 ≤ (x21_1 : Int) := of_decide_eq_true q41_2
          have q264 : x21_1 < (x19_1.length : Int) := of_decide_eq_true q41_2
          obtain ⟨ad264, e264, hx264_0, hx264_1⟩ := at_T54 (Kd.R_reads' HO_19.out).2.2 x21_1 p264 q264
          cases e264
          replace p264 := eq_true p264
          replace q264 := eq_true q264
          try go_wp2_with (first | ((with_reducible refine gate_dst (N := 8) rfl ?_); refine box_event ?hg (N := 8) ?hd (cs := #[.int .i64 0, .int .i64 0]) (t := 54) ?hr ?_; (case hd => rfl); (case hg => rfl); (case hr => exact q41_10); intro gb265 hg w19 hbox hb; have n0_ := Aside0.mk (Kd.R_below (Kd.R_elderB q41_4 gb265 (Nat.le_of_eq hg.symm)) hb); have n1_ := Aside0.mk (Kd.R_below (Kd.R_elderB q41_3 gb265 (Nat.le_of_eq hg.symm)) hb); have n2_ := Aside0.mk (below_step q41_0 hb); have n3_ := Aside0.mk (hbox); have n4_ := Aside0.mk ((q41_7 : w.heap.size ≤ gb265)); have n5_ := Aside0.mk ((q41_7 : w.heap.size ≤ gb265)); clear HO_6; clear HO_19; clear HB; have HO_6 := n0_; have HO_19 := n1_; have HB := n2_; have BK265 := n3_; have GW265 := n4_; have GE265 := n5_; clear n0_ n1_ n2_ n3_ n4_ n5_; clear hb hbox hg; have hcz20_0 : w19.cell? ⟨gb265, 0, none⟩ = some (.int .i64 0) := (blk_cell BK265.out 0).trans rfl; have hcz20_1 : w19.cell? ⟨gb265, 1, none⟩ = some (.int .i64 0) := (blk_cell BK265.out 1).trans rfl; have hfz20_0 := blk_frozen BK265.out 0; have hfz20_1 := blk_frozen BK265.out 1; obtain ⟨Ao21, co21, eo21⟩ := Kd.R_slice HO_6.out; subst eo21))
          have n0_ : Aside0 (Kd.R k54 54 ((w19.setCell ⟨gb265, 0, none⟩ (.int .i64 ((rd_T54 x19_1 x21_1).f0))).setCell ⟨gb265, 1, none⟩ (.int .i64 ((rd_T54 x19_1 x21_1).f1))) w.heap.size (fun k_ => some k_ ≠ (.slice (some ad264) x19_1.length co6 : Value).ownBlock ∧ k_ ≠ gb265) (.slice Ao21 x6_1.length co21) x6_1) := ⟨by (with_reducible repeat (first | apply Kd.R_alloc | apply Kd.R_drewN | apply Kd.R_drew)); exact Kd.R_mono (Kd.R_far (p := ⟨gb265, 1, none⟩) (Kd.R_far (p := ⟨gb265, 0, none⟩) (Kd.R_mono HO_6.out (fun k_ hk => (⟨hk, hk.2⟩ : _ ∧ k_ ≠ gb265))) (fun _ hk => hk.2) (.int .i64 ((rd_T54 x19_1 x21_1).f0))) (fun _ hk => hk.2) (.int .i64 ((rd_T54 x19_1 x21_1).f1))) (fun _ hk => ⟨hk.1.1, hk.1.2⟩)⟩
          have n1_ : Aside0 (Kd.R k54 54 ((w19.setCell ⟨gb265, 0, none⟩ (.int .i64 ((rd_T54 x19_1 x21_1).f0))).setCell ⟨gb265, 1, none⟩ (.int .i64 ((rd_T54 x19_1 x21_1).f1))) w.heap.size (fun k_ => some k_ ≠ (.slice Ao21 x6_1.length co21 : Value).ownBlock ∧ k_ ≠ gb265) (.slice (some ad264) x19_1.length co6) x19_1) := ⟨by (with_reducible repeat (first | apply Kd.R_alloc | apply Kd.R_drewN | apply Kd.R_drew)); exact Kd.R_mono (Kd.R_far (p := ⟨gb265, 1, none⟩) (Kd.R_far (p := ⟨gb265, 0, none⟩) (Kd.R_mono HO_19.out (fun k_ hk => (⟨hk, hk.2⟩ : _ ∧ k_ ≠ gb265))) (fun _ hk => hk.2) (.int .i64 ((rd_T54 x19_1 x21_1).f0))) (fun _ hk => hk.2) (.int .i64 ((rd_T54 x19_1 x21_1).f1))) (fun _ hk => ⟨hk.1.1, hk.1.2⟩)⟩
          have n2_ : Aside0 (((w19.setCell ⟨gb265, 0, none⟩ (.int .i64 ((rd_T54 x19_1 x21_1).f0))).setCell ⟨gb265, 1, none⟩ (.int .i64 ((rd_T54 x19_1 x21_1).f1))).heap[gb265]? = some (.cells #[.int .i64 ((rd_T54 x19_1 x21_1).f0), .int .i64 ((rd_T54 x19_1 x21_1).f1)] 54 (0, 0))) := ⟨by (with_reducible repeat (first | refine blk_drewN ?_ _ | refine blk_drew ?_ | refine blk_alloc ?_ _)); refine blk_put (cs := #[.int .i64 ((rd_T54 x19_1 x21_1).f0), .int .i64 0]) ?_ 1 _ rfl; (with_reducible repeat (first | refine blk_drewN ?_ _ | refine blk_drew ?_ | refine blk_alloc ?_ _)); refine blk_put (cs := #[.int .i64 0, .int .i64 0]) ?_ 0 _ rfl; (with_reducible repeat (first | refine blk_drewN ?_ _ | refine blk_drew ?_ | refine blk_alloc ?_ _)); exact BK265.out⟩
          have n3_ : Aside0 (Below w.heap.size w ((w19.setCell ⟨gb265, 0, none⟩ (.int .i64 ((rd_T54 x19_1 x21_1).f0))).setCell ⟨gb265, 1, none⟩ (.int .i64 ((rd_T54 x19_1 x21_1).f1)))) := ⟨q41_1⟩
          (try clear HO_6);(try clear HO_19);(try clear BK265);(try clear HB)
          generalize ((w19.setCell ⟨gb265, 0, none⟩ (.int .i64 ((rd_T54 x19_1 x21_1).f0))).setCell ⟨gb265, 1, none⟩ (.int .i64 ((rd_T54 x19_1 x21_1).f1))) = w22 at n0_ n1_ n2_ n3_ ⊢
          have HO_6 := n0_;have HO_19 := n1_;have BK265 := n2_;have HB := n3_;clear n0_ n1_ n2_ n3_;have n0_ := Aside0.mk (Kd.R_drew HO_6.out);have n1_ := Aside0.mk (Kd.R_drew HO_19.out);have n2_ := Aside0.mk (blk_drew BK265.out);have n3_ := Aside0.mk (below_drew1 HB.out);clear HO_6 HO_19 BK265 HB;have HO_6 := n0_;have HO_19 := n1_;have BK265 := n2_;have HB := n3_;clear n0_ n1_ n2_ n3_
          have p266 : 0 ≤ ((ji14) : Int) := of_decide_eq_true q41_2
          have q266 : (ji14) < (x6_1.length : Int) := of_decide_eq_true q41_2
          obtain ⟨ad266, e266, hx266_0, hx266_1⟩ := at_T54 (Kd.R_reads' HO_6.out).2.2 (ji14) p266 q266
          cases e266
          replace p266 := eq_true p266
          replace q266 := eq_true q266
          refine start_ (n := 12) (S := fun w' => w'.cell? ⟨gb265, 0, none⟩ = some (.int .i64 ((rd_T54 x19_1 x21_1).f0)) ∧ w'.cell? ⟨gb265, 1, none⟩ = some (.int .i64 ((rd_T54 x19_1 x21_1).f1)) ∧ w'.cell? (ad266.add (((ji14)).toNat * 2)) = some (.int .i64 ((rd_T54 x6_1 (ji14)).f0)) ∧ w'.cell? ⟨(ad266.add (((ji14)).toNat * 2)).block, (ad266.add (((ji14)).toNat * 2)).off + 1, none⟩ = some (.int .i64 ((rd_T54 x6_1 (ji14)).f1))) (ds := []) impl_bothPairs.D0 (by kernel_rfl) rfl rfl ⟨(blk_cell BK265.out 0).trans rfl, (blk_cell BK265.out 1).trans rfl, hx266_0, hx266_1⟩ (fun hHeld => ?_); refine with_tabW impl_bothPairs.tab8 impl_bothPairs.bits8 (fun HT_ HW_ => ?_)
          generalize w22.drew = w23 at HO_6 HO_19 BK265 HB hx266_0 hx266_1 hHeld ⊢
          refine pure_ (i := 0) (N := some 28) (v := ?_) (a' := ?_) impl_bothPairs.D1 rfl rfl (any_of HT_.out (by kernel_rfl)) (fun _ _ _ h => h) (Or.inl ⟨by rfl, ?_⟩) ?_ ?_;rotate_left
          ·
           intro w'
           go_simp
           with_reducible rfl
          rotate_left
          ·
           simp only [Act.put, List.setIfInBounds_toArray, List.set_cons_zero, List.set_cons_succ, i64_w, i32_w]
           rfl
          refine pure_ (i := 1) (N := some 29) (v := ?_) (a' := ?_) impl_bothPairs.D2 rfl rfl (any_of HT_.out (by kernel_rfl)) (fun _ _ _ h => h) (Or.inl ⟨by rfl, ?_⟩) ?_ ?_;rotate_left
          ·
           intro w'
           go_simp
           with_reducible rfl
          rotate_left
          ·
           simp only [Act.put, List.setIfInBounds_toArray, List.set_cons_zero, List.set_cons_succ, i64_w, i32_w]
           rfl
          refine pure_ (i := 2) (N := some 30) (v := ?_) (a' := ?_) impl_bothPairs.D3 rfl rfl (any_of HT_.out (by kernel_rfl)) (fun _ _ _ h => h) (Or.inl ⟨by rfl, ?_⟩) ?_ ?_;rotate_left
          ·
           intro w'
           go_simp
           with_reducible rfl
          rotate_left
          ·
           simp only [Act.put, List.setIfInBounds_toArray, List.set_cons_zero, List.set_cons_succ, i64_w, i32_w]
           rfl
          refine pure_ (i := 3) (N := some 31) (v := ?_) (a' := ?_) impl_bothPairs.D4 rfl rfl (any_of HT_.out (by kernel_rfl)) (fun _ _ _ h => h) (Or.inl ⟨by rfl, ?_⟩) ?_ ?_;rotate_left
          ·
           intro w'
           go_simp
           with_reducible rfl
          rotate_left
          ·
           simp only [Act.put, List.setIfInBounds_toArray, List.set_cons_zero, List.set_cons_succ, i64_w, i32_w]
           rfl
          refine pure_ (i := 4) (N := some 32) (v := ?_) (a' := ?_) impl_bothPairs.D5 rfl rfl (any_of HT_.out (by kernel_rfl)) (fun _ _ _ h => h) (Or.inl ⟨by rfl, ?_⟩) ?_ ?_;rotate_left
          ·
           intro w'
           go_simp
           with_reducible rfl
          rotate_left
          ·
           simp only [Act.put, List.setIfInBounds_toArray, List.set_cons_zero, List.set_cons_succ, i64_w, i32_w]
           rfl
          refine pure_ (i := 5) (N := some 33) (v := ?_) (a' := ?_) impl_bothPairs.D6 rfl rfl (any_of HT_.out (by kernel_rfl)) (fun _ _ _ h => h) (Or.inl ⟨by rfl, ?_⟩) ?_ ?_;rotate_left
          ·
           intro w'
           go_simp
           with_reducible rfl
          rotate_left
          ·
           simp only [Act.put, List.setIfInBounds_toArray, List.set_cons_zero, List.set_cons_succ, i64_w, i32_w]
           rfl
          refine pure_ (i := 6) (N := some 34) (v := ?_) (a' := ?_) impl_bothPairs.D7 rfl rfl (any_of HT_.out (by kernel_rfl)) (fun _ _ _ h => h) (Or.inl ⟨by rfl, ?_⟩) ?_ ?_;rotate_left
          ·
           intro w'
           go_simp
           with_reducible rfl
          rotate_left
          ·
           simp only [Act.put, List.setIfInBounds_toArray, List.set_cons_zero, List.set_cons_succ, i64_w, i32_w]
           rfl
          refine pure_ (i := 8) (N := some 36) (v := ?_) (a' := ?_) impl_bothPairs.D8 rfl rfl (any_of HT_.out (by kernel_rfl)) (fun _ _ _ h => h) (Or.inl ⟨by rfl, ?_⟩) ?_ ?_;rotate_left
          ·
           intro w'
           go_simp
           with_reducible rfl
          rotate_left
          ·
           simp only [Act.put, List.setIfInBounds_toArray, List.set_cons_zero, List.set_cons_succ, i64_w, i32_w]
           rfl
          refine take_ (i := 7) (N := some 35) (v := ?_) (a' := ?_) impl_bothPairs.D9 rfl rfl (take_ofW HT_.out HW_.out (by kernel_rfl)) (fun _ _ _ h => h) (Or.inl ⟨by rfl, ?_⟩) hHeld ?_ ?_;rotate_left
          ·
           rintro w' ⟨s0, s1, s2, s3⟩
           go_simp
           with_reducible rfl
          rotate_left
          ·
           simp only [Act.put, List.setIfInBounds_toArray, List.set_cons_zero, List.set_cons_succ, i64_w, i32_w]
           rfl
          refine take_ (i := 9) (N := some 37) (v := ?_) (a' := ?_) impl_bothPairs.D10 rfl rfl (take_ofW HT_.out HW_.out (by kernel_rfl)) (fun _ _ _ h => h) (Or.inl ⟨by rfl, ?_⟩) hHeld ?_ ?_;rotate_left
          ·
           rintro w' ⟨s0, s1, s2, s3⟩
           go_simp
           with_reducible rfl
          rotate_left
          ·
           simp only [Act.put, List.setIfInBounds_toArray, List.set_cons_zero, List.set_cons_succ, i64_w, i32_w]
           rfl
          refine pure_ (i := 10) (N := some 38) (v := ?_) (a' := ?_) impl_bothPairs.D11 rfl rfl (any_of HT_.out (by kernel_rfl)) (fun _ _ _ h => h) (Or.inl ⟨by rfl, ?_⟩) ?_ ?_;rotate_left
          ·
           intro w'
           go_simp
           with_reducible rfl
          rotate_left
          ·
           simp only [Act.put, List.setIfInBounds_toArray, List.set_cons_zero, List.set_cons_succ, i64_w, i32_w]
           rfl
          refine pure_ (i := 11) (N := some 39) (v := ?_) (a' := ?_) impl_bothPairs.D12 rfl rfl (any_of HT_.out (by kernel_rfl)) (fun _ _ _ h => h) (Or.inl ⟨by rfl, ?_⟩) ?_ ?_;rotate_left
          ·
           intro w'
           go_simp
           with_reducible rfl
          rotate_left
          ·
           simp only [Act.put, List.setIfInBounds_toArray, List.set_cons_zero, List.set_cons_succ, i64_w, i32_w]
           rfl
          refine done_ (done_of HT_.out (by kernel_rfl)) ?_
          try go_wp2
          have n0_ := Aside0.mk (Kd.R_drew HO_6.out);have n1_ := Aside0.mk (Kd.R_drew HO_19.out);have n2_ := Aside0.mk (blk_drew BK265.out);have n3_ := Aside0.mk (below_drew1 HB.out);clear HO_6 HO_19 BK265 HB;have HO_6 := n0_;have HO_19 := n1_;have BK265 := n2_;have HB := n3_;clear n0_ n1_ n2_ n3_
          have p267 : 0 ≤ ((ji14) : Int) := of_decide_eq_true q41_2
          have q267 : (ji14) < (x6_1.length : Int) := of_decide_eq_true q41_2
          obtain ⟨ad267, e267, hx267_0, hx267_1⟩ := at_T54 (Kd.R_reads' HO_6.out).2.2 (ji14) p267 q267
          obtain rfl : ad266 = ad267 := (by injection e267)
          replace p267 := eq_true p267
          replace q267 := eq_true q267
          have p18 : 0 ≤ ((ji14) : Int) := of_decide_eq_true q41_2
          have q18 : ((ji14) : Int) < ((x6_1.length : Int) : Int) := of_decide_eq_true q41_2
          obtain ⟨go18, co18, eo18, gb18, gl18, cl18, HG18⟩ := Kd.R_form HO_6.out (by omega);(first | cases eo18 | (injection eo18 with ea_ en_ ec_; (first | subst ea_ | (injection ea_ with ea_; subst ea_)); subst ec_; clear en_));have GB18 := Aside0.mk gb18;have GG18 := Aside0.mk HG18;clear gb18 gl18 HG18;(first | simp only [add_plain] at hx266_0 | skip);(first | simp only [add_plain] at hx266_1 | skip);(first | simp only [add_plain] at hx267_0 | skip);(first | simp only [add_plain] at hx267_1 | skip);obtain ⟨ce18, hcl18, hM18, hcc18, hfr18⟩ := Kd.R_elem HO_6.out z54 ((ji14) : Int) p18 q18
          obtain rfl := k54_openM hM18
          have hx18_0 : World.cell? _ ⟨go18, ((ji14) : Int).toNat * 2, none⟩ = some (.int .i64 ((rd_T54 x6_1 (ji14)).f0)) := hcc18 0 _ rfl
          have hx18_1 : World.cell? _ ⟨go18, ((ji14) : Int).toNat * 2 + 1, none⟩ = some (.int .i64 ((rd_T54 x6_1 (ji14)).f1)) := hcc18 1 _ rfl
          have hf18_0 : World.frozen? _ ⟨go18, ((ji14) : Int).toNat * 2, none⟩ = false := hfr18 0
          have hf18_1 : World.frozen? _ ⟨go18, ((ji14) : Int).toNat * 2 + 1, none⟩ = false := hfr18 1
          clear hcl18 hcc18 hfr18; (try clear hM18)
          replace p18 := eq_true p18
          replace q18 := eq_true q18
          obtain ⟨ce25, hcl25, hM25, hcc25, hfr25⟩ := Kd.R_elem HO_6.out z54 ((ji14) : Int) (of_decide_eq_true q41_2) (by have h_ : ((ji14) : Int) < ((x6_1.length : Int) : Int) := of_decide_eq_true q41_2; first | exact h_ | (have e_ := (Kd.R_reads' HO_6.out).1; omega) | simpa using h_)
          obtain rfl := k54_openM hM25
          have HP25 := (Kd.R_seg HO_6.out ((ji14) : Int) (of_decide_eq_true q41_2) (by have h_ : ((ji14) : Int) < ((x6_1.length : Int) : Int) := of_decide_eq_true q41_2; first | exact h_ | (have e_ := (Kd.R_reads' HO_6.out).1; omega) | simpa using h_) (seg := [.int .i64 (wrap64 (((rd_T54 x6_1 (ji14)).f1) + ((rd_T54 x19_1 x21_1).f1)))]) (j := 1) hcl25 hcc25 (show 2 ≤ 2 from by decide) (x' := (⟨(rd_T54 x6_1 (ji14)).f0, wrap64 (((rd_T54 x6_1 (ji14)).f1) + ((rd_T54 x19_1 x21_1).f1))⟩ : S54)) (k54_mkM _ _ _ (⟨(rd_T54 x6_1 (ji14)).f0, wrap64 (((rd_T54 x6_1 (ji14)).f1) + ((rd_T54 x19_1 x21_1).f1))⟩ : S54) ) (fun _ hk => hk)).1
          rw [← Ny268.out] at HP25
          have HQ25 := Aside0.mk HP25;clear hcl25 hcc25 hfr25 HP25; (try clear hM25);refine start_ (n := 11) (S := fun w' => w'.cell? ⟨gb265, 0, none⟩ = some (.int .i64 ((rd_T54 x19_1 x21_1).f0)) ∧ w'.cell? ⟨gb265, 1, none⟩ = some (.int .i64 ((rd_T54 x19_1 x21_1).f1)) ∧ w'.cell? ⟨go18, ((ji14)).toNat * 2, none⟩ = some (.int .i64 ((rd_T54 x6_1 (ji14)).f0)) ∧ w'.cell? ⟨go18, ((ji14)).toNat * 2 + 1, none⟩ = some (.int .i64 ((rd_T54 x6_1 (ji14)).f1))) (ds := [10]) impl_bothPairs.D13 (by kernel_rfl) rfl rfl ⟨(blk_cell BK265.out 0).trans rfl, (blk_cell BK265.out 1).trans rfl, hx267_0, hx267_1⟩ (fun hHeld => ?_); refine with_tabW impl_bothPairs.tab9 impl_bothPairs.bits9 (fun HT_ HW_ => ?_)
          generalize w23.drew = w24 at HO_6 HO_19 BK265 HB GG18 HQ25 hf18_0 hf18_1 hx18_0 hx18_1 hx266_0 hx266_1 hx267_0 hx267_1 hHeld ⊢
          refine pure_ (i := 0) (N := some 40) (v := ?_) (a' := ?_) impl_bothPairs.D14 rfl rfl (any_of HT_.out (by kernel_rfl)) (fun _ _ _ h => h) (Or.inl ⟨by rfl, ?_⟩) ?_ ?_;rotate_left
          ·
           intro w'
           go_simp
           with_reducible rfl
          rotate_left
          ·
           simp only [Act.put, List.setIfInBounds_toArray, List.set_cons_zero, List.set_cons_succ, i64_w, i32_w]
           rfl
          refine pure_ (i := 1) (N := some 41) (v := ?_) (a' := ?_) impl_bothPairs.D15 rfl rfl (any_of HT_.out (by kernel_rfl)) (fun _ _ _ h => h) (Or.inl ⟨by rfl, ?_⟩) ?_ ?_;rotate_left
          ·
           intro w'
           go_simp
           with_reducible rfl
          rotate_left
          ·
           simp only [Act.put, List.setIfInBounds_toArray, List.set_cons_zero, List.set_cons_succ, i64_w, i32_w]
           rfl
          refine pure_ (i := 2) (N := some 42) (v := ?_) (a' := ?_) impl_bothPairs.D16 rfl rfl (any_of HT_.out (by kernel_rfl)) (fun _ _ _ h => h) (Or.inl ⟨by rfl, ?_⟩) ?_ ?_;rotate_left
          ·
           intro w'
           go_simp
           with_reducible rfl
          rotate_left
          ·
           simp only [Act.put, List.setIfInBounds_toArray, List.set_cons_zero, List.set_cons_succ, i64_w, i32_w]
           rfl
          refine pure_ (i := 3) (N := some 43) (v := ?_) (a' := ?_) impl_bothPairs.D17 rfl rfl (any_of HT_.out (by kernel_rfl)) (fun _ _ _ h => h) (Or.inl ⟨by rfl, ?_⟩) ?_ ?_;rotate_left
          ·
           intro w'
           go_simp
           with_reducible rfl
          rotate_left
          ·
           simp only [Act.put, List.setIfInBounds_toArray, List.set_cons_zero, List.set_cons_succ, i64_w, i32_w]
           rfl
          refine pure_ (i := 5) (N := some 45) (v := ?_) (a' := ?_) impl_bothPairs.D18 rfl rfl (any_of HT_.out (by kernel_rfl)) (fun _ _ _ h => h) (Or.inl ⟨by rfl, ?_⟩) ?_ ?_;rotate_left
          ·
           intro w'
           go_simp
           with_reducible rfl
          rotate_left
          ·
           simp only [Act.put, List.setIfInBounds_toArray, List.set_cons_zero, List.set_cons_succ, i64_w, i32_w]
           rfl
          refine take_ (i := 4) (N := some 44) (v := ?_) (a' := ?_) impl_bothPairs.D19 rfl rfl (take_ofW HT_.out HW_.out (by kernel_rfl)) (fun _ _ _ h => h) (Or.inl ⟨by rfl, ?_⟩) hHeld ?_ ?_;rotate_left
          ·
           rintro w' ⟨s0, s1, s2, s3⟩
           go_simp
           with_reducible rfl
          rotate_left
          ·
           simp only [Act.put, List.setIfInBounds_toArray, List.set_cons_zero, List.set_cons_succ, i64_w, i32_w]
           rfl
          refine take_ (i := 6) (N := some 46) (v := ?_) (a' := ?_) impl_bothPairs.D20 rfl rfl (take_ofW HT_.out HW_.out (by kernel_rfl)) (fun _ _ _ h => h) (Or.inl ⟨by rfl, ?_⟩) hHeld ?_ ?_;rotate_left
          ·
           rintro w' ⟨s0, s1, s2, s3⟩
           go_simp
           with_reducible rfl
          rotate_left
          ·
           simp only [Act.put, List.setIfInBounds_toArray, List.set_cons_zero, List.set_cons_succ, i64_w, i32_w]
           rfl
          refine pure_ (i := 7) (N := some 47) (v := ?_) (a' := ?_) impl_bothPairs.D21 rfl rfl (any_of HT_.out (by kernel_rfl)) (fun _ _ _ h => h) (Or.inl ⟨by rfl, ?_⟩) ?_ ?_;rotate_left
          ·
           intro w'
           go_simp
           with_reducible rfl
          rotate_left
          ·
           simp only [Act.put, List.setIfInBounds_toArray, List.set_cons_zero, List.set_cons_succ, i64_w, i32_w]
           rfl
          refine pure_ (i := 8) (N := some 48) (v := ?_) (a' := ?_) impl_bothPairs.D22 rfl rfl (any_of HT_.out (by kernel_rfl)) (fun _ _ _ h => h) (Or.inl ⟨by rfl, ?_⟩) ?_ ?_;rotate_left
          ·
           intro w'
           go_simp
           with_reducible rfl
          rotate_left
          ·
           simp only [Act.put, List.setIfInBounds_toArray, List.set_cons_zero, List.set_cons_succ, i64_w, i32_w]
           rfl
          refine pure_ (i := 9) (N := some 49) (v := ?_) (a' := ?_) impl_bothPairs.D23 rfl rfl (any_of HT_.out (by kernel_rfl)) (fun _ _ _ h => h) (Or.inl ⟨by rfl, ?_⟩) ?_ ?_;rotate_left
          ·
           intro w'
           go_simp
           with_reducible rfl
          rotate_left
          ·
           simp only [Act.put, List.setIfInBounds_toArray, List.set_cons_zero, List.set_cons_succ, i64_w, i32_w]
           rfl
          refine last_ (i := 10) (N := none) impl_bothPairs.D24 rfl rfl (one_of HT_.out (by kernel_rfl)) (by decide) (fun K hK => ?_);refine skip_ (w1 := ?_) (by rfl) rfl ?_ ?_;rotate_left
          ·
           go_simp
           rfl
          refine hK.out _ _ ?_;clear hK K;refine done_ (done_of HT_.out (by kernel_rfl)) ?_
          try go_wp2
          (try simp only [← hl19_1])
          go_roundg k1
          case measure => have := HK1.out; omega
          case rel => exact ⟨(y268), (x19_1), (wrap64 (x21_1 + 1)), q41_9, H', ⟨by have := HK1.out; omega⟩, ⟨by (try simp only [hl19_1]); (with_reducible repeat (first | apply Kd.R_alloc | apply Kd.R_drewN | apply Kd.R_drew)); exact Kd.R_mono HQ25.out (fun _ hk => hk.1)⟩, ⟨by (try simp only [hl19_1]); (with_reducible repeat (first | apply Kd.R_alloc | apply Kd.R_drewN | apply Kd.R_drew)); exact Kd.R_mono (Kd.R_far (p := ⟨go18, ((ji14) : Int).toNat * 2 + 1, none⟩) (Kd.R_mono HO_19.out (fun k_ hk => (⟨hk, fun e_ => hk.1 (by rw [e_]; rfl)⟩ : _ ∧ k_ ≠ go18))) (fun _ hk => hk.2) (.int .i64 (wrap64 (((rd_T54 x6_1 (ji14)).f1) + ((rd_T54 x19_1 x21_1).f1))))) (fun _ hk => hk.1.1)⟩, ⟨by repeat (first | (with_reducible first | exact HB.out | apply below_alloc | apply pw_below_drewN | apply below_drew1 | refine below_set ?_ GB18.out | refine below_set ?_ GE265.out) | exact HB.out)⟩⟩
         ·
          rw [if_neg c17] at H
          have c17b0 : (((rd_T54 x6_1 (ji14)).f0) == ((rd_T54 x19_1 x21_1).f0)) = false := beq_eq_false_iff_ne.mpr c17
          have c17b1 : (((rd_T54 x6_1 (ji14)).f0) != ((rd_T54 x19_1 x21_1).f0)) = true := bne_iff_ne.mpr c17
          by_cases c26 : x6_1.length < 8796093022208
          ·
           rw [if_pos c26] at H
           have LMc26 := Aside0.mk c26;clear c26;obtain ⟨y269, hy269⟩ : ∃ y_ : List (S54), y_ = (x6_1 ++ [(⟨(rd_T54 x19_1 x21_1).f0, (rd_T54 x19_1 x21_1).f1⟩ : S54)]) := ⟨_, rfl⟩
           replace H : (impl_bothPairs.l0 k1 y269 x19_1 (t257.length : Int) (wrap64 (x21_1 + 1))) = some r := by first | (rw [hy269]; with_reducible exact H) | (have H2_ := (Option.bind_some _ _).symm.trans H; rw [hy269]; with_reducible exact H2_) | (have H2_ := (Option.bind_some _ _).symm.trans H; with_reducible exact H2_) | with_reducible exact H | (rw [hy269]; exact H) | exact H
           have Ny269 := Aside0.mk hy269;clear hy269
           have H' := Aside0.mk H
           clear H
           have p264 : 0 ≤ (x21_1 : Int) := of_decide_eq_true q41_2
           have q264 : x21_1 < (x19_1.length : Int) := of_decide_eq_true q41_2
           obtain ⟨ad264, e264, hx264_0, hx264_1⟩ := at_T54 (Kd.R_reads' HO_19.out).2.2 x21_1 p264 q264
           cases e264
           replace p264 := eq_true p264
           replace q264 := eq_true q264
           try go_wp2_with (first | ((with_reducible refine gate_dst (N := 8) rfl ?_); refine box_event ?hg (N := 8) ?hd (cs := #[.int .i64 0, .int .i64 0]) (t := 54) ?hr ?_; (case hd => rfl); (case hg => rfl); (case hr => exact q41_10); intro gb265 hg w27 hbox hb; have n0_ := Aside0.mk (Kd.R_below (Kd.R_elderB q41_4 gb265 (Nat.le_of_eq hg.symm)) hb); have n1_ := Aside0.mk (Kd.R_below (Kd.R_elderB q41_3 gb265 (Nat.le_of_eq hg.symm)) hb); have n2_ := Aside0.mk (below_step q41_0 hb); have n3_ := Aside0.mk (hbox); have n4_ := Aside0.mk ((q41_7 : w.heap.size ≤ gb265)); have n5_ := Aside0.mk ((q41_7 : w.heap.size ≤ gb265)); clear HO_6; clear HO_19; clear HB; have HO_6 := n0_; have HO_19 := n1_; have HB := n2_; have BK265 := n3_; have GW265 := n4_; have GE265 := n5_; clear n0_ n1_ n2_ n3_ n4_ n5_; clear hb hbox hg; have hcz28_0 : w27.cell? ⟨gb265, 0, none⟩ = some (.int .i64 0) := (blk_cell BK265.out 0).trans rfl; have hcz28_1 : w27.cell? ⟨gb265, 1, none⟩ = some (.int .i64 0) := (blk_cell BK265.out 1).trans rfl; have hfz28_0 := blk_frozen BK265.out 0; have hfz28_1 := blk_frozen BK265.out 1; obtain ⟨Ao29, co29, eo29⟩ := Kd.R_slice HO_6.out; subst eo29))
           have n0_ : Aside0 (Kd.R k54 54 ((w27.setCell ⟨gb265, 0, none⟩ (.int .i64 ((rd_T54 x19_1 x21_1).f0))).setCell ⟨gb265, 1, none⟩ (.int .i64 ((rd_T54 x19_1 x21_1).f1))) w.heap.size (fun k_ => some k_ ≠ (.slice (some ad264) x19_1.length co6 : Value).ownBlock ∧ k_ ≠ gb265) (.slice Ao29 x6_1.length co29) x6_1) := ⟨by (with_reducible repeat (first | apply Kd.R_alloc | apply Kd.R_drewN | apply Kd.R_drew)); exact Kd.R_mono (Kd.R_far (p := ⟨gb265, 1, none⟩) (Kd.R_far (p := ⟨gb265, 0, none⟩) (Kd.R_mono HO_6.out (fun k_ hk => (⟨hk, hk.2⟩ : _ ∧ k_ ≠ gb265))) (fun _ hk => hk.2) (.int .i64 ((rd_T54 x19_1 x21_1).f0))) (fun _ hk => hk.2) (.int .i64 ((rd_T54 x19_1 x21_1).f1))) (fun _ hk => ⟨hk.1.1, hk.1.2⟩)⟩
           have n1_ : Aside0 (Kd.R k54 54 ((w27.setCell ⟨gb265, 0, none⟩ (.int .i64 ((rd_T54 x19_1 x21_1).f0))).setCell ⟨gb265, 1, none⟩ (.int .i64 ((rd_T54 x19_1 x21_1).f1))) w.heap.size (fun k_ => some k_ ≠ (.slice Ao29 x6_1.length co29 : Value).ownBlock ∧ k_ ≠ gb265) (.slice (some ad264) x19_1.length co6) x19_1) := ⟨by (with_reducible repeat (first | apply Kd.R_alloc | apply Kd.R_drewN | apply Kd.R_drew)); exact Kd.R_mono (Kd.R_far (p := ⟨gb265, 1, none⟩) (Kd.R_far (p := ⟨gb265, 0, none⟩) (Kd.R_mono HO_19.out (fun k_ hk => (⟨hk, hk.2⟩ : _ ∧ k_ ≠ gb265))) (fun _ hk => hk.2) (.int .i64 ((rd_T54 x19_1 x21_1).f0))) (fun _ hk => hk.2) (.int .i64 ((rd_T54 x19_1 x21_1).f1))) (fun _ hk => ⟨hk.1.1, hk.1.2⟩)⟩
           have n2_ : Aside0 (((w27.setCell ⟨gb265, 0, none⟩ (.int .i64 ((rd_T54 x19_1 x21_1).f0))).setCell ⟨gb265, 1, none⟩ (.int .i64 ((rd_T54 x19_1 x21_1).f1))).heap[gb265]? = some (.cells #[.int .i64 ((rd_T54 x19_1 x21_1).f0), .int .i64 ((rd_T54 x19_1 x21_1).f1)] 54 (0, 0))) := ⟨by (with_reducible repeat (first | refine blk_drewN ?_ _ | refine blk_drew ?_ | refine blk_alloc ?_ _)); refine blk_put (cs := #[.int .i64 ((rd_T54 x19_1 x21_1).f0), .int .i64 0]) ?_ 1 _ rfl; (with_reducible repeat (first | refine blk_drewN ?_ _ | refine blk_drew ?_ | refine blk_alloc ?_ _)); refine blk_put (cs := #[.int .i64 0, .int .i64 0]) ?_ 0 _ rfl; (with_reducible repeat (first | refine blk_drewN ?_ _ | refine blk_drew ?_ | refine blk_alloc ?_ _)); exact BK265.out⟩
           have n3_ : Aside0 (Below w.heap.size w ((w27.setCell ⟨gb265, 0, none⟩ (.int .i64 ((rd_T54 x19_1 x21_1).f0))).setCell ⟨gb265, 1, none⟩ (.int .i64 ((rd_T54 x19_1 x21_1).f1)))) := ⟨q41_1⟩
           (try clear HO_6);(try clear HO_19);(try clear BK265);(try clear HB)
           generalize ((w27.setCell ⟨gb265, 0, none⟩ (.int .i64 ((rd_T54 x19_1 x21_1).f0))).setCell ⟨gb265, 1, none⟩ (.int .i64 ((rd_T54 x19_1 x21_1).f1))) = w30 at n0_ n1_ n2_ n3_ ⊢
           have HO_6 := n0_;have HO_19 := n1_;have BK265 := n2_;have HB := n3_;clear n0_ n1_ n2_ n3_;have n0_ := Aside0.mk (Kd.R_drew HO_6.out);have n1_ := Aside0.mk (Kd.R_drew HO_19.out);have n2_ := Aside0.mk (blk_drew BK265.out);have n3_ := Aside0.mk (below_drew1 HB.out);clear HO_6 HO_19 BK265 HB;have HO_6 := n0_;have HO_19 := n1_;have BK265 := n2_;have HB := n3_;clear n0_ n1_ n2_ n3_
           have p266 : 0 ≤ ((ji14) : Int) := of_decide_eq_true q41_2
           have q266 : (ji14) < (x6_1.length : Int) := of_decide_eq_true q41_2
           obtain ⟨ad266, e266, hx266_0, hx266_1⟩ := at_T54 (Kd.R_reads' HO_6.out).2.2 (ji14) p266 q266
           cases e266
           replace p266 := eq_true p266
           replace q266 := eq_true q266
           refine start_ (n := 12) (S := fun w' => w'.cell? ⟨gb265, 0, none⟩ = some (.int .i64 ((rd_T54 x19_1 x21_1).f0)) ∧ w'.cell? ⟨gb265, 1, none⟩ = some (.int .i64 ((rd_T54 x19_1 x21_1).f1)) ∧ w'.cell? (ad266.add (((ji14)).toNat * 2)) = some (.int .i64 ((rd_T54 x6_1 (ji14)).f0)) ∧ w'.cell? ⟨(ad266.add (((ji14)).toNat * 2)).block, (ad266.add (((ji14)).toNat * 2)).off + 1, none⟩ = some (.int .i64 ((rd_T54 x6_1 (ji14)).f1))) (ds := []) impl_bothPairs.D0 (by kernel_rfl) rfl rfl ⟨(blk_cell BK265.out 0).trans rfl, (blk_cell BK265.out 1).trans rfl, hx266_0, hx266_1⟩ (fun hHeld => ?_); refine with_tabW impl_bothPairs.tab8 impl_bothPairs.bits8 (fun HT_ HW_ => ?_)
           generalize w30.drew = w31 at HO_6 HO_19 BK265 HB hx266_0 hx266_1 hHeld ⊢
           refine pure_ (i := 0) (N := some 28) (v := ?_) (a' := ?_) impl_bothPairs.D1 rfl rfl (any_of HT_.out (by kernel_rfl)) (fun _ _ _ h => h) (Or.inl ⟨by rfl, ?_⟩) ?_ ?_;rotate_left
           ·
            intro w'
            go_simp
            with_reducible rfl
           rotate_left
           ·
            simp only [Act.put, List.setIfInBounds_toArray, List.set_cons_zero, List.set_cons_succ, i64_w, i32_w]
            rfl
           refine pure_ (i := 1) (N := some 29) (v := ?_) (a' := ?_) impl_bothPairs.D2 rfl rfl (any_of HT_.out (by kernel_rfl)) (fun _ _ _ h => h) (Or.inl ⟨by rfl, ?_⟩) ?_ ?_;rotate_left
           ·
            intro w'
            go_simp
            with_reducible rfl
           rotate_left
           ·
            simp only [Act.put, List.setIfInBounds_toArray, List.set_cons_zero, List.set_cons_succ, i64_w, i32_w]
            rfl
           refine pure_ (i := 2) (N := some 30) (v := ?_) (a' := ?_) impl_bothPairs.D3 rfl rfl (any_of HT_.out (by kernel_rfl)) (fun _ _ _ h => h) (Or.inl ⟨by rfl, ?_⟩) ?_ ?_;rotate_left
           ·
            intro w'
            go_simp
            with_reducible rfl
           rotate_left
           ·
            simp only [Act.put, List.setIfInBounds_toArray, List.set_cons_zero, List.set_cons_succ, i64_w, i32_w]
            rfl
           refine pure_ (i := 3) (N := some 31) (v := ?_) (a' := ?_) impl_bothPairs.D4 rfl rfl (any_of HT_.out (by kernel_rfl)) (fun _ _ _ h => h) (Or.inl ⟨by rfl, ?_⟩) ?_ ?_;rotate_left
           ·
            intro w'
            go_simp
            with_reducible rfl
           rotate_left
           ·
            simp only [Act.put, List.setIfInBounds_toArray, List.set_cons_zero, List.set_cons_succ, i64_w, i32_w]
            rfl
           refine pure_ (i := 4) (N := some 32) (v := ?_) (a' := ?_) impl_bothPairs.D5 rfl rfl (any_of HT_.out (by kernel_rfl)) (fun _ _ _ h => h) (Or.inl ⟨by rfl, ?_⟩) ?_ ?_;rotate_left
           ·
            intro w'
            go_simp
            with_reducible rfl
           rotate_left
           ·
            simp only [Act.put, List.setIfInBounds_toArray, List.set_cons_zero, List.set_cons_succ, i64_w, i32_w]
            rfl
           refine pure_ (i := 5) (N := some 33) (v := ?_) (a' := ?_) impl_bothPairs.D6 rfl rfl (any_of HT_.out (by kernel_rfl)) (fun _ _ _ h => h) (Or.inl ⟨by rfl, ?_⟩) ?_ ?_;rotate_left
           ·
            intro w'
            go_simp
            with_reducible rfl
           rotate_left
           ·
            simp only [Act.put, List.setIfInBounds_toArray, List.set_cons_zero, List.set_cons_succ, i64_w, i32_w]
            rfl
           refine pure_ (i := 6) (N := some 34) (v := ?_) (a' := ?_) impl_bothPairs.D7 rfl rfl (any_of HT_.out (by kernel_rfl)) (fun _ _ _ h => h) (Or.inl ⟨by rfl, ?_⟩) ?_ ?_;rotate_left
           ·
            intro w'
            go_simp
            with_reducible rfl
           rotate_left
           ·
            simp only [Act.put, List.setIfInBounds_toArray, List.set_cons_zero, List.set_cons_succ, i64_w, i32_w]
            rfl
           refine pure_ (i := 8) (N := some 36) (v := ?_) (a' := ?_) impl_bothPairs.D8 rfl rfl (any_of HT_.out (by kernel_rfl)) (fun _ _ _ h => h) (Or.inl ⟨by rfl, ?_⟩) ?_ ?_;rotate_left
           ·
            intro w'
            go_simp
            with_reducible rfl
           rotate_left
           ·
            simp only [Act.put, List.setIfInBounds_toArray, List.set_cons_zero, List.set_cons_succ, i64_w, i32_w]
            rfl
           refine take_ (i := 7) (N := some 35) (v := ?_) (a' := ?_) impl_bothPairs.D9 rfl rfl (take_ofW HT_.out HW_.out (by kernel_rfl)) (fun _ _ _ h => h) (Or.inl ⟨by rfl, ?_⟩) hHeld ?_ ?_;rotate_left
           ·
            rintro w' ⟨s0, s1, s2, s3⟩
            go_simp
            with_reducible rfl
           rotate_left
           ·
            simp only [Act.put, List.setIfInBounds_toArray, List.set_cons_zero, List.set_cons_succ, i64_w, i32_w]
            rfl
           refine take_ (i := 9) (N := some 37) (v := ?_) (a' := ?_) impl_bothPairs.D10 rfl rfl (take_ofW HT_.out HW_.out (by kernel_rfl)) (fun _ _ _ h => h) (Or.inl ⟨by rfl, ?_⟩) hHeld ?_ ?_;rotate_left
           ·
            rintro w' ⟨s0, s1, s2, s3⟩
            go_simp
            with_reducible rfl
           rotate_left
           ·
            simp only [Act.put, List.setIfInBounds_toArray, List.set_cons_zero, List.set_cons_succ, i64_w, i32_w]
            rfl
           refine pure_ (i := 10) (N := some 38) (v := ?_) (a' := ?_) impl_bothPairs.D11 rfl rfl (any_of HT_.out (by kernel_rfl)) (fun _ _ _ h => h) (Or.inl ⟨by rfl, ?_⟩) ?_ ?_;rotate_left
           ·
            intro w'
            go_simp
            with_reducible rfl
           rotate_left
           ·
            simp only [Act.put, List.setIfInBounds_toArray, List.set_cons_zero, List.set_cons_succ, i64_w, i32_w]
            rfl
           refine pure_ (i := 11) (N := some 39) (v := ?_) (a' := ?_) impl_bothPairs.D12 rfl rfl (any_of HT_.out (by kernel_rfl)) (fun _ _ _ h => h) (Or.inl ⟨by rfl, ?_⟩) ?_ ?_;rotate_left
           ·
            intro w'
            go_simp
            with_reducible rfl
           rotate_left
           ·
            simp only [Act.put, List.setIfInBounds_toArray, List.set_cons_zero, List.set_cons_succ, i64_w, i32_w]
            rfl
           refine done_ (done_of HT_.out (by kernel_rfl)) ?_
           have hcz32_0 : w31.cell? ⟨gb265, 0, none⟩ = some (.int .i64 ((rd_T54 x19_1 x21_1).f0)) := (blk_cell BK265.out 0).trans rfl
           have hcz32_1 : w31.cell? ⟨gb265, 1, none⟩ = some (.int .i64 ((rd_T54 x19_1 x21_1).f1)) := (blk_cell BK265.out 1).trans rfl
           have hfz32_0 := blk_frozen BK265.out 0;have hfz32_1 := blk_frozen BK265.out 1
           try go_wp2_with (first | ((with_reducible refine gate_builtin (b := .append) (xs := #[.tmp 50, .tmp 52]) rfl ?_); at_builtin; refine Kd.R_append k54 (w0 := w) w.heap.size rfl (.tmp 50) (.tmp 52) 23 54 (.agg #[(.int .i64 0), (.int .i64 0)]) 16 rfl Try.underlying23 info54 rfl (by decide) (by omega) (.slice (some ad266) x6_1.length co29) x6_1 (⟨(rd_T54 x19_1 x21_1).f0, (rd_T54 x19_1 x21_1).f1⟩ : S54) [.int .i64 ((rd_T54 x19_1 x21_1).f0), .int .i64 ((rd_T54 x19_1 x21_1).f1)] (fun k_ => some k_ ≠ (.slice (some ad264) x19_1.length co6 : Value).ownBlock ∧ k_ ≠ gb265) (fun _ => False) rfl rfl ?aP (fun _ hk => hk.elim) ?aF ?aO ?aB ?aS ?aL ?_; (case aP => exact k54_mkM _ _ _ (⟨(rd_T54 x19_1 x21_1).f0, (rd_T54 x19_1 x21_1).f1⟩ : S54)); (case aB => exact q41_1); (case aF => exact (fun k_ hk => ⟨Kd.fresh' (Kd.R_lt q41_3) k_ hk, Kd.freshB (g := gb265) (o := .cells #[.int .i64 ((rd_T54 x19_1 x21_1).f0), .int .i64 ((rd_T54 x19_1 x21_1).f1)] 54 (0, 0)) q41_5 k_ hk⟩)); (case aO => exact q41_4); (case aS => exact (below_size q41_1)); (case aL => have := LMc26.out; omega); intro v270 w33 ho hb hg hat; rw [← Ny269.out] at ho; have n0_ := Aside0.mk (Kd.R_after (ok := (fun k_ => k_ ≠ gb265)) q41_6 hg hat); have n1_ := Aside0.mk (blk_grown (g := gb265) (o := .cells #[.int .i64 ((rd_T54 x19_1 x21_1).f0), .int .i64 ((rd_T54 x19_1 x21_1).f1)] 54 (0, 0)) q41_5 hg (Kd.R_away HO_6.out (fun _ hk => hk.2))); have n2_ := Aside0.mk (hb); have n3_ := Aside0.mk (ho); clear HO_19; clear BK265; clear HB; clear HO_6; have HO_19 := n0_; have BK265 := n1_; have HB := n2_; have HO271 := n3_; clear n0_ n1_ n2_ n3_; clear ho hb hg hat))
           (try simp only [← hl19_1])
           go_roundg k1
           case measure => have := HK1.out; omega
           case rel => exact ⟨(y269), (x19_1), (wrap64 (x21_1 + 1)), q41_9, H', ⟨by have := HK1.out; omega⟩, ⟨by (try simp only [hl19_1]); (with_reducible repeat (first | apply Kd.R_alloc | apply Kd.R_drewN | apply Kd.R_drew)); exact Kd.R_mono HO271.out (fun _ hk => hk.1)⟩, ⟨by (try simp only [hl19_1]); (with_reducible repeat (first | apply Kd.R_alloc | apply Kd.R_drewN | apply Kd.R_drew)); exact Kd.R_mono HO_19.out (fun _ hk => hk.2)⟩, ⟨q41_1⟩⟩
          ·
           rw [if_neg c26] at H
           exact absurd H (by simp)
        ·
         rw [if_neg c16] at H
         exact absurd H (by simp)
       ·
        rw [if_neg c15] at H
        exact absurd H (by simp)
      ·
       rw [if_neg c13] at H
       have c13b0 : decide (0 ≤ (wrap64 ((x6_1.length : Int) - 1))) = false := decide_eq_false c13
       clear c13
       by_cases c34 : x6_1.length < 8796093022208
       ·
        rw [if_pos c34] at H
        have LMc34 := Aside0.mk c34;clear c34;obtain ⟨y272, hy272⟩ : ∃ y_ : List (S54), y_ = (x6_1 ++ [(⟨(rd_T54 x19_1 x21_1).f0, (rd_T54 x19_1 x21_1).f1⟩ : S54)]) := ⟨_, rfl⟩
        replace H : (impl_bothPairs.l0 k1 y272 x19_1 (t257.length : Int) (wrap64 (x21_1 + 1))) = some r := by first | (rw [hy272]; with_reducible exact H) | (have H2_ := (Option.bind_some _ _).symm.trans H; rw [hy272]; with_reducible exact H2_) | (have H2_ := (Option.bind_some _ _).symm.trans H; with_reducible exact H2_) | with_reducible exact H | (rw [hy272]; exact H) | exact H
        have Ny272 := Aside0.mk hy272;clear hy272
        have H' := Aside0.mk H
        clear H
        have p264 : 0 ≤ (x21_1 : Int) := of_decide_eq_true q41_2
        have q264 : x21_1 < (x19_1.length : Int) := of_decide_eq_true q41_2
        obtain ⟨ad264, e264, hx264_0, hx264_1⟩ := at_T54 (Kd.R_reads' HO_19.out).2.2 x21_1 p264 q264
        cases e264
        replace p264 := eq_true p264
        replace q264 := eq_true q264
        try go_wp2_with (first | ((with_reducible refine gate_dst (N := 8) rfl ?_); refine box_event ?hg (N := 8) ?hd (cs := #[.int .i64 0, .int .i64 0]) (t := 54) ?hr ?_; (case hd => rfl); (case hg => rfl); (case hr => exact q41_10); intro gb265 hg w35 hbox hb; have n0_ := Aside0.mk (Kd.R_below (Kd.R_elderB q41_4 gb265 (Nat.le_of_eq hg.symm)) hb); have n1_ := Aside0.mk (Kd.R_below (Kd.R_elderB q41_3 gb265 (Nat.le_of_eq hg.symm)) hb); have n2_ := Aside0.mk (below_step q41_0 hb); have n3_ := Aside0.mk (hbox); have n4_ := Aside0.mk ((q41_7 : w.heap.size ≤ gb265)); have n5_ := Aside0.mk ((q41_7 : w.heap.size ≤ gb265)); clear HO_6; clear HO_19; clear HB; have HO_6 := n0_; have HO_19 := n1_; have HB := n2_; have BK265 := n3_; have GW265 := n4_; have GE265 := n5_; clear n0_ n1_ n2_ n3_ n4_ n5_; clear hb hbox hg; have hcz36_0 : w35.cell? ⟨gb265, 0, none⟩ = some (.int .i64 0) := (blk_cell BK265.out 0).trans rfl; have hcz36_1 : w35.cell? ⟨gb265, 1, none⟩ = some (.int .i64 0) := (blk_cell BK265.out 1).trans rfl; have hfz36_0 := blk_frozen BK265.out 0; have hfz36_1 := blk_frozen BK265.out 1; obtain ⟨Ao37, co37, eo37⟩ := Kd.R_slice HO_6.out; subst eo37))
        have n0_ : Aside0 (Kd.R k54 54 ((w35.setCell ⟨gb265, 0, none⟩ (.int .i64 ((rd_T54 x19_1 x21_1).f0))).setCell ⟨gb265, 1, none⟩ (.int .i64 ((rd_T54 x19_1 x21_1).f1))) w.heap.size (fun k_ => some k_ ≠ (.slice (some ad264) x19_1.length co6 : Value).ownBlock ∧ k_ ≠ gb265) (.slice Ao37 x6_1.length co37) x6_1) := ⟨by (with_reducible repeat (first | apply Kd.R_alloc | apply Kd.R_drewN | apply Kd.R_drew)); exact Kd.R_mono (Kd.R_far (p := ⟨gb265, 1, none⟩) (Kd.R_far (p := ⟨gb265, 0, none⟩) (Kd.R_mono HO_6.out (fun k_ hk => (⟨hk, hk.2⟩ : _ ∧ k_ ≠ gb265))) (fun _ hk => hk.2) (.int .i64 ((rd_T54 x19_1 x21_1).f0))) (fun _ hk => hk.2) (.int .i64 ((rd_T54 x19_1 x21_1).f1))) (fun _ hk => ⟨hk.1.1, hk.1.2⟩)⟩
        have n1_ : Aside0 (Kd.R k54 54 ((w35.setCell ⟨gb265, 0, none⟩ (.int .i64 ((rd_T54 x19_1 x21_1).f0))).setCell ⟨gb265, 1, none⟩ (.int .i64 ((rd_T54 x19_1 x21_1).f1))) w.heap.size (fun k_ => some k_ ≠ (.slice Ao37 x6_1.length co37 : Value).ownBlock ∧ k_ ≠ gb265) (.slice (some ad264) x19_1.length co6) x19_1) := ⟨by (with_reducible repeat (first | apply Kd.R_alloc | apply Kd.R_drewN | apply Kd.R_drew)); exact Kd.R_mono (Kd.R_far (p := ⟨gb265, 1, none⟩) (Kd.R_far (p := ⟨gb265, 0, none⟩) (Kd.R_mono HO_19.out (fun k_ hk => (⟨hk, hk.2⟩ : _ ∧ k_ ≠ gb265))) (fun _ hk => hk.2) (.int .i64 ((rd_T54 x19_1 x21_1).f0))) (fun _ hk => hk.2) (.int .i64 ((rd_T54 x19_1 x21_1).f1))) (fun _ hk => ⟨hk.1.1, hk.1.2⟩)⟩
        have n2_ : Aside0 (((w35.setCell ⟨gb265, 0, none⟩ (.int .i64 ((rd_T54 x19_1 x21_1).f0))).setCell ⟨gb265, 1, none⟩ (.int .i64 ((rd_T54 x19_1 x21_1).f1))).heap[gb265]? = some (.cells #[.int .i64 ((rd_T54 x19_1 x21_1).f0), .int .i64 ((rd_T54 x19_1 x21_1).f1)] 54 (0, 0))) := ⟨by (with_reducible repeat (first | refine blk_drewN ?_ _ | refine blk_drew ?_ | refine blk_alloc ?_ _)); refine blk_put (cs := #[.int .i64 ((rd_T54 x19_1 x21_1).f0), .int .i64 0]) ?_ 1 _ rfl; (with_reducible repeat (first | refine blk_drewN ?_ _ | refine blk_drew ?_ | refine blk_alloc ?_ _)); refine blk_put (cs := #[.int .i64 0, .int .i64 0]) ?_ 0 _ rfl; (with_reducible repeat (first | refine blk_drewN ?_ _ | refine blk_drew ?_ | refine blk_alloc ?_ _)); exact BK265.out⟩
        have n3_ : Aside0 (Below w.heap.size w ((w35.setCell ⟨gb265, 0, none⟩ (.int .i64 ((rd_T54 x19_1 x21_1).f0))).setCell ⟨gb265, 1, none⟩ (.int .i64 ((rd_T54 x19_1 x21_1).f1)))) := ⟨q41_1⟩
        (try clear HO_6);(try clear HO_19);(try clear BK265);(try clear HB)
        generalize ((w35.setCell ⟨gb265, 0, none⟩ (.int .i64 ((rd_T54 x19_1 x21_1).f0))).setCell ⟨gb265, 1, none⟩ (.int .i64 ((rd_T54 x19_1 x21_1).f1))) = w38 at n0_ n1_ n2_ n3_ ⊢
        have HO_6 := n0_;have HO_19 := n1_;have BK265 := n2_;have HB := n3_;clear n0_ n1_ n2_ n3_;have n0_ := Aside0.mk (Kd.R_drew HO_6.out);have n1_ := Aside0.mk (Kd.R_drew HO_19.out);have n2_ := Aside0.mk (blk_drew BK265.out);have n3_ := Aside0.mk (below_drew1 HB.out);clear HO_6 HO_19 BK265 HB;have HO_6 := n0_;have HO_19 := n1_;have BK265 := n2_;have HB := n3_;clear n0_ n1_ n2_ n3_;refine start_ (n := 12) (S := fun w' => True) (ds := []) impl_bothPairs.D0 (by kernel_rfl) rfl rfl trivial (fun hHeld => ?_); refine with_tabW impl_bothPairs.tab8 impl_bothPairs.bits8 (fun HT_ HW_ => ?_)
        generalize w38.drew = w39 at HO_6 HO_19 BK265 HB hHeld ⊢
        refine pure_ (i := 0) (N := some 28) (v := ?_) (a' := ?_) impl_bothPairs.D1 rfl rfl (any_of HT_.out (by kernel_rfl)) (fun _ _ _ h => h) (Or.inl ⟨by rfl, ?_⟩) ?_ ?_;rotate_left
        ·
         intro w'
         go_simp
         with_reducible rfl
        rotate_left
        ·
         simp only [Act.put, List.setIfInBounds_toArray, List.set_cons_zero, List.set_cons_succ, i64_w, i32_w]
         rfl
        refine pure_ (i := 1) (N := some 29) (v := ?_) (a' := ?_) impl_bothPairs.D2 rfl rfl (any_of HT_.out (by kernel_rfl)) (fun _ _ _ h => h) (Or.inl ⟨by rfl, ?_⟩) ?_ ?_;rotate_left
        ·
         intro w'
         go_simp
         with_reducible rfl
        rotate_left
        ·
         simp only [Act.put, List.setIfInBounds_toArray, List.set_cons_zero, List.set_cons_succ, i64_w, i32_w]
         rfl
        refine pure_ (i := 2) (N := some 30) (v := ?_) (a' := ?_) impl_bothPairs.D3 rfl rfl (any_of HT_.out (by kernel_rfl)) (fun _ _ _ h => h) (Or.inl ⟨by rfl, ?_⟩) ?_ ?_;rotate_left
        ·
         intro w'
         go_simp
         with_reducible rfl
        rotate_left
        ·
         simp only [Act.put, List.setIfInBounds_toArray, List.set_cons_zero, List.set_cons_succ, i64_w, i32_w]
         rfl
        refine pure_ (i := 3) (N := some 31) (v := undef) (a' := ?_) impl_bothPairs.D4 rfl rfl (any_of HT_.out (by kernel_rfl)) (fun _ _ _ h => h) (Or.inr ⟨by rfl, rfl⟩) ?_ ?_;rotate_left
        ·
         simp only [Act.put, List.setIfInBounds_toArray, List.set_cons_zero, List.set_cons_succ, i64_w, i32_w]
         rfl
        refine pure_ (i := 4) (N := some 32) (v := undef) (a' := ?_) impl_bothPairs.D5 rfl rfl (any_of HT_.out (by kernel_rfl)) (fun _ _ _ h => h) (Or.inr ⟨by rfl, rfl⟩) ?_ ?_;rotate_left
        ·
         simp only [Act.put, List.setIfInBounds_toArray, List.set_cons_zero, List.set_cons_succ, i64_w, i32_w]
         rfl
        refine pure_ (i := 5) (N := some 33) (v := undef) (a' := ?_) impl_bothPairs.D6 rfl rfl (any_of HT_.out (by kernel_rfl)) (fun _ _ _ h => h) (Or.inr ⟨by rfl, rfl⟩) ?_ ?_;rotate_left
        ·
         simp only [Act.put, List.setIfInBounds_toArray, List.set_cons_zero, List.set_cons_succ, i64_w, i32_w]
         rfl
        refine pure_ (i := 6) (N := some 34) (v := undef) (a' := ?_) impl_bothPairs.D7 rfl rfl (any_of HT_.out (by kernel_rfl)) (fun _ _ _ h => h) (Or.inr ⟨by rfl, rfl⟩) ?_ ?_;rotate_left
        ·
         simp only [Act.put, List.setIfInBounds_toArray, List.set_cons_zero, List.set_cons_succ, i64_w, i32_w]
         rfl
        refine pure_ (i := 7) (N := some 35) (v := undef) (a' := ?_) impl_bothPairs.D25 rfl rfl (any_of HT_.out (by kernel_rfl)) (fun _ _ _ h => h) (Or.inr ⟨by rfl, rfl⟩) ?_ ?_;rotate_left
        ·
         simp only [Act.put, List.setIfInBounds_toArray, List.set_cons_zero, List.set_cons_succ, i64_w, i32_w]
         rfl
        refine pure_ (i := 8) (N := some 36) (v := undef) (a' := ?_) impl_bothPairs.D9 rfl rfl (any_of HT_.out (by kernel_rfl)) (fun _ _ _ h => h) (Or.inr ⟨by rfl, rfl⟩) ?_ ?_;rotate_left
        ·
         simp only [Act.put, List.setIfInBounds_toArray, List.set_cons_zero, List.set_cons_succ, i64_w, i32_w]
         rfl
        refine pure_ (i := 9) (N := some 37) (v := undef) (a' := ?_) impl_bothPairs.D10 rfl rfl (any_of HT_.out (by kernel_rfl)) (fun _ _ _ h => h) (Or.inr ⟨by rfl, rfl⟩) ?_ ?_;rotate_left
        ·
         simp only [Act.put, List.setIfInBounds_toArray, List.set_cons_zero, List.set_cons_succ, i64_w, i32_w]
         rfl
        refine pure_ (i := 10) (N := some 38) (v := undef) (a' := ?_) impl_bothPairs.D11 rfl rfl (any_of HT_.out (by kernel_rfl)) (fun _ _ _ h => h) (Or.inr ⟨by rfl, rfl⟩) ?_ ?_;rotate_left
        ·
         simp only [Act.put, List.setIfInBounds_toArray, List.set_cons_zero, List.set_cons_succ, i64_w, i32_w]
         rfl
        refine pure_ (i := 11) (N := some 39) (v := ?_) (a' := ?_) impl_bothPairs.D12 rfl rfl (any_of HT_.out (by kernel_rfl)) (fun _ _ _ h => h) (Or.inl ⟨by rfl, ?_⟩) ?_ ?_;rotate_left
        ·
         intro w'
         go_simp
         with_reducible rfl
        rotate_left
        ·
         simp only [Act.put, List.setIfInBounds_toArray, List.set_cons_zero, List.set_cons_succ, i64_w, i32_w]
         rfl
        refine done_ (done_of HT_.out (by kernel_rfl)) ?_
        have hcz40_0 : w39.cell? ⟨gb265, 0, none⟩ = some (.int .i64 ((rd_T54 x19_1 x21_1).f0)) := (blk_cell BK265.out 0).trans rfl
        have hcz40_1 : w39.cell? ⟨gb265, 1, none⟩ = some (.int .i64 ((rd_T54 x19_1 x21_1).f1)) := (blk_cell BK265.out 1).trans rfl
        have hfz40_0 := blk_frozen BK265.out 0;have hfz40_1 := blk_frozen BK265.out 1
        try go_wp2_with (first | ((with_reducible refine gate_builtin (b := .append) (xs := #[.tmp 50, .tmp 52]) rfl ?_); at_builtin; refine Kd.R_append k54 (w0 := w) w.heap.size rfl (.tmp 50) (.tmp 52) 23 54 (.agg #[(.int .i64 0), (.int .i64 0)]) 16 rfl Try.underlying23 info54 rfl (by decide) (by omega) (.slice Ao37 x6_1.length co37) x6_1 (⟨(rd_T54 x19_1 x21_1).f0, (rd_T54 x19_1 x21_1).f1⟩ : S54) [.int .i64 ((rd_T54 x19_1 x21_1).f0), .int .i64 ((rd_T54 x19_1 x21_1).f1)] (fun k_ => some k_ ≠ (.slice (some ad264) x19_1.length co6 : Value).ownBlock ∧ k_ ≠ gb265) (fun _ => False) rfl rfl ?aP (fun _ hk => hk.elim) ?aF ?aO ?aB ?aS ?aL ?_; (case aP => exact k54_mkM _ _ _ (⟨(rd_T54 x19_1 x21_1).f0, (rd_T54 x19_1 x21_1).f1⟩ : S54)); (case aB => exact q41_1); (case aF => exact (fun k_ hk => ⟨Kd.fresh' (Kd.R_lt q41_3) k_ hk, Kd.freshB (g := gb265) (o := .cells #[.int .i64 ((rd_T54 x19_1 x21_1).f0), .int .i64 ((rd_T54 x19_1 x21_1).f1)] 54 (0, 0)) q41_5 k_ hk⟩)); (case aO => exact q41_4); (case aS => exact (below_size q41_1)); (case aL => have := LMc34.out; omega); intro v273 w41 ho hb hg hat; rw [← Ny272.out] at ho; have n0_ := Aside0.mk (Kd.R_after (ok := (fun k_ => k_ ≠ gb265)) q41_6 hg hat); have n1_ := Aside0.mk (blk_grown (g := gb265) (o := .cells #[.int .i64 ((rd_T54 x19_1 x21_1).f0), .int .i64 ((rd_T54 x19_1 x21_1).f1)] 54 (0, 0)) q41_5 hg (Kd.R_away HO_6.out (fun _ hk => hk.2))); have n2_ := Aside0.mk (hb); have n3_ := Aside0.mk (ho); clear HO_19; clear BK265; clear HB; clear HO_6; have HO_19 := n0_; have BK265 := n1_; have HB := n2_; have HO274 := n3_; clear n0_ n1_ n2_ n3_; clear ho hb hg hat))
        (try simp only [← hl19_1])
        go_roundg k1
        case measure => have := HK1.out; omega
        case rel => exact ⟨(y272), (x19_1), (wrap64 (x21_1 + 1)), q41_9, H', ⟨by have := HK1.out; omega⟩, ⟨by (try simp only [hl19_1]); (with_reducible repeat (first | apply Kd.R_alloc | apply Kd.R_drewN | apply Kd.R_drew)); exact Kd.R_mono HO274.out (fun _ hk => hk.1)⟩, ⟨by (try simp only [hl19_1]); (with_reducible repeat (first | apply Kd.R_alloc | apply Kd.R_drewN | apply Kd.R_drew)); exact Kd.R_mono HO_19.out (fun _ hk => hk.2)⟩, ⟨q41_1⟩⟩
       ·
        rw [if_neg c34] at H
        exact absurd H (by simp)
     ·
      rw [if_neg c12] at H
      exact absurd H (by simp)
    ·
     rw [if_neg c11] at H
     exact absurd H (by simp)
   ·
    rw [if_neg c10] at H
    have c10b0 : decide (x21_1 < (t257.length : Int)) = false := decide_eq_false c10
    (try (have c10b1 := c10b0; rw [hl19_1] at c10b1))
    clear c10
    obtain rfl := Option.some.inj H
    go_wp2
    go_ret
    exact ⟨_, by first | rfl | (simp [errW_none, errW_some] <;> rfl) | (simp [*, errW_none, errW_some] <;> rfl), by (with_reducible repeat (first | apply Kd.R_alloc | apply Kd.R_drewN | apply Kd.R_drew)); exact Kd.R_mono HO_6.out (fun _ hk => trivial), q41_0⟩

end Go.Proofs.Ytlobnnakikgcnaa.PA
