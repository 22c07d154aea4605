-- Made by a program of this session (wip/tools/pr2.sh) out of the translation, by way of the printer: shared by the seat's laws.
import Derived.Test.YtlobnnakikgcnaaPAx0
import Derived.Test.YtlobnnakikgcnaaPAx2
import Derived.Test.YtlobnnakikgcnaaPAx10
import Derived.Test.YtlobnnakikgcnaaPAx11
import Derived.Test.YtlobnnakikgcnaaPAx13
namespace Go.Proofs.Ytlobnnakikgcnaa.PA
open Go.RowKit Go.Proofs.YtlobnnakikgcnaaW.PrintWords Go.Proofs.YtlobnnakikgcnaaW.PrintLast Go.Proofs.YtlobnnakikgcnaaW.PrintMore
attribute [local go_sem] max2_int min2_int max_two min_two max_three min_three max_four min_four   -- for this text's walks alone
set_option linter.unusedVariables false
set_option linter.unusedSimpArgs false

/-! ### spec_l71Top: function 22 -/
def spec_l71Top.l0 : Nat → List Int → Int → List Int → Int → List (S54) → Int → Int → Option ((List (S54)) × Int × Int × Int)
  | 0, _, _, _, _, _, _, _ => none
  | k + 1, x4, x5, x1000, x1001, x201000, x201001, x201002 => if x5 < (x4.length : Int) then (if 0 ≤ x5 then ((spec_TopAdd.f k x201000 x201001 x201002 (rd x4 x5)).bind fun bt206 => (spec_l71Top.l0 k x4 (wrap64 (x5 + 1)) x1000 x1001 bt206.1 bt206.2.1 bt206.2.2.1)) else (none)) else ((spec_l6Rd_pick.f k x1000 x1001 24).bind fun bt212 => (if bt212.1 = 0 then (some (x201000, wrap64 (x201001 + 1), x201002, bt212.2)) else (if bt212.1 = 1 then ((some (([(-1), 2001, 2000] : List Int) : List Int)).bind fun y214 => ((spec_l6Rd_pick.f k x1000 bt212.2 3).bind fun bt217 => (if 0 ≤ bt217.1 then (if bt217.1 < (y214.length : Int) then (some (x201000, x201001, rd y214 bt217.1, bt217.2)) else (none)) else (none)))) else (if bt212.1 = 2 then ((spec_l6Rd_pick.f k x1000 bt212.2 2).bind fun bt220 => (if x201000.length < 8796093022208 then (some ((x201000 ++ [(⟨63, bt220.1⟩ : S54)]), x201001, x201002, bt220.2)) else (none))) else (some (x201000, x201001, x201002, bt212.2))))))
def spec_l71Top.f (k : Nat) (s0_0 : List Int) (s0_1 : Int) : Option ((List (S54)) × Int × Int × Int) := (spec_l71Things.f k s0_0 s0_1 24).bind fun bt201 => (spec_l71Top.l0 k bt201.1 0 s0_0 bt201.2 ([] : List (S54)) 0 0)
theorem spec_l71Top.mono_l : ∀ k, (∀ y0 y1 y2 y3 y4 y5 y6, LeO (spec_l71Top.l0 k y0 y1 y2 y3 y4 y5 y6) (spec_l71Top.l0 (k + 1) y0 y1 y2 y3 y4 y5 y6))
  | 0 => fun _ _ _ _ _ _ _ r h => by simp [spec_l71Top.l0] at h
  | k + 1 => by
    have ih0 := spec_l71Top.mono_l k
    · intro y0 y1 y2 y3 y4 y5 y6
      unfold spec_l71Top.l0
      repeat' first
      | (with_reducible exact ih0 _ _ _ _ _ _ _)
      | (with_reducible exact spec_TopAdd.mono _ _ _ _ _)
      | (with_reducible exact spec_l6Rd_pick.mono _ _ _ _)
      | (with_reducible exact spec_l71Things.mono _ _ _ _)
      | (with_reducible exact LeO.refl _)
      | (with_reducible exact LeO.none _)
      | (with_reducible refine LeO.ite ?_ ?_)
      | (with_reducible refine LeO.bind ?_ (fun _ => ?_))
      | exact ih0 _ _ _ _ _ _ _
      | exact spec_TopAdd.mono _ _ _ _ _
      | exact spec_l6Rd_pick.mono _ _ _ _
      | exact spec_l71Things.mono _ _ _ _
      | exact LeO.none _
      | refine LeO.ite ?_ ?_
      | refine LeO.bind ?_ (fun _ => ?_)
theorem spec_l71Top.mono : ∀ a0 a1 k, LeO (spec_l71Top.f k a0 a1) (spec_l71Top.f (k + 1) a0 a1) := by
  intro a0 a1 k
  have ih0 := spec_l71Top.mono_l k
  unfold spec_l71Top.f
  repeat' first
      | (with_reducible exact ih0 _ _ _ _ _ _ _)
      | (with_reducible exact spec_TopAdd.mono _ _ _ _ _)
      | (with_reducible exact spec_l6Rd_pick.mono _ _ _ _)
      | (with_reducible exact spec_l71Things.mono _ _ _ _)
      | (with_reducible exact LeO.refl _)
      | (with_reducible exact LeO.none _)
      | (with_reducible refine LeO.ite ?_ ?_)
      | (with_reducible refine LeO.bind ?_ (fun _ => ?_))
      | exact ih0 _ _ _ _ _ _ _
      | exact spec_TopAdd.mono _ _ _ _ _
      | exact spec_l6Rd_pick.mono _ _ _ _
      | exact spec_l71Things.mono _ _ _ _
      | exact LeO.none _
      | refine LeO.ite ?_ ?_
      | refine LeO.bind ?_ (fun _ => ?_)
def spec_l71Top.T6 : Bool × List (List Nat × List Nat) := (true, [([], []), ([], []), ([], []), ([1, 2], [1, 2]), ([3], [3]), ([0, 4], [0, 4]), ([5], [5]), ([6], [6]), ([6], [6]), ([7, 5, 0, 1, 2, 3, 4, 5, 6, 7], [7])])
def spec_l71Top.B6 : List Nat := [0, 0, 0, 6, 14, 31, 63, 127, 127, 255]
theorem spec_l71Top.tab6 : rtab .any (opsOf Try.f22 6) = spec_l71Top.T6 := by kernel_rfl
theorem spec_l71Top.bits6 : waitsOk spec_l71Top.T6.2 spec_l71Top.B6 = true := by kernel_rfl
def spec_l71Top.T13 : Bool × List (List Nat × List Nat) := (true, [([], []), ([0], [0]), ([], []), ([2], [2]), ([3], [3]), ([4], [4]), ([1, 5, 3], [1, 5]), ([0, 1, 2, 3, 4, 5, 6], []), ([7, 6, 6, 0, 1, 2, 3, 4, 5, 6], [6, 7])])
def spec_l71Top.B13 : List Nat := [0, 1, 0, 4, 12, 28, 63, 127, 255]
theorem spec_l71Top.tab13 : rtab .any (opsOf Try.f22 13) = spec_l71Top.T13 := by kernel_rfl
theorem spec_l71Top.bits13 : waitsOk spec_l71Top.T13.2 spec_l71Top.B13 = true := by kernel_rfl
variable {p : Prop}
theorem q22_0 (h : p := by repeat (first | (with_reducible first | exact HI0.out | apply IsS62.alloc | apply IsS62.drewN | apply IsS62.drew | apply IsS62.set_1 | refine IsS62.far ?_ NB0_199.out _ | refine IsS62.far ?_ NB0_200.out _) | exact HI0.out)) : p := h
theorem q22_1 (h : p := by repeat (first | (with_reducible first | exact HK.out | apply KeepBut.set_ | apply keep_drewN | apply keep_drew | apply keep_alloc | refine keep_far ?_ GW199.out _ | refine keep_far ?_ GW200.out _) | exact HK.out)) : p := h
theorem q22_2 (h : p := by repeat (first | (with_reducible first | exact HB.out | apply below_alloc | apply pw_below_drewN | apply below_drew1 | refine below_set ?_ (IsS62.ge HI0.out) | refine below_set ?_ GE199.out | refine below_set ?_ GE200.out) | exact HB.out)) : p := h
theorem q22_3 (h : p := by (with_reducible repeat (first | refine blk_drewN ?_ _ | refine blk_drew ?_ | refine blk_alloc ?_ _)); exact BK199.out) : p := h
theorem q22_4 (h : p := by (with_reducible repeat (first | apply Kd.R_alloc | apply Kd.R_drewN | apply Kd.R_drew)); exact HO_201000.out) : p := h
theorem q22_5 (h : p := by (try simp only [List.map_toArray, List.map_cons, List.map_nil]); first | done | rfl | (simp only [List.length_drop, List.length_take]; rfl)) : p := h
theorem q22_6 (h : p := by (with_reducible repeat (first | refine blk_drewN ?_ _ | refine blk_drew ?_ | refine blk_alloc ?_ _)); exact BK200.out) : p := h
theorem q22_7 (h : p := by (with_reducible repeat (first | apply Kd.R_alloc | apply Kd.R_drewN | apply Kd.R_drew)); exact HO_4.out) : p := h
theorem q22_8 (h : p := by repeat (first | (with_reducible first | exact HI0.out | apply IsS62.alloc | apply IsS62.drewN | apply IsS62.drew | apply IsS62.set_1 | refine IsS62.far ?_ NB0_199.out _) | exact HI0.out)) : p := h
theorem q22_9 (h : p := by repeat (first | (with_reducible first | exact HK.out | apply KeepBut.set_ | apply keep_drewN | apply keep_drew | apply keep_alloc | refine keep_far ?_ GW199.out _) | exact HK.out)) : p := h
theorem q22_10 (h : p := by repeat (first | (with_reducible first | exact HI0.out | apply IsS62.alloc | apply IsS62.drewN | apply IsS62.drew | apply IsS62.set_1) | exact HI0.out)) : p := h
theorem q22_11 (h : p := by repeat (first | (with_reducible first | exact HK.out | apply KeepBut.set_ | apply keep_drewN | apply keep_drew | apply keep_alloc) | exact HK.out)) : p := h
theorem q22_12 (h : p := by first | rfl | (simp [errW_none, errW_some] <;> rfl) | (simp [*, errW_none, errW_some] <;> rfl)) : p := h
theorem q22_13 (h : p := by first | (with_reducible assumption) | assumption) : p := h
abbrev spec_l71Top.D0 : Array Bool := #[false, false, false, false, false, false, false, false, false, false]
abbrev spec_l71Top.D1 : Array Bool := #[false, true, false, false, false, false, false, false, false, false]
abbrev spec_l71Top.D2 : Array Bool := #[false, true, true, false, false, false, false, false, false, false]
abbrev spec_l71Top.D3 : Array Bool := #[false, true, true, true, false, false, false, false, false, false]
abbrev spec_l71Top.D4 : Array Bool := #[true, true, true, true, false, false, false, false, false, false]
abbrev spec_l71Top.D5 : Array Bool := #[true, true, true, true, true, false, false, false, false, false]
abbrev spec_l71Top.D6 : Array Bool := #[true, true, true, true, true, true, false, false, false, false]
abbrev spec_l71Top.D7 : Array Bool := #[true, true, true, true, true, true, true, false, false, false]
abbrev spec_l71Top.D8 : Array Bool := #[true, true, true, true, true, true, true, true, false, false]
abbrev spec_l71Top.D9 : Array Bool := #[true, true, true, true, true, true, true, true, true, false]
abbrev spec_l71Top.D10 : Array Bool := #[true, true, true, true, true, true, true, true, true, true]
set_option maxHeartbeats 8000000 in
set_option maxRecDepth 100000 in
theorem spec_l71Top.calls (k : Nat) (g : Nat) (s0_0 : List Int) (s0_1 : Int) (r1 : List (S54)) (r2 : Int) (r3 : Int) (r4 : Int) (w0 w : World) (hI : IsS62 w0 w g s0_0 s0_1) (hB : Below w0.heap.size w0 w) (h : spec_l71Top.f k s0_0 s0_1 = some (r1, r2, r3, r4)) :
    Calls Try.prog 22 #[.pointer (some ⟨g, 0, none⟩)] w fun e w' => ∃ v0_ : Value, e = .returned (.agg #[v0_, .int .i64 r2, .int .i64 r3]) ∧ Kd.R k54 54 w' w.heap.size (fun _ => True) v0_ r1 ∧ IsS62 w0 w' g s0_0 r4 ∧ Below w0.heap.size w0 w' ∧ KeepBut w w' g none := by
 have hu25 := Try.underlying25;have hu54 := Try.underlying54;have HI0 := Aside0.mk hI;have HK := Aside0.mk (KeepBut.refl w g none);have HL := Aside0.mk hB.size;clear hI;have HW0 := Aside0.mk hB.size;have HB := Aside0.mk hB;clear hB
 have H : ((spec_l71Things.f k s0_0 s0_1 24).bind fun bt201 => (spec_l71Top.l0 k bt201.1 0 s0_0 bt201.2 ([] : List (S54)) 0 0)) = some (r1, r2, r3, r4) := h
 clear h
 replace H := Option.bind_eq_some_iff.mp H
 obtain ⟨⟨t201, t204⟩, A20, H⟩ := H
 replace H : (spec_l71Top.l0 k t201 0 s0_0 t204 ([] : List (S54)) 0 0) = some (r1, r2, r3, r4) := H
 have A2 := Aside0.mk A20;clear A20
 have H' := Aside0.mk H
 clear H
 go_enter Try.func22, Try.ntmps22
 go_wp2_with (first | ((with_reducible refine gate_dst (N := 2) rfl ?_); refine box_event ?hg (N := 2) ?hd (cs := #[.slice none 0 0, .int .i64 0, .int .i64 0]) (t := 25) ?hr ?_; (case hd => rfl); (case hg => rfl); (case hr => first | (go_simp; done) | (go_simp; rfl)); intro gb199 hg w3 hbox hb; have n0_ := Aside0.mk (IsS62.below q22_10 hb); have n1_ := Aside0.mk (KeepBut.trans q22_11 (KeepBut.of_below hb g none) (.inl rfl)); have n2_ := Aside0.mk (below_step (by repeat (first | (with_reducible first | exact HB.out | apply below_alloc | apply pw_below_drewN | apply below_drew1 | refine below_set ?_ (IsS62.ge HI0.out)) | exact HB.out)) hb); have n3_ := Aside0.mk (hbox); have n4_ := Aside0.mk ((by rw [hg]; exact (keep_size (w := w) (g := g) (row := none) q22_11) : w.heap.size ≤ gb199)); have n5_ := Aside0.mk ((Nat.le_trans HW0.out (by rw [hg]; exact (keep_size (w := w) (g := g) (row := none) q22_11) : w.heap.size ≤ gb199) : w0.heap.size ≤ gb199)); have n6_ := Aside0.mk ((by rw [hg]; exact Nat.ne_of_lt (IsS62.lt (show IsS62 w0 _ g s0_0 s0_1 from q22_10)) : g ≠ gb199)); have n7_ := Aside0.mk ((by rw [hg]; exact Nat.ne_of_gt (IsS62.lt (show IsS62 w0 _ g s0_0 s0_1 from q22_10)) : gb199 ≠ g)); clear HI0; clear HK; clear HB; have HI0 := n0_; have HK := n1_; have HB := n2_; have BK199 := n3_; have GW199 := n4_; have GE199 := n5_; have NB0_199 := n6_; have NB199_0 := n7_; clear n0_ n1_ n2_ n3_ n4_ n5_ n6_ n7_; clear hb hbox hg) | ((with_reducible refine gate_dst (N := 3) rfl ?_); refine box_event ?hg (N := 3) ?hd (cs := #[.slice none 0 0, .int .i64 0, .int .i64 0]) (t := 25) ?hr ?_; (case hd => rfl); (case hg => rfl); (case hr => first | (go_simp; done) | (go_simp; rfl)); intro gb200 hg w4 hbox hb; have n0_ := Aside0.mk (IsS62.below q22_8 hb); have n1_ := Aside0.mk (blk_below (g := gb199) (o := .cells #[.slice none 0 0, .int .i64 0, .int .i64 0] 25 (0, 0)) q22_3 hb); have n2_ := Aside0.mk (KeepBut.trans q22_9 (KeepBut.of_below hb g none) (.inl rfl)); have n3_ := Aside0.mk (below_step (by repeat (first | (with_reducible first | exact HB.out | apply below_alloc | apply pw_below_drewN | apply below_drew1 | refine below_set ?_ (IsS62.ge HI0.out) | refine below_set ?_ GE199.out) | exact HB.out)) hb); have n4_ := Aside0.mk (hbox); have n5_ := Aside0.mk ((by rw [hg]; exact (keep_size (w := w) (g := g) (row := none) q22_9) : w.heap.size ≤ gb200)); have n6_ := Aside0.mk ((Nat.le_trans HW0.out (by rw [hg]; exact (keep_size (w := w) (g := g) (row := none) q22_9) : w.heap.size ≤ gb200) : w0.heap.size ≤ gb200)); have n7_ := Aside0.mk ((by rw [hg]; exact Nat.ne_of_lt (blk_lt (g := gb199) (o := .cells #[.slice none 0 0, .int .i64 0, .int .i64 0] 25 (0, 0)) q22_3) : gb199 ≠ gb200)); have n8_ := Aside0.mk ((by rw [hg]; exact Nat.ne_of_gt (blk_lt (g := gb199) (o := .cells #[.slice none 0 0, .int .i64 0, .int .i64 0] 25 (0, 0)) q22_3) : gb200 ≠ gb199)); have n9_ := Aside0.mk ((by rw [hg]; exact Nat.ne_of_lt (IsS62.lt (show IsS62 w0 _ g s0_0 s0_1 from q22_8)) : g ≠ gb200)); have n10_ := Aside0.mk ((by rw [hg]; exact Nat.ne_of_gt (IsS62.lt (show IsS62 w0 _ g s0_0 s0_1 from q22_8)) : gb200 ≠ g)); clear HI0; clear BK199; clear HK; clear HB; have HI0 := n0_; have BK199 := n1_; have HK := n2_; have HB := n3_; have BK200 := n4_; have GW200 := n5_; have GE200 := n6_; have NB199_200 := n7_; have NB200_199 := n8_; have NB0_200 := n9_; have NB200_0 := n10_; clear n0_ n1_ n2_ n3_ n4_ n5_ n6_ n7_ n8_ n9_ n10_; clear hb hbox hg; have hnb5 := NB200_199.out; have hnc5 := NB199_200.out; have hnb6 := NB200_0.out; have hnc6 := NB0_200.out; have hcz7_0 : w4.cell? ⟨gb200, 0, none⟩ = some (.slice none 0 0) := (blk_cell BK200.out 0).trans rfl; have hcz7_1 : w4.cell? ⟨gb200, 1, none⟩ = some (.int .i64 0) := (blk_cell BK200.out 1).trans rfl; have hcz7_2 : w4.cell? ⟨gb200, 2, none⟩ = some (.int .i64 0) := (blk_cell BK200.out 2).trans rfl; have hfz7_0 := blk_frozen BK200.out 0; have hfz7_1 := blk_frozen BK200.out 1; have hfz7_2 := blk_frozen BK200.out 2) | ((with_reducible refine gate_callee (f := 35) rfl ?_); refine goesL_ (some 8) rfl rfl Try.func35 (by kernel_rfl) rfl #[.pointer (some ⟨g, 0, none⟩), .int .i64 24] rfl q22_5 ?_; (with_reducible refine (spec_l71Things.calls k g s0_0 s0_1 24 t201 t204 w0 _ ?side1 ?side2 A2.out).mono ?_); (case side1 => exact q22_0); (case side2 => exact q22_2); rintro e w8 ⟨v202, rfl, ho0, hi, hb, hk⟩; refine ⟨_, rfl, ?_⟩; have n0_ := Aside0.mk (KeepBut.blk hk (g' := gb199) (o := .cells #[.slice none 0 0, .int .i64 0, .int .i64 0] 25 (0, 0)) (by (with_reducible repeat (first | refine blk_drewN ?_ _ | refine blk_drew ?_ | refine blk_alloc ?_ _)); refine blk_far ?_ NB199_200.out _; (with_reducible repeat (first | refine blk_drewN ?_ _ | refine blk_drew ?_ | refine blk_alloc ?_ _)); refine blk_far ?_ NB199_200.out _; (with_reducible repeat (first | refine blk_drewN ?_ _ | refine blk_drew ?_ | refine blk_alloc ?_ _)); refine blk_far ?_ NB199_200.out _; (with_reducible repeat (first | refine blk_drewN ?_ _ | refine blk_drew ?_ | refine blk_alloc ?_ _)); exact BK199.out) NB199_0.out (by simp)); have n1_ := Aside0.mk (KeepBut.blk hk (g' := gb200) (o := .cells #[.slice none 0 0, .int .i64 0, .int .i64 0] 25 (0, 0)) (by (with_reducible repeat (first | refine blk_drewN ?_ _ | refine blk_drew ?_ | refine blk_alloc ?_ _)); refine blk_put (cs := #[.slice none 0 0, .int .i64 0, .int .i64 0]) ?_ 2 _ rfl; (with_reducible repeat (first | refine blk_drewN ?_ _ | refine blk_drew ?_ | refine blk_alloc ?_ _)); refine blk_put (cs := #[.slice none 0 0, .int .i64 0, .int .i64 0]) ?_ 1 _ rfl; (with_reducible repeat (first | refine blk_drewN ?_ _ | refine blk_drew ?_ | refine blk_alloc ?_ _)); refine blk_put (cs := #[.slice none 0 0, .int .i64 0, .int .i64 0]) ?_ 0 _ rfl; (with_reducible repeat (first | refine blk_drewN ?_ _ | refine blk_drew ?_ | refine blk_alloc ?_ _)); exact BK200.out) NB200_0.out (by simp)); have n2_ := Aside0.mk (Kd.R_lower ho0 (keep_size (w := w) (g := g) (row := none) q22_1)); have n3_ := Aside0.mk (KeepBut.trans q22_1 hk (.inl rfl)); have n4_ := Aside0.mk (hb); have n5_ := Aside0.mk (hi); clear BK199; clear BK200; clear HK; clear HB; clear HI0; have BK199 := n0_; have BK200 := n1_; have HO203 := n2_; have HK := n3_; have HB := n4_; have HI0 := n5_; clear n0_ n1_ n2_ n3_ n4_ n5_; (try clear hb); (try clear hb2); (try clear hk); (try clear hi); (try clear ho0)))
 go_loopg [5] k (fun kq v5 w' => ∃ (x5_1 : Int) (x201000_1 : List (S54)) (x201001_1 : Int) (x201002_1 : Int) (u201000 : Value), v5 = .int .i64 x5_1 ∧ Aside0 (spec_l71Top.l0 kq t201 x5_1 s0_0 t204 x201000_1 x201001_1 x201002_1 = some (r1, r2, r3, r4)) ∧ Aside0 (kq ≤ k) ∧ Aside0 (Kd.R (Kd.int .i64) 3 w' w.heap.size (fun _ => True) v202 t201) ∧ Aside0 (Kd.R k54 54 w' w.heap.size (fun _ => True) u201000 x201000_1) ∧ Aside0 (w'.heap[gb199]? = some (.cells #[(.slice none 0 0), .int .i64 0, .int .i64 0] 25 (0, 0))) ∧ Aside0 (w'.heap[gb200]? = some (.cells #[u201000, .int .i64 x201001_1, .int .i64 x201002_1] 25 (0, 0))) ∧ Aside0 (IsS62 w0 w' g s0_0 t204) ∧ Aside0 (KeepBut w w' g none) ∧ Aside0 (Below w0.heap.size w0 w'))
 case atStart => exact ⟨(0), (([] : List (S54))), (0), (0), (.slice none 0 0), (by first | rfl | (simp; done) | (simp [*]; done)), H', ⟨Nat.le_refl _⟩, ⟨by (with_reducible repeat (first | apply Kd.R_alloc | apply Kd.R_drewN | apply Kd.R_drew)); exact HO203.out⟩, ⟨by first | exact Kd.R_nil _ _ _ _ _ | exact Kd.N_nil _ _ _ _ _ | exact Kd.V_nil _ _ _ _ _ | exact Kd.Q_nil _ _ _ _ _ | exact Kd.S_nil _ _ _ _ _⟩, ⟨by (with_reducible repeat (first | refine blk_drewN ?_ _ | refine blk_drew ?_ | refine blk_alloc ?_ _)); exact BK199.out⟩, ⟨by (with_reducible repeat (first | refine blk_drewN ?_ _ | refine blk_drew ?_ | refine blk_alloc ?_ _)); exact BK200.out⟩, ⟨q22_0⟩, ⟨q22_1⟩, ⟨q22_2⟩⟩
 case round =>
  clear H'
  try clear c2
  try clear p2
  try clear c3
  try clear c5
  try clear c6
  try clear hcz7_0
  try clear hcz7_1
  try clear hcz7_2
  try clear hfz7_0
  try clear hfz7_1
  try clear hfz7_2
  obtain ⟨x5_1, x201000_1, x201001_1, x201002_1, u201000, rfl, HA, HK1, HO_4, HO_201000, BK199, BK200, HI0, HK, HB⟩ := hrel
  cases gk with
  | zero => exact absurd HA.out (by simp [spec_l71Top.l0])
  | succ k1 =>
   have H := HA.out;clear HA
   simp only [spec_l71Top.l0] at H
   by_cases c9 : x5_1 < (t201.length : Int)
   ·
    rw [if_pos c9] at H
    have c9b0 : decide (x5_1 < (t201.length : Int)) = true := decide_eq_true c9
    clear c9
    by_cases c10 : 0 ≤ x5_1
    ·
     rw [if_pos c10] at H
     have c10b0 : decide (0 ≤ x5_1) = true := decide_eq_true c10
     clear c10
     replace H := Option.bind_eq_some_iff.mp H
     obtain ⟨⟨t206, t209, t210, t211⟩, A110, H⟩ := H
     replace H : (spec_l71Top.l0 k1 t201 (wrap64 (x5_1 + 1)) s0_0 t204 t206 t209 t210) = some (r1, r2, r3, r4) := H
     have A11 := Aside0.mk A110;clear A110
     have H' := Aside0.mk H
     clear H;obtain ⟨Ao12, co12, eo12⟩ := Kd.R_slice HO_4.out;subst eo12
     try go_wp2
     have n0_ := Aside0.mk (Kd.R_drew HO_4.out);have n1_ := Aside0.mk (Kd.R_drew HO_201000.out);have n2_ := Aside0.mk (blk_drew BK199.out);have n3_ := Aside0.mk (blk_drew BK200.out);have n4_ := Aside0.mk (IsS62.drew HI0.out);have n5_ := Aside0.mk (keep_drew HK.out);have n6_ := Aside0.mk (below_drew1 HB.out);clear HO_4 HO_201000 BK199 BK200 HI0 HK HB;have HO_4 := n0_;have HO_201000 := n1_;have BK199 := n2_;have BK200 := n3_;have HI0 := n4_;have HK := n5_;have HB := n6_;clear n0_ n1_ n2_ n3_ n4_ n5_ n6_
     have p205 : 0 ≤ (x5_1 : Int) := of_decide_eq_true q22_13
     have q205 : x5_1 < (t201.length : Int) := of_decide_eq_true q22_13
     obtain ⟨ad205, e205, hx205_0⟩ := Kd.at_int (Kd.R_reads' HO_4.out).2.2 x5_1 p205 q205
     cases e205
     replace p205 := eq_true p205
     replace q205 := eq_true q205
     obtain ⟨Ao14, co14, eo14⟩ := Kd.R_slice HO_201000.out;(first | subst eo14 | (injection eo14 with f1_ f2_ f3_; have f4_ := f1_.symm; have f5_ := f3_.symm; clear f1_ f2_ f3_; subst f4_; subst f5_));refine start_ (n := 10) (S := fun w' => w'.cell? ⟨gb200, 0, none⟩ = some (.slice Ao14 x201000_1.length co14) ∧ w'.cell? ⟨gb200, 1, none⟩ = some (.int .i64 x201001_1) ∧ w'.cell? ⟨gb200, 2, none⟩ = some (.int .i64 x201002_1) ∧ w'.cell? (ad205.add (x5_1).toNat) = some (.int .i64 (rd t201 x5_1))) (ds := [9]) spec_l71Top.D0 (by kernel_rfl) rfl rfl ⟨(blk_cell BK200.out 0).trans rfl, (blk_cell BK200.out 1).trans rfl, (blk_cell BK200.out 2).trans rfl, hx205_0⟩ (fun hHeld => ?_); refine with_tabW spec_l71Top.tab6 spec_l71Top.bits6 (fun HT_ HW_ => ?_)
     generalize wr.drew = w13 at HO_4 HO_201000 BK199 BK200 HI0 HK HB hx205_0 hHeld ⊢
     refine pure_ (i := 1) (N := some 17) (v := ?_) (a' := ?_) spec_l71Top.D1 rfl rfl (any_of HT_.out (by kernel_rfl)) (fun _ _ _ h => h) (Or.inl ⟨by rfl, ?_⟩) ?_ ?_;rotate_left
     ·
      intro w'
      go_simp
      with_reducible rfl
     rotate_left
     ·
      simp only [Act.put, List.setIfInBounds_toArray, List.set_cons_zero, List.set_cons_succ, i64_w, i32_w]
      rfl
     refine pure_ (i := 2) (N := some 18) (v := ?_) (a' := ?_) spec_l71Top.D2 rfl rfl (any_of HT_.out (by kernel_rfl)) (fun _ _ _ h => h) (Or.inl ⟨by rfl, ?_⟩) ?_ ?_;rotate_left
     ·
      intro w'
      go_simp
      with_reducible rfl
     rotate_left
     ·
      simp only [Act.put, List.setIfInBounds_toArray, List.set_cons_zero, List.set_cons_succ, i64_w, i32_w]
      rfl
     refine pure_ (i := 3) (N := some 19) (v := ?_) (a' := ?_) spec_l71Top.D3 rfl rfl (any_of HT_.out (by kernel_rfl)) (fun _ _ _ h => h) (Or.inl ⟨by rfl, ?_⟩) ?_ ?_;rotate_left
     ·
      intro w'
      go_simp
      with_reducible rfl
     rotate_left
     ·
      simp only [Act.put, List.setIfInBounds_toArray, List.set_cons_zero, List.set_cons_succ, i64_w, i32_w]
      rfl
     refine take_ (i := 0) (N := some 16) (v := ?_) (a' := ?_) spec_l71Top.D4 rfl rfl (take_ofW HT_.out HW_.out (by kernel_rfl)) (fun _ _ _ h => h) (Or.inl ⟨by rfl, ?_⟩) hHeld ?_ ?_;rotate_left
     ·
      rintro w' ⟨s0, s1, s2, s3⟩
      go_simp
      with_reducible rfl
     rotate_left
     ·
      simp only [Act.put, List.setIfInBounds_toArray, List.set_cons_zero, List.set_cons_succ, i64_w, i32_w]
      rfl
     refine take_ (i := 4) (N := some 20) (v := ?_) (a' := ?_) spec_l71Top.D5 rfl rfl (take_ofW HT_.out HW_.out (by kernel_rfl)) (fun _ _ _ h => h) (Or.inl ⟨by rfl, ?_⟩) hHeld ?_ ?_;rotate_left
     ·
      rintro w' ⟨s0, s1, s2, s3⟩
      go_simp
      with_reducible rfl
     rotate_left
     ·
      simp only [Act.put, List.setIfInBounds_toArray, List.set_cons_zero, List.set_cons_succ, i64_w, i32_w]
      rfl
     refine one_ (i := 5) (N := some 21) spec_l71Top.D6 rfl rfl (one_of HT_.out (by kernel_rfl)) (by decide) (fun K hK => ?_);refine goes_ Try.func8 (by kernel_rfl) rfl #[.agg #[.slice Ao14 x201000_1.length co14, .int .i64 x201001_1, .int .i64 x201002_1], .int .i64 (rd t201 x5_1)] (by rfl) rfl rfl q22_5 ?_
     with_reducible refine (spec_TopAdd.calls k1 _ _ x201000_1 x201001_1 x201002_1 (rd t201 x5_1) t206 t209 t210 t211 _ ?side1 ?side2 A11.out).mono ?_
     (case side1 => repeat (first | exact (Kd.R_reads' HO_201000.out).2.2 | (with_reducible refine Kd.C_alloc ?_ _) | (with_reducible refine Kd.C_drewN ?_ _) | (with_reducible refine Kd.C_drew ?_)));(case side2 => exact (Kd.R_reads' HO_201000.out).2.1);rintro e w15 ⟨v207, rfl, ho0, hb⟩;have HS3_ := (hb.cell (World.block_lt_of_cell? _ _ (hHeld.2.2.2))).trans (hHeld.2.2.2);refine ⟨_, rfl, ?_⟩;have n0_ := Aside0.mk (Kd.R_below q22_7 hb);have n1_ := Aside0.mk (Kd.R_elder' q22_4 (Kd.R_base ho0) hb);have n2_ := Aside0.mk (Kd.R_lower (Kd.R_new' ho0 (Kd.R_lt q22_4)) (keep_size (w := w) (g := g) (row := none) q22_1));have n3_ := Aside0.mk (blk_below (g := gb199) (o := .cells #[.slice none 0 0, .int .i64 0, .int .i64 0] 25 (0, 0)) q22_3 hb);have n4_ := Aside0.mk (blk_below (g := gb200) (o := .cells #[.slice Ao14 x201000_1.length co14, .int .i64 x201001_1, .int .i64 x201002_1] 25 (0, 0)) q22_6 hb);have n5_ := Aside0.mk (IsS62.below q22_0 hb);have n6_ := Aside0.mk (KeepBut.trans q22_1 (KeepBut.of_below hb g none) (.inl rfl));have n7_ := Aside0.mk (below_step q22_2 hb);clear HO_4 HO_201000 BK199 BK200 HI0 HK HB;have HO_4 := n0_;have HO_201000 := n1_;have HO208 := n2_;have BK199 := n3_;have BK200 := n4_;have HI0 := n5_;have HK := n6_;have HB := n7_;clear n0_ n1_ n2_ n3_ n4_ n5_ n6_ n7_;(try clear hb);(try clear hb2);(try clear hk);(try clear hi);(try clear ho0);obtain ⟨Ao16, co16, eo16⟩ := Kd.R_slice HO208.out;(first | subst eo16 | (injection eo16 with f1_ f2_ f3_; have f4_ := f1_.symm; have f5_ := f3_.symm; clear f1_ f2_ f3_; subst f4_; subst f5_));refine hK.out _ _ ⟨(blk_cell BK200.out 0).trans rfl, (blk_cell BK200.out 1).trans rfl, (blk_cell BK200.out 2).trans rfl, HS3_⟩ (fun hHeld => ?_);clear hK K;refine norm_ (a' := ?_) ?_ ?_;rotate_left
     ·
      show Act.put _ (some 21) _ = _
      simp only [Act.put, List.setIfInBounds_toArray, List.set_cons_zero, List.set_cons_succ, i64_w, i32_w]
      rfl
     refine pure_ (i := 6) (N := some 15) (v := ?_) (a' := ?_) spec_l71Top.D7 rfl rfl (any_of HT_.out (by kernel_rfl)) (fun _ _ _ h => h) (Or.inl ⟨by rfl, ?_⟩) ?_ ?_;rotate_left
     ·
      intro w'
      go_simp
      with_reducible rfl
     rotate_left
     ·
      simp only [Act.put, List.setIfInBounds_toArray, List.set_cons_zero, List.set_cons_succ, i64_w, i32_w]
      rfl
     refine pure_ (i := 7) (N := some 22) (v := ?_) (a' := ?_) spec_l71Top.D8 rfl rfl (any_of HT_.out (by kernel_rfl)) (fun _ _ _ h => h) (Or.inl ⟨by rfl, ?_⟩) ?_ ?_;rotate_left
     ·
      intro w'
      go_simp
      with_reducible rfl
     rotate_left
     ·
      simp only [Act.put, List.setIfInBounds_toArray, List.set_cons_zero, List.set_cons_succ, i64_w, i32_w]
      rfl
     refine pure_ (i := 8) (N := some 23) (v := ?_) (a' := ?_) spec_l71Top.D9 rfl rfl (any_of HT_.out (by kernel_rfl)) (fun _ _ _ h => h) (Or.inl ⟨by rfl, ?_⟩) ?_ ?_;rotate_left
     ·
      intro w'
      go_simp
      with_reducible rfl
     rotate_left
     ·
      simp only [Act.put, List.setIfInBounds_toArray, List.set_cons_zero, List.set_cons_succ, i64_w, i32_w]
      rfl
     refine last_ (i := 9) (N := none) spec_l71Top.D10 rfl rfl (one_of HT_.out (by kernel_rfl)) (by decide) (fun K hK => ?_)
     have hs17 : w15.cell? ⟨gb200, 0, none⟩ = some (.slice Ao14 x201000_1.length co14) := (blk_cell BK200.out 0).trans rfl
     have hfs17 := blk_frozen BK200.out 0;have hns17_0 := NB199_200.out;have hms17_0 := NB200_199.out
     have hs18 : w15.cell? ⟨gb200, 1, none⟩ = some (.int .i64 x201001_1) := (blk_cell BK200.out 1).trans rfl
     have hfs18 := blk_frozen BK200.out 1;have hns18_0 := NB199_200.out;have hms18_0 := NB200_199.out
     have hs19 : w15.cell? ⟨gb200, 2, none⟩ = some (.int .i64 x201002_1) := (blk_cell BK200.out 2).trans rfl
     have hfs19 := blk_frozen BK200.out 2;have hns19_0 := NB199_200.out;have hms19_0 := NB200_199.out;refine skip_ (w1 := ?_) (by rfl) rfl ?_ ?_;rotate_left
     ·
      go_simp
      rfl
     refine hK.out _ _ ?_;clear hK K;refine done_ (done_of HT_.out (by kernel_rfl)) ?_
     try go_wp2
     go_roundg k1
     case measure => have := HK1.out; omega
     case rel => exact ⟨(wrap64 (x5_1 + 1)), (t206), (t209), (t210), (.slice Ao16 t206.length co16), (by first | rfl | (simp; done) | (simp [*]; done)), H', ⟨by have := HK1.out; omega⟩, ⟨by (with_reducible repeat (first | apply Kd.R_alloc | apply Kd.R_drewN | apply Kd.R_drew)); exact Kd.R_mono (Kd.R_far (p := ⟨gb200, 2, none⟩) (Kd.R_far (p := ⟨gb200, 1, none⟩) (Kd.R_far (p := ⟨gb200, 0, none⟩) (Kd.R_types HO_4.out BK200.out (by decide)) (fun _ hk => hk.2) (.slice Ao16 t206.length co16)) (fun _ hk => hk.2) (.int .i64 t209)) (fun _ hk => hk.2) (.int .i64 t210)) (fun _ hk => trivial)⟩, ⟨by (with_reducible repeat (first | apply Kd.R_alloc | apply Kd.R_drewN | apply Kd.R_drew)); exact Kd.R_mono (Kd.R_far (p := ⟨gb200, 2, none⟩) (Kd.R_far (p := ⟨gb200, 1, none⟩) (Kd.R_far (p := ⟨gb200, 0, none⟩) (Kd.R_types HO208.out BK200.out (by decide)) (fun _ hk => hk.2) (.slice Ao16 t206.length co16)) (fun _ hk => hk.2) (.int .i64 t209)) (fun _ hk => hk.2) (.int .i64 t210)) (fun _ hk => trivial)⟩, ⟨by (with_reducible repeat (first | refine blk_drewN ?_ _ | refine blk_drew ?_ | refine blk_alloc ?_ _)); refine blk_far ?_ NB199_200.out _; (with_reducible repeat (first | refine blk_drewN ?_ _ | refine blk_drew ?_ | refine blk_alloc ?_ _)); refine blk_far ?_ NB199_200.out _; (with_reducible repeat (first | refine blk_drewN ?_ _ | refine blk_drew ?_ | refine blk_alloc ?_ _)); refine blk_far ?_ NB199_200.out _; (with_reducible repeat (first | refine blk_drewN ?_ _ | refine blk_drew ?_ | refine blk_alloc ?_ _)); exact BK199.out⟩, ⟨by (with_reducible repeat (first | refine blk_drewN ?_ _ | refine blk_drew ?_ | refine blk_alloc ?_ _)); refine blk_put (cs := #[.slice Ao16 t206.length co16, .int .i64 t209, .int .i64 x201002_1]) ?_ 2 _ rfl; (with_reducible repeat (first | refine blk_drewN ?_ _ | refine blk_drew ?_ | refine blk_alloc ?_ _)); refine blk_put (cs := #[.slice Ao16 t206.length co16, .int .i64 x201001_1, .int .i64 x201002_1]) ?_ 1 _ rfl; (with_reducible repeat (first | refine blk_drewN ?_ _ | refine blk_drew ?_ | refine blk_alloc ?_ _)); refine blk_put (cs := #[.slice Ao14 x201000_1.length co14, .int .i64 x201001_1, .int .i64 x201002_1]) ?_ 0 _ rfl; (with_reducible repeat (first | refine blk_drewN ?_ _ | refine blk_drew ?_ | refine blk_alloc ?_ _)); exact BK200.out⟩, ⟨q22_0⟩, ⟨q22_1⟩, ⟨q22_2⟩⟩
    ·
     rw [if_neg c10] at H
     exact absurd H (by simp)
   ·
    rw [if_neg c9] at H
    have c9b0 : decide (x5_1 < (t201.length : Int)) = false := decide_eq_false c9
    clear c9
    replace H := Option.bind_eq_some_iff.mp H
    obtain ⟨⟨t212, t213⟩, A200, H⟩ := H
    replace H : (if t212 = 0 then (some (x201000_1, wrap64 (x201001_1 + 1), x201002_1, t213)) else (if t212 = 1 then ((some (([(-1), 2001, 2000] : List Int) : List Int)).bind fun y214 => ((spec_l6Rd_pick.f k1 s0_0 t213 3).bind fun bt217 => (if 0 ≤ bt217.1 then (if bt217.1 < (y214.length : Int) then (some (x201000_1, x201001_1, rd y214 bt217.1, bt217.2)) else (none)) else (none)))) else (if t212 = 2 then ((spec_l6Rd_pick.f k1 s0_0 t213 2).bind fun bt220 => (if x201000_1.length < 8796093022208 then (some ((x201000_1 ++ [(⟨63, bt220.1⟩ : S54)]), x201001_1, x201002_1, bt220.2)) else (none))) else (some (x201000_1, x201001_1, x201002_1, t213))))) = some (r1, r2, r3, r4) := H
    have A20 := Aside0.mk A200;clear A200
    by_cases c21 : t212 = 0
    ·
     rw [if_pos c21] at H
     have c21b0 : (t212 == 0) = true := beq_iff_eq.mpr c21
     have c21b1 : (t212 != 0) = false := bne_eq_false_iff_eq.mpr c21
     clear c21
     simp only [Option.some.injEq, Prod.mk.injEq] at H
     obtain ⟨rfl, rfl, rfl, rfl⟩ := H;obtain ⟨Ao22, co22, eo22⟩ := Kd.R_slice HO_4.out;subst eo22
     go_wp2_with (first | ((with_reducible refine gate_callee (f := 36) rfl ?_); refine goesL_ (some 25) rfl rfl Try.func36 (by kernel_rfl) rfl #[.pointer (some ⟨g, 0, none⟩), .int .i64 24] rfl q22_5 ?_; (with_reducible refine (spec_l6Rd_pick.calls k1 g s0_0 t204 24 t212 t213 w0 _ ?side1 ?side2 A20.out).mono ?_); (case side1 => exact q22_0); (case side2 => exact q22_2); rintro e w23 ⟨rfl, hi, hb, hk⟩; refine ⟨_, rfl, ?_⟩; have n0_ := Aside0.mk (Kd.R_mono (Kd.R_keep (IsS62.apart (show IsS62 w0 _ g s0_0 t204 from q22_0) q22_7 (by decide)) hk (fun _ h => h.2)) (fun _ h => h.1)); have n1_ := Aside0.mk (Kd.R_mono (Kd.R_keep (IsS62.apart (show IsS62 w0 _ g s0_0 t204 from q22_0) q22_4 (by decide)) hk (fun _ h => h.2)) (fun _ h => h.1)); have n2_ := Aside0.mk (KeepBut.blk hk (g' := gb199) (o := .cells #[.slice none 0 0, .int .i64 0, .int .i64 0] 25 (0, 0)) q22_3 NB199_0.out (by simp)); have n3_ := Aside0.mk (KeepBut.blk hk (g' := gb200) (o := .cells #[u201000, .int .i64 x201001_1, .int .i64 x201002_1] 25 (0, 0)) q22_6 NB200_0.out (by simp)); have n4_ := Aside0.mk (KeepBut.trans q22_1 hk (.inl rfl)); have n5_ := Aside0.mk (hb); have n6_ := Aside0.mk (hi); clear HO_4; clear HO_201000; clear BK199; clear BK200; clear HK; clear HB; clear HI0; have HO_4 := n0_; have HO_201000 := n1_; have BK199 := n2_; have BK200 := n3_; have HK := n4_; have HB := n5_; have HI0 := n6_; clear n0_ n1_ n2_ n3_ n4_ n5_ n6_; (try clear hb); (try clear hb2); (try clear hk); (try clear hi); have hnb24 := NB200_199.out; have hnc24 := NB199_200.out; have hnb25 := NB200_0.out; have hnc25 := NB0_200.out; have hcz26_0 : w23.cell? ⟨gb200, 0, none⟩ = some (u201000) := (blk_cell BK200.out 0).trans rfl; have hcz26_1 : w23.cell? ⟨gb200, 1, none⟩ = some (.int .i64 x201001_1) := (blk_cell BK200.out 1).trans rfl; have hcz26_2 : w23.cell? ⟨gb200, 2, none⟩ = some (.int .i64 x201002_1) := (blk_cell BK200.out 2).trans rfl; have hfz26_0 := blk_frozen BK200.out 0; have hfz26_1 := blk_frozen BK200.out 1; have hfz26_2 := blk_frozen BK200.out 2; obtain ⟨Ao27, co27, eo27⟩ := Kd.R_slice HO_201000.out; subst eo27; have hnb28 := NB199_0.out; have hnc28 := NB0_199.out; have hcz29_0 : w23.cell? ⟨gb199, 0, none⟩ = some (.slice none 0 0) := (blk_cell BK199.out 0).trans rfl; have hcz29_1 : w23.cell? ⟨gb199, 1, none⟩ = some (.int .i64 0) := (blk_cell BK199.out 1).trans rfl; have hcz29_2 : w23.cell? ⟨gb199, 2, none⟩ = some (.int .i64 0) := (blk_cell BK199.out 2).trans rfl; have hfz29_0 := blk_frozen BK199.out 0; have hfz29_1 := blk_frozen BK199.out 1; have hfz29_2 := blk_frozen BK199.out 2))
     refine bodyPost_ret (results_cell_row rfl _ _ gb199 25 #[.slice Ao27 x201000_1.length co27, .int .i64 (wrap64 (x201001_1 + 1)), .int .i64 x201002_1] (0, 0) _ rfl (by (with_reducible repeat (first | refine blk_drewN ?_ _ | refine blk_drew ?_ | refine blk_alloc ?_ _)); refine blk_put (cs := #[.slice Ao27 x201000_1.length co27, .int .i64 (wrap64 (x201001_1 + 1)), .int .i64 0]) ?_ 2 _ rfl; (with_reducible repeat (first | refine blk_drewN ?_ _ | refine blk_drew ?_ | refine blk_alloc ?_ _)); refine blk_put (cs := #[.slice Ao27 x201000_1.length co27, .int .i64 0, .int .i64 0]) ?_ 1 _ rfl; (with_reducible repeat (first | refine blk_drewN ?_ _ | refine blk_drew ?_ | refine blk_alloc ?_ _)); refine blk_put (cs := #[.slice none 0 0, .int .i64 0, .int .i64 0]) ?_ 0 _ rfl; (with_reducible repeat (first | refine blk_drewN ?_ _ | refine blk_drew ?_ | refine blk_alloc ?_ _)); refine blk_far ?_ NB199_200.out _; (with_reducible repeat (first | refine blk_drewN ?_ _ | refine blk_drew ?_ | refine blk_alloc ?_ _)); exact BK199.out) Try.underlying25 rfl (by kernel_rfl)) rfl ?_
     exact ⟨_, q22_12, by (with_reducible repeat (first | apply Kd.R_alloc | apply Kd.R_drewN | apply Kd.R_drew)); exact Kd.R_mono (Kd.R_far (p := ⟨gb199, 2, none⟩) (Kd.R_far (p := ⟨gb199, 1, none⟩) (Kd.R_far (p := ⟨gb199, 0, none⟩) (Kd.R_far (p := ⟨gb200, 1, none⟩) (Kd.R_types (Kd.R_types HO_201000.out BK200.out (by decide)) BK199.out (by decide)) (fun _ hk => hk.1.2) (.int .i64 (wrap64 (x201001_1 + 1)))) (fun _ hk => hk.2) (.slice Ao27 x201000_1.length co27)) (fun _ hk => hk.2) (.int .i64 (wrap64 (x201001_1 + 1)))) (fun _ hk => hk.2) (.int .i64 x201002_1)) (fun _ hk => trivial), q22_0, q22_2, q22_1⟩
    ·
     rw [if_neg c21] at H
     have c21b0 : (t212 == 0) = false := beq_eq_false_iff_ne.mpr c21
     have c21b1 : (t212 != 0) = true := bne_iff_ne.mpr c21
     by_cases c30 : t212 = 1
     ·
      rw [if_pos c30] at H
      have c30b0 : (t212 == 1) = true := beq_iff_eq.mpr c30
      have c30b1 : (t212 != 1) = false := bne_eq_false_iff_eq.mpr c30
      clear c30;obtain ⟨y214, hy214⟩ : ∃ y_ : List Int, y_ = (([(-1), 2001, 2000] : List Int)) := ⟨_, rfl⟩
      replace H : ((spec_l6Rd_pick.f k1 s0_0 t213 3).bind fun bt217 => (if 0 ≤ bt217.1 then (if bt217.1 < (y214.length : Int) then (some (x201000_1, x201001_1, rd y214 bt217.1, bt217.2)) else (none)) else (none))) = some (r1, r2, r3, r4) := by first | (rw [hy214]; with_reducible exact H) | (have H2_ := (Option.bind_some _ _).symm.trans H; rw [hy214]; with_reducible exact H2_) | (have H2_ := (Option.bind_some _ _).symm.trans H; with_reducible exact H2_) | with_reducible exact H | (rw [hy214]; exact H) | exact H
      have Ny214 := Aside0.mk hy214;clear hy214
      replace H := Option.bind_eq_some_iff.mp H
      obtain ⟨⟨t217, t218⟩, A310, H⟩ := H
      replace H : (if 0 ≤ t217 then (if t217 < (y214.length : Int) then (some (x201000_1, x201001_1, rd y214 t217, t218)) else (none)) else (none)) = some (r1, r2, r3, r4) := H
      have A31 := Aside0.mk A310;clear A310
      by_cases c32 : 0 ≤ t217
      ·
       rw [if_pos c32] at H
       have c32b0 : decide (0 ≤ t217) = true := decide_eq_true c32
       clear c32
       by_cases c33 : t217 < (y214.length : Int)
       ·
        rw [if_pos c33] at H
        have c33b0 : decide (t217 < (y214.length : Int)) = true := decide_eq_true c33
        clear c33
        simp only [Option.some.injEq, Prod.mk.injEq] at H
        obtain ⟨rfl, rfl, rfl, rfl⟩ := H;obtain ⟨Ao34, co34, eo34⟩ := Kd.R_slice HO_4.out;subst eo34
        go_wp2_with (first | ((with_reducible refine gate_callee (f := 36) rfl ?_); refine goesL_ (some 25) rfl rfl Try.func36 (by kernel_rfl) rfl #[.pointer (some ⟨g, 0, none⟩), .int .i64 24] rfl q22_5 ?_; (with_reducible refine (spec_l6Rd_pick.calls k1 g s0_0 t204 24 t212 t213 w0 _ ?side1 ?side2 A20.out).mono ?_); (case side1 => exact q22_0); (case side2 => exact q22_2); rintro e w35 ⟨rfl, hi, hb, hk⟩; refine ⟨_, rfl, ?_⟩; have n0_ := Aside0.mk (Kd.R_mono (Kd.R_keep (IsS62.apart (show IsS62 w0 _ g s0_0 t204 from q22_0) q22_7 (by decide)) hk (fun _ h => h.2)) (fun _ h => h.1)); have n1_ := Aside0.mk (Kd.R_mono (Kd.R_keep (IsS62.apart (show IsS62 w0 _ g s0_0 t204 from q22_0) q22_4 (by decide)) hk (fun _ h => h.2)) (fun _ h => h.1)); have n2_ := Aside0.mk (KeepBut.blk hk (g' := gb199) (o := .cells #[.slice none 0 0, .int .i64 0, .int .i64 0] 25 (0, 0)) q22_3 NB199_0.out (by simp)); have n3_ := Aside0.mk (KeepBut.blk hk (g' := gb200) (o := .cells #[u201000, .int .i64 x201001_1, .int .i64 x201002_1] 25 (0, 0)) q22_6 NB200_0.out (by simp)); have n4_ := Aside0.mk (KeepBut.trans q22_1 hk (.inl rfl)); have n5_ := Aside0.mk (hb); have n6_ := Aside0.mk (hi); clear HO_4; clear HO_201000; clear BK199; clear BK200; clear HK; clear HB; clear HI0; have HO_4 := n0_; have HO_201000 := n1_; have BK199 := n2_; have BK200 := n3_; have HK := n4_; have HB := n5_; have HI0 := n6_; clear n0_ n1_ n2_ n3_ n4_ n5_ n6_; (try clear hb); (try clear hb2); (try clear hk); (try clear hi)) | ((with_reducible refine gate_dst (N := 34) rfl ?_); refine Kd.R_lit (Kd.int .i64) _ 3 ?hg (N := 34) ?hd (xs := ([(-1), 2001, 2000] : List Int)) (inner := [.int .i64 (-1), .int .i64 2001, .int .i64 2000]) (ok := fun _ => True) (okp := fun _ => True) ?hr ?hp (fun _ hk => hk) trivial (Below.refl _ _) (Nat.le_refl _) (by simp) ?_; (case hd => rfl); (case hg => rfl); (case hr => first | (go_simp; done) | (go_simp; rfl)); (case hp => exact (Reps.one (show Kd.M (Kd.int .i64) _ _ _ (-1) [.int .i64 (-1)] from rfl) (Reps.one (show Kd.M (Kd.int .i64) _ _ _ 2001 [.int .i64 2001] from rfl) (Reps.one (show Kd.M (Kd.int .i64) _ _ _ 2000 [.int .i64 2000] from rfl) (Reps.none _ _))))); intro v215 w36 ho37 hb hg_ hnew_; clear hg_ hnew_; (first | rw [← Ny214.out] at ho37 | (simp only [Int.reduceToNat] at ho37; rw [← Ny214.out] at ho37)); have n0_ := Aside0.mk (Kd.R_elder' q22_7 (Kd.R_base ho37) hb); have n1_ := Aside0.mk (Kd.R_below q22_4 hb); have n2_ := Aside0.mk (Kd.R_lower (Kd.R_new' ho37 (Kd.R_lt q22_7)) (keep_size (w := w) (g := g) (row := none) q22_1)); have n3_ := Aside0.mk (blk_below (g := gb199) (o := .cells #[.slice none 0 0, .int .i64 0, .int .i64 0] 25 (0, 0)) q22_3 hb); have n4_ := Aside0.mk (blk_below (g := gb200) (o := .cells #[u201000, .int .i64 x201001_1, .int .i64 x201002_1] 25 (0, 0)) q22_6 hb); have n5_ := Aside0.mk (IsS62.below q22_0 hb); have n6_ := Aside0.mk (KeepBut.trans q22_1 (KeepBut.of_below hb g none) (.inl rfl)); have n7_ := Aside0.mk (below_step q22_2 hb); clear HO_4; clear HO_201000; clear BK199; clear BK200; clear HI0; clear HK; clear HB; have HO_4 := n0_; have HO_201000 := n1_; have HO216 := n2_; have BK199 := n3_; have BK200 := n4_; have HI0 := n5_; have HK := n6_; have HB := n7_; clear n0_ n1_ n2_ n3_ n4_ n5_ n6_ n7_; clear hb ho37) | ((with_reducible refine gate_callee (f := 36) rfl ?_); refine goesL_ (some 36) rfl rfl Try.func36 (by kernel_rfl) rfl #[.pointer (some ⟨g, 0, none⟩), .int .i64 3] rfl q22_5 ?_; (with_reducible refine (spec_l6Rd_pick.calls k1 g s0_0 t213 3 t217 t218 w0 _ ?side1 ?side2 A31.out).mono ?_); (case side1 => exact q22_0); (case side2 => exact q22_2); rintro e w38 ⟨rfl, hi, hb, hk⟩; refine ⟨_, rfl, ?_⟩; have n0_ := Aside0.mk (Kd.R_mono (Kd.R_keep (IsS62.apart (show IsS62 w0 _ g s0_0 t213 from q22_0) q22_7 (by decide)) hk (fun _ h => h.2)) (fun _ h => h.1)); have n1_ := Aside0.mk (Kd.R_mono (Kd.R_keep (IsS62.apart (show IsS62 w0 _ g s0_0 t213 from q22_0) q22_4 (by decide)) hk (fun _ h => h.2)) (fun _ h => h.1)); have n2_ := Aside0.mk (KeepBut.blk hk (g' := gb199) (o := .cells #[.slice none 0 0, .int .i64 0, .int .i64 0] 25 (0, 0)) q22_3 NB199_0.out (by simp)); have n3_ := Aside0.mk (KeepBut.blk hk (g' := gb200) (o := .cells #[u201000, .int .i64 x201001_1, .int .i64 x201002_1] 25 (0, 0)) q22_6 NB200_0.out (by simp)); have n4_ := Aside0.mk (Kd.R_mono (Kd.R_keep (IsS62.apart (show IsS62 w0 _ g s0_0 t213 from q22_0) (by (with_reducible repeat (first | apply Kd.R_alloc | apply Kd.R_drewN | apply Kd.R_drew)); exact HO216.out) (by decide)) hk (fun _ h => h.2)) (fun _ h => h.1)); have n5_ := Aside0.mk (KeepBut.trans q22_1 hk (.inl rfl)); have n6_ := Aside0.mk (hb); have n7_ := Aside0.mk (hi); clear HO_4; clear HO_201000; clear BK199; clear BK200; clear HO216; clear HK; clear HB; clear HI0; have HO_4 := n0_; have HO_201000 := n1_; have BK199 := n2_; have BK200 := n3_; have HO216 := n4_; have HK := n5_; have HB := n6_; have HI0 := n7_; clear n0_ n1_ n2_ n3_ n4_ n5_ n6_ n7_; (try clear hb); (try clear hb2); (try clear hk); (try clear hi); obtain ⟨Ao39, co39, eo39⟩ := Kd.R_slice HO216.out; subst eo39; have p219 : 0 ≤ (t217 : Int) := of_decide_eq_true q22_13; have q219 : t217 < (y214.length : Int) := of_decide_eq_true q22_13; obtain ⟨ad219, e219, hx219_0⟩ := Kd.at_int (Kd.R_reads' HO216.out).2.2 t217 p219 q219; cases e219; replace p219 := eq_true p219; replace q219 := eq_true q219; have hnb40 := NB200_199.out; have hnc40 := NB199_200.out; have hnb41 := NB200_0.out; have hnc41 := NB0_200.out; have hcz42_0 : w38.cell? ⟨gb200, 0, none⟩ = some (u201000) := (blk_cell BK200.out 0).trans rfl; have hcz42_1 : w38.cell? ⟨gb200, 1, none⟩ = some (.int .i64 x201001_1) := (blk_cell BK200.out 1).trans rfl; have hcz42_2 : w38.cell? ⟨gb200, 2, none⟩ = some (.int .i64 x201002_1) := (blk_cell BK200.out 2).trans rfl; have hfz42_0 := blk_frozen BK200.out 0; have hfz42_1 := blk_frozen BK200.out 1; have hfz42_2 := blk_frozen BK200.out 2; obtain ⟨Ao43, co43, eo43⟩ := Kd.R_slice HO_201000.out; subst eo43; have hnb44 := NB199_0.out; have hnc44 := NB0_199.out; have hcz45_0 : w38.cell? ⟨gb199, 0, none⟩ = some (.slice none 0 0) := (blk_cell BK199.out 0).trans rfl; have hcz45_1 : w38.cell? ⟨gb199, 1, none⟩ = some (.int .i64 0) := (blk_cell BK199.out 1).trans rfl; have hcz45_2 : w38.cell? ⟨gb199, 2, none⟩ = some (.int .i64 0) := (blk_cell BK199.out 2).trans rfl; have hfz45_0 := blk_frozen BK199.out 0; have hfz45_1 := blk_frozen BK199.out 1; have hfz45_2 := blk_frozen BK199.out 2))
        refine bodyPost_ret (results_cell_row rfl _ _ gb199 25 #[.slice Ao43 x201000_1.length co43, .int .i64 x201001_1, .int .i64 (rd y214 t217)] (0, 0) _ rfl (by (with_reducible repeat (first | refine blk_drewN ?_ _ | refine blk_drew ?_ | refine blk_alloc ?_ _)); refine blk_put (cs := #[.slice Ao43 x201000_1.length co43, .int .i64 x201001_1, .int .i64 0]) ?_ 2 _ rfl; (with_reducible repeat (first | refine blk_drewN ?_ _ | refine blk_drew ?_ | refine blk_alloc ?_ _)); refine blk_put (cs := #[.slice Ao43 x201000_1.length co43, .int .i64 0, .int .i64 0]) ?_ 1 _ rfl; (with_reducible repeat (first | refine blk_drewN ?_ _ | refine blk_drew ?_ | refine blk_alloc ?_ _)); refine blk_put (cs := #[.slice none 0 0, .int .i64 0, .int .i64 0]) ?_ 0 _ rfl; (with_reducible repeat (first | refine blk_drewN ?_ _ | refine blk_drew ?_ | refine blk_alloc ?_ _)); refine blk_far ?_ NB199_200.out _; (with_reducible repeat (first | refine blk_drewN ?_ _ | refine blk_drew ?_ | refine blk_alloc ?_ _)); exact BK199.out) Try.underlying25 rfl (by kernel_rfl)) rfl ?_
        exact ⟨_, q22_12, by (with_reducible repeat (first | apply Kd.R_alloc | apply Kd.R_drewN | apply Kd.R_drew)); exact Kd.R_mono (Kd.R_far (p := ⟨gb199, 2, none⟩) (Kd.R_far (p := ⟨gb199, 1, none⟩) (Kd.R_far (p := ⟨gb199, 0, none⟩) (Kd.R_far (p := ⟨gb200, 2, none⟩) (Kd.R_types (Kd.R_types HO_201000.out BK200.out (by decide)) BK199.out (by decide)) (fun _ hk => hk.1.2) (.int .i64 (rd y214 t217))) (fun _ hk => hk.2) (.slice Ao43 x201000_1.length co43)) (fun _ hk => hk.2) (.int .i64 x201001_1)) (fun _ hk => hk.2) (.int .i64 (rd y214 t217))) (fun _ hk => trivial), q22_0, q22_2, q22_1⟩
       ·
        rw [if_neg c33] at H
        exact absurd H (by simp)
      ·
       rw [if_neg c32] at H
       exact absurd H (by simp)
     ·
      rw [if_neg c30] at H
      have c30b0 : (t212 == 1) = false := beq_eq_false_iff_ne.mpr c30
      have c30b1 : (t212 != 1) = true := bne_iff_ne.mpr c30
      by_cases c46 : t212 = 2
      ·
       rw [if_pos c46] at H
       have c46b0 : (t212 == 2) = true := beq_iff_eq.mpr c46
       have c46b1 : (t212 != 2) = false := bne_eq_false_iff_eq.mpr c46
       clear c46
       replace H := Option.bind_eq_some_iff.mp H
       obtain ⟨⟨t220, t221⟩, A470, H⟩ := H
       replace H : (if x201000_1.length < 8796093022208 then (some ((x201000_1 ++ [(⟨63, t220⟩ : S54)]), x201001_1, x201002_1, t221)) else (none)) = some (r1, r2, r3, r4) := H
       have A47 := Aside0.mk A470;clear A470
       by_cases c48 : x201000_1.length < 8796093022208
       ·
        rw [if_pos c48] at H
        have LMc48 := Aside0.mk c48;clear c48;obtain ⟨y222, hy222⟩ : ∃ y_ : List (S54), y_ = (x201000_1 ++ [(⟨63, t220⟩ : S54)]) := ⟨_, rfl⟩
        replace H : (some (y222, x201001_1, x201002_1, t221)) = some (r1, r2, r3, r4) := by first | (rw [hy222]; with_reducible exact H) | (have H2_ := (Option.bind_some _ _).symm.trans H; rw [hy222]; with_reducible exact H2_) | (have H2_ := (Option.bind_some _ _).symm.trans H; with_reducible exact H2_) | with_reducible exact H | (rw [hy222]; exact H) | exact H
        have Ny222 := Aside0.mk hy222;clear hy222
        simp only [Option.some.injEq, Prod.mk.injEq] at H
        obtain ⟨rfl, rfl, rfl, rfl⟩ := H;obtain ⟨Ao49, co49, eo49⟩ := Kd.R_slice HO_4.out;subst eo49
        try go_wp2_with (first | ((with_reducible refine gate_callee (f := 36) rfl ?_); refine goesL_ (some 25) rfl rfl Try.func36 (by kernel_rfl) rfl #[.pointer (some ⟨g, 0, none⟩), .int .i64 24] rfl q22_5 ?_; (with_reducible refine (spec_l6Rd_pick.calls k1 g s0_0 t204 24 t212 t213 w0 _ ?side1 ?side2 A20.out).mono ?_); (case side1 => exact q22_0); (case side2 => exact q22_2); rintro e w50 ⟨rfl, hi, hb, hk⟩; refine ⟨_, rfl, ?_⟩; have n0_ := Aside0.mk (Kd.R_mono (Kd.R_keep (IsS62.apart (show IsS62 w0 _ g s0_0 t204 from q22_0) q22_7 (by decide)) hk (fun _ h => h.2)) (fun _ h => h.1)); have n1_ := Aside0.mk (Kd.R_mono (Kd.R_keep (IsS62.apart (show IsS62 w0 _ g s0_0 t204 from q22_0) q22_4 (by decide)) hk (fun _ h => h.2)) (fun _ h => h.1)); have n2_ := Aside0.mk (KeepBut.blk hk (g' := gb199) (o := .cells #[.slice none 0 0, .int .i64 0, .int .i64 0] 25 (0, 0)) q22_3 NB199_0.out (by simp)); have n3_ := Aside0.mk (KeepBut.blk hk (g' := gb200) (o := .cells #[u201000, .int .i64 x201001_1, .int .i64 x201002_1] 25 (0, 0)) q22_6 NB200_0.out (by simp)); have n4_ := Aside0.mk (KeepBut.trans q22_1 hk (.inl rfl)); have n5_ := Aside0.mk (hb); have n6_ := Aside0.mk (hi); clear HO_4; clear HO_201000; clear BK199; clear BK200; clear HK; clear HB; clear HI0; have HO_4 := n0_; have HO_201000 := n1_; have BK199 := n2_; have BK200 := n3_; have HK := n4_; have HB := n5_; have HI0 := n6_; clear n0_ n1_ n2_ n3_ n4_ n5_ n6_; (try clear hb); (try clear hb2); (try clear hk); (try clear hi)))
        have n0_ := Aside0.mk (Kd.R_drew HO_4.out);have n1_ := Aside0.mk (Kd.R_drew HO_201000.out);have n2_ := Aside0.mk (blk_drew BK199.out);have n3_ := Aside0.mk (blk_drew BK200.out);have n4_ := Aside0.mk (IsS62.drew HI0.out);have n5_ := Aside0.mk (keep_drew HK.out);have n6_ := Aside0.mk (below_drew1 HB.out);clear HO_4 HO_201000 BK199 BK200 HI0 HK HB;have HO_4 := n0_;have HO_201000 := n1_;have BK199 := n2_;have BK200 := n3_;have HI0 := n4_;have HK := n5_;have HB := n6_;clear n0_ n1_ n2_ n3_ n4_ n5_ n6_;refine start_ (n := 9) (S := fun w' => w'.cell? ⟨gb200, 0, none⟩ = some (u201000) ∧ w'.cell? ⟨gb200, 1, none⟩ = some (.int .i64 x201001_1) ∧ w'.cell? ⟨gb200, 2, none⟩ = some (.int .i64 x201002_1)) (ds := [8]) #[false, false, false, false, false, false, false, false, false] (by kernel_rfl) rfl rfl ⟨(blk_cell BK200.out 0).trans rfl, (blk_cell BK200.out 1).trans rfl, (blk_cell BK200.out 2).trans rfl⟩ (fun hHeld => ?_); refine with_tabW spec_l71Top.tab13 spec_l71Top.bits13 (fun HT_ HW_ => ?_)
        generalize w50.drew = w51 at HO_4 HO_201000 BK199 BK200 HI0 HK HB hHeld ⊢
        refine pure_ (i := 0) (N := some 42) (v := ?_) (a' := ?_) #[true, false, false, false, false, false, false, false, false] rfl rfl (any_of HT_.out (by kernel_rfl)) (fun _ _ _ h => h) (Or.inl ⟨by rfl, ?_⟩) ?_ ?_;rotate_left
        ·
         intro w'
         go_simp
         with_reducible rfl
        rotate_left
        ·
         simp only [Act.put, List.setIfInBounds_toArray, List.set_cons_zero, List.set_cons_succ, i64_w, i32_w]
         rfl
        refine pure_ (i := 2) (N := some 44) (v := ?_) (a' := ?_) #[true, false, true, false, false, false, false, false, false] rfl rfl (any_of HT_.out (by kernel_rfl)) (fun _ _ _ h => h) (Or.inl ⟨by rfl, ?_⟩) ?_ ?_;rotate_left
        ·
         intro w'
         go_simp
         with_reducible rfl
        rotate_left
        ·
         simp only [Act.put, List.setIfInBounds_toArray, List.set_cons_zero, List.set_cons_succ, i64_w, i32_w]
         rfl
        refine take_ (i := 1) (N := some 43) (v := ?_) (a' := ?_) #[true, true, true, false, false, false, false, false, false] rfl rfl (take_ofW HT_.out HW_.out (by kernel_rfl)) (fun _ _ _ h => h) (Or.inl ⟨by rfl, ?_⟩) hHeld ?_ ?_;rotate_left
        ·
         rintro w' ⟨s0, s1, s2⟩
         go_simp
         with_reducible rfl
        rotate_left
        ·
         simp only [Act.put, List.setIfInBounds_toArray, List.set_cons_zero, List.set_cons_succ, i64_w, i32_w]
         rfl
        refine one_ (i := 3) (N := some 45) #[true, true, true, true, false, false, false, false, false] rfl rfl (one_of HT_.out (by kernel_rfl)) (by decide) (fun K hK => ?_);refine goes_ Try.func36 (by kernel_rfl) rfl #[.pointer (some ⟨g, 0, none⟩), .int .i64 2] (by rfl) rfl rfl q22_5 ?_
        with_reducible refine (spec_l6Rd_pick.calls k1 g s0_0 t213 2 t220 t221 w0 _ ?side1 ?side2 A47.out).mono ?_
        (case side1 => exact q22_0);(case side2 => exact q22_2);rintro e w52 ⟨rfl, hi, hb, hk⟩;refine ⟨_, rfl, ?_⟩;have n0_ := Aside0.mk (Kd.R_mono (Kd.R_keep (IsS62.apart (show IsS62 w0 _ g s0_0 t213 from q22_0) q22_7 (by decide)) hk (fun _ h => h.2)) (fun _ h => h.1));have n1_ := Aside0.mk (Kd.R_mono (Kd.R_keep (IsS62.apart (show IsS62 w0 _ g s0_0 t213 from q22_0) q22_4 (by decide)) hk (fun _ h => h.2)) (fun _ h => h.1));have n2_ := Aside0.mk (KeepBut.blk hk (g' := gb199) (o := .cells #[.slice none 0 0, .int .i64 0, .int .i64 0] 25 (0, 0)) q22_3 NB199_0.out (by simp));have n3_ := Aside0.mk (KeepBut.blk hk (g' := gb200) (o := .cells #[u201000, .int .i64 x201001_1, .int .i64 x201002_1] 25 (0, 0)) q22_6 NB200_0.out (by simp));have n4_ := Aside0.mk (KeepBut.trans q22_1 hk (.inl rfl));have n5_ := Aside0.mk (hb);have n6_ := Aside0.mk (hi);clear HO_4 HO_201000 BK199 BK200 HK HB HI0;have HO_4 := n0_;have HO_201000 := n1_;have BK199 := n2_;have BK200 := n3_;have HK := n4_;have HB := n5_;have HI0 := n6_;clear n0_ n1_ n2_ n3_ n4_ n5_ n6_;(try clear hb);(try clear hb2);(try clear hk);(try clear hi);refine hK.out _ _ ⟨(blk_cell BK200.out 0).trans rfl, (blk_cell BK200.out 1).trans rfl, (blk_cell BK200.out 2).trans rfl⟩ (fun hHeld => ?_);clear hK K;refine norm_ (a' := ?_) ?_ ?_;rotate_left
        ·
         show Act.put _ (some 45) _ = _
         simp only [Act.put, List.setIfInBounds_toArray, List.set_cons_zero, List.set_cons_succ, i64_w, i32_w]
         rfl
        refine pure_ (i := 4) (N := some 46) (v := ?_) (a' := ?_) #[true, true, true, true, true, false, false, false, false] rfl rfl (any_of HT_.out (by kernel_rfl)) (fun _ _ _ h => h) (Or.inl ⟨by rfl, ?_⟩) ?_ ?_;rotate_left
        ·
         intro w'
         go_simp
         with_reducible rfl
        rotate_left
        ·
         simp only [Act.put, List.setIfInBounds_toArray, List.set_cons_zero, List.set_cons_succ, i64_w, i32_w]
         rfl
        refine one_ (i := 5) (N := some 47) #[true, true, true, true, true, true, false, false, false] rfl rfl (one_of HT_.out (by kernel_rfl)) (by decide) (fun K hK => ?_);refine value_ (w1 := ?_) (v := ?_) (by rfl) rfl ?_ ?_;rotate_left 2
        ·
         go_simp
         constructor
         ·
          rfl
         ·
          rfl
        refine hK.out _ _ ⟨(blk_cell (blk_alloc BK200.out _) 0).trans rfl, (blk_cell (blk_alloc BK200.out _) 1).trans rfl, (blk_cell (blk_alloc BK200.out _) 2).trans rfl⟩ (fun hHeld => ?_);clear hK K;refine norm_ (a' := ?_) ?_ ?_;rotate_left
        ·
         show Act.put _ (some 47) _ = _
         simp only [Act.put, List.setIfInBounds_toArray, List.set_cons_zero, List.set_cons_succ, i64_w, i32_w]
         rfl
        refine one_ (i := 6) (N := some 48) #[true, true, true, true, true, true, true, false, false] rfl rfl (one_of HT_.out (by kernel_rfl)) (by decide) (fun K hK => ?_);refine Kd.R_append_step k54 w.heap.size (by rfl) (.tmp 43) (.tmp 47) 23 54 (.agg #[(.int .i64 0), (.int .i64 0)]) 16 rfl Try.underlying23 info54 rfl (by decide) (by omega) u201000 x201000_1 (⟨63, t220⟩ : S54) [.int .i64 63, .int .i64 t220] (fun _ => True) (fun _ => False) rfl rfl ?aP (fun _ hk => hk.elim) ?aF ?aO (Below.refl _ _) ?aS ?aL ?_;(case aP => exact k54_mkM _ _ _ (⟨63, t220⟩ : S54));(case aF => exact (fun _ _ => trivial));(case aO => exact q22_4);(case aS => exact (keep_size (w := w) (g := g) (row := none) q22_1));(case aL => have := LMc48.out; omega);intro v223 w53 ho hb hg hat
        rw [← Ny222.out] at ho
        have n0_ := Aside0.mk (Kd.R_over' q22_7 (Kd.R_typed q22_4) (by decide) hg);have n1_ := Aside0.mk (blk_grown (g := gb199) (o := .cells #[.slice none 0 0, .int .i64 0, .int .i64 0] 25 (0, 0)) q22_3 hg (Kd.R_ne HO_201000.out BK199.out (by decide)));have n2_ := Aside0.mk (blk_grown (g := gb200) (o := .cells #[u201000, .int .i64 x201001_1, .int .i64 x201002_1] 25 (0, 0)) q22_6 hg (Kd.R_ne HO_201000.out BK200.out (by decide)));have n3_ := Aside0.mk (IsS62.grown q22_0 hg (IsS62.own_ne HI0.out HO_201000.out (by decide)));have n4_ := Aside0.mk (below_weaken q22_2 HL.out hb);have n5_ := Aside0.mk (KeepBut.trans q22_1 (KeepBut.of_grown hg g) (Kd.R_base2 HO_201000.out));have n6_ := Aside0.mk (ho);clear HO_4 BK199 BK200 HI0 HB HK HO_201000;have HO_4 := n0_;have BK199 := n1_;have BK200 := n2_;have HI0 := n3_;have HB := n4_;have HK := n5_;have HO224 := n6_;clear n0_ n1_ n2_ n3_ n4_ n5_ n6_ ho hb hg hat;obtain ⟨Ao54, co54, eo54⟩ := Kd.R_slice HO224.out;(first | subst eo54 | (injection eo54 with f1_ f2_ f3_; have f4_ := f1_.symm; have f5_ := f3_.symm; clear f1_ f2_ f3_; subst f4_; subst f5_));refine hK.out _ _ ⟨(blk_cell BK200.out 0).trans rfl, (blk_cell BK200.out 1).trans rfl, (blk_cell BK200.out 2).trans rfl⟩ (fun hHeld => ?_);clear hK K;refine norm_ (a' := ?_) ?_ ?_;rotate_left
        ·
         show Act.put _ (some 48) _ = _
         simp only [Act.put, List.setIfInBounds_toArray, List.set_cons_zero, List.set_cons_succ, i64_w, i32_w]
         rfl
        refine pure_ (i := 7) (N := some 49) (v := ?_) (a' := ?_) #[true, true, true, true, true, true, true, true, false] rfl rfl (any_of HT_.out (by kernel_rfl)) (fun _ _ _ h => h) (Or.inl ⟨by rfl, ?_⟩) ?_ ?_;rotate_left
        ·
         intro w'
         go_simp
         with_reducible rfl
        rotate_left
        ·
         simp only [Act.put, List.setIfInBounds_toArray, List.set_cons_zero, List.set_cons_succ, i64_w, i32_w]
         rfl
        refine last_ (i := 8) (N := none) #[true, true, true, true, true, true, true, true, true] rfl rfl (one_of HT_.out (by kernel_rfl)) (by decide) (fun K hK => ?_)
        have hs55 : w53.cell? ⟨gb200, 0, none⟩ = some (u201000) := (blk_cell BK200.out 0).trans rfl
        have hfs55 := blk_frozen BK200.out 0;have hns55_0 := NB199_200.out;have hms55_0 := NB200_199.out;refine skip_ (w1 := ?_) (by rfl) rfl ?_ ?_;rotate_left
        ·
         go_simp
         rfl
        refine hK.out _ _ ?_;clear hK K;refine done_ (done_of HT_.out (by kernel_rfl)) ?_;have hnb56 := NB200_199.out;have hnc56 := NB199_200.out;have hnb57 := NB200_0.out;have hnc57 := NB0_200.out
        have hcz58_0 : w53.cell? ⟨gb200, 0, none⟩ = some (u201000) := (blk_cell BK200.out 0).trans rfl
        have hcz58_1 : w53.cell? ⟨gb200, 1, none⟩ = some (.int .i64 x201001_1) := (blk_cell BK200.out 1).trans rfl
        have hcz58_2 : w53.cell? ⟨gb200, 2, none⟩ = some (.int .i64 x201002_1) := (blk_cell BK200.out 2).trans rfl
        have hfz58_0 := blk_frozen BK200.out 0;have hfz58_1 := blk_frozen BK200.out 1;have hfz58_2 := blk_frozen BK200.out 2;have hnb59 := NB199_0.out;have hnc59 := NB0_199.out
        have hcz60_0 : w53.cell? ⟨gb199, 0, none⟩ = some (.slice none 0 0) := (blk_cell BK199.out 0).trans rfl
        have hcz60_1 : w53.cell? ⟨gb199, 1, none⟩ = some (.int .i64 0) := (blk_cell BK199.out 1).trans rfl
        have hcz60_2 : w53.cell? ⟨gb199, 2, none⟩ = some (.int .i64 0) := (blk_cell BK199.out 2).trans rfl
        have hfz60_0 := blk_frozen BK199.out 0;have hfz60_1 := blk_frozen BK199.out 1;have hfz60_2 := blk_frozen BK199.out 2
        try go_wp2
        refine bodyPost_ret (results_cell_row rfl _ _ gb199 25 #[.slice Ao54 y222.length co54, .int .i64 x201001_1, .int .i64 x201002_1] (0, 0) _ rfl (by (with_reducible repeat (first | refine blk_drewN ?_ _ | refine blk_drew ?_ | refine blk_alloc ?_ _)); refine blk_put (cs := #[.slice Ao54 y222.length co54, .int .i64 x201001_1, .int .i64 0]) ?_ 2 _ rfl; (with_reducible repeat (first | refine blk_drewN ?_ _ | refine blk_drew ?_ | refine blk_alloc ?_ _)); refine blk_put (cs := #[.slice Ao54 y222.length co54, .int .i64 0, .int .i64 0]) ?_ 1 _ rfl; (with_reducible repeat (first | refine blk_drewN ?_ _ | refine blk_drew ?_ | refine blk_alloc ?_ _)); refine blk_put (cs := #[.slice none 0 0, .int .i64 0, .int .i64 0]) ?_ 0 _ rfl; (with_reducible repeat (first | refine blk_drewN ?_ _ | refine blk_drew ?_ | refine blk_alloc ?_ _)); refine blk_far ?_ NB199_200.out _; (with_reducible repeat (first | refine blk_drewN ?_ _ | refine blk_drew ?_ | refine blk_alloc ?_ _)); exact BK199.out) Try.underlying25 rfl (by kernel_rfl)) rfl ?_
        exact ⟨_, q22_12, by (with_reducible repeat (first | apply Kd.R_alloc | apply Kd.R_drewN | apply Kd.R_drew)); exact Kd.R_mono (Kd.R_far (p := ⟨gb199, 2, none⟩) (Kd.R_far (p := ⟨gb199, 1, none⟩) (Kd.R_far (p := ⟨gb199, 0, none⟩) (Kd.R_far (p := ⟨gb200, 0, none⟩) (Kd.R_types (Kd.R_types HO224.out BK200.out (by decide)) BK199.out (by decide)) (fun _ hk => hk.1.2) (.slice Ao54 y222.length co54)) (fun _ hk => hk.2) (.slice Ao54 y222.length co54)) (fun _ hk => hk.2) (.int .i64 x201001_1)) (fun _ hk => hk.2) (.int .i64 x201002_1)) (fun _ hk => trivial), q22_0, q22_2, q22_1⟩
       ·
        rw [if_neg c48] at H
        exact absurd H (by simp)
      ·
       rw [if_neg c46] at H
       have c46b0 : (t212 == 2) = false := beq_eq_false_iff_ne.mpr c46
       have c46b1 : (t212 != 2) = true := bne_iff_ne.mpr c46
       simp only [Option.some.injEq, Prod.mk.injEq] at H
       obtain ⟨rfl, rfl, rfl, rfl⟩ := H;obtain ⟨Ao61, co61, eo61⟩ := Kd.R_slice HO_4.out;subst eo61
       go_wp2_with (first | ((with_reducible refine gate_callee (f := 36) rfl ?_); refine goesL_ (some 25) rfl rfl Try.func36 (by kernel_rfl) rfl #[.pointer (some ⟨g, 0, none⟩), .int .i64 24] rfl q22_5 ?_; (with_reducible refine (spec_l6Rd_pick.calls k1 g s0_0 t204 24 t212 t213 w0 _ ?side1 ?side2 A20.out).mono ?_); (case side1 => exact q22_0); (case side2 => exact q22_2); rintro e w62 ⟨rfl, hi, hb, hk⟩; refine ⟨_, rfl, ?_⟩; have n0_ := Aside0.mk (Kd.R_mono (Kd.R_keep (IsS62.apart (show IsS62 w0 _ g s0_0 t204 from q22_0) q22_7 (by decide)) hk (fun _ h => h.2)) (fun _ h => h.1)); have n1_ := Aside0.mk (Kd.R_mono (Kd.R_keep (IsS62.apart (show IsS62 w0 _ g s0_0 t204 from q22_0) q22_4 (by decide)) hk (fun _ h => h.2)) (fun _ h => h.1)); have n2_ := Aside0.mk (KeepBut.blk hk (g' := gb199) (o := .cells #[.slice none 0 0, .int .i64 0, .int .i64 0] 25 (0, 0)) q22_3 NB199_0.out (by simp)); have n3_ := Aside0.mk (KeepBut.blk hk (g' := gb200) (o := .cells #[u201000, .int .i64 x201001_1, .int .i64 x201002_1] 25 (0, 0)) q22_6 NB200_0.out (by simp)); have n4_ := Aside0.mk (KeepBut.trans q22_1 hk (.inl rfl)); have n5_ := Aside0.mk (hb); have n6_ := Aside0.mk (hi); clear HO_4; clear HO_201000; clear BK199; clear BK200; clear HK; clear HB; clear HI0; have HO_4 := n0_; have HO_201000 := n1_; have BK199 := n2_; have BK200 := n3_; have HK := n4_; have HB := n5_; have HI0 := n6_; clear n0_ n1_ n2_ n3_ n4_ n5_ n6_; (try clear hb); (try clear hb2); (try clear hk); (try clear hi); have hnb63 := NB200_199.out; have hnc63 := NB199_200.out; have hnb64 := NB200_0.out; have hnc64 := NB0_200.out; have hcz65_0 : w62.cell? ⟨gb200, 0, none⟩ = some (u201000) := (blk_cell BK200.out 0).trans rfl; have hcz65_1 : w62.cell? ⟨gb200, 1, none⟩ = some (.int .i64 x201001_1) := (blk_cell BK200.out 1).trans rfl; have hcz65_2 : w62.cell? ⟨gb200, 2, none⟩ = some (.int .i64 x201002_1) := (blk_cell BK200.out 2).trans rfl; have hfz65_0 := blk_frozen BK200.out 0; have hfz65_1 := blk_frozen BK200.out 1; have hfz65_2 := blk_frozen BK200.out 2; obtain ⟨Ao66, co66, eo66⟩ := Kd.R_slice HO_201000.out; subst eo66; have hnb67 := NB199_0.out; have hnc67 := NB0_199.out; have hcz68_0 : w62.cell? ⟨gb199, 0, none⟩ = some (.slice none 0 0) := (blk_cell BK199.out 0).trans rfl; have hcz68_1 : w62.cell? ⟨gb199, 1, none⟩ = some (.int .i64 0) := (blk_cell BK199.out 1).trans rfl; have hcz68_2 : w62.cell? ⟨gb199, 2, none⟩ = some (.int .i64 0) := (blk_cell BK199.out 2).trans rfl; have hfz68_0 := blk_frozen BK199.out 0; have hfz68_1 := blk_frozen BK199.out 1; have hfz68_2 := blk_frozen BK199.out 2))
       refine bodyPost_ret (results_cell_row rfl _ _ gb199 25 #[.slice Ao66 x201000_1.length co66, .int .i64 x201001_1, .int .i64 x201002_1] (0, 0) _ rfl (by (with_reducible repeat (first | refine blk_drewN ?_ _ | refine blk_drew ?_ | refine blk_alloc ?_ _)); refine blk_put (cs := #[.slice Ao66 x201000_1.length co66, .int .i64 x201001_1, .int .i64 0]) ?_ 2 _ rfl; (with_reducible repeat (first | refine blk_drewN ?_ _ | refine blk_drew ?_ | refine blk_alloc ?_ _)); refine blk_put (cs := #[.slice Ao66 x201000_1.length co66, .int .i64 0, .int .i64 0]) ?_ 1 _ rfl; (with_reducible repeat (first | refine blk_drewN ?_ _ | refine blk_drew ?_ | refine blk_alloc ?_ _)); refine blk_put (cs := #[.slice none 0 0, .int .i64 0, .int .i64 0]) ?_ 0 _ rfl; (with_reducible repeat (first | refine blk_drewN ?_ _ | refine blk_drew ?_ | refine blk_alloc ?_ _)); exact BK199.out) Try.underlying25 rfl (by kernel_rfl)) rfl ?_
       exact ⟨_, q22_12, by (with_reducible repeat (first | apply Kd.R_alloc | apply Kd.R_drewN | apply Kd.R_drew)); exact Kd.R_mono (Kd.R_far (p := ⟨gb199, 2, none⟩) (Kd.R_far (p := ⟨gb199, 1, none⟩) (Kd.R_far (p := ⟨gb199, 0, none⟩) (Kd.R_types HO_201000.out BK199.out (by decide)) (fun _ hk => hk.2) (.slice Ao66 x201000_1.length co66)) (fun _ hk => hk.2) (.int .i64 x201001_1)) (fun _ hk => hk.2) (.int .i64 x201002_1)) (fun _ hk => trivial), q22_0, q22_2, q22_1⟩

end Go.Proofs.Ytlobnnakikgcnaa.PA
