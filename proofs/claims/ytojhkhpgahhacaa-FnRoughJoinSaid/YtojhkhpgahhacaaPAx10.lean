-- Made by a program of this session (wip/tools/pr2.sh) out of the translation, by way of the printer: shared by the seat's laws.
import Derived.Test.YtojhkhpgahhacaaPAx0
import Derived.Test.YtojhkhpgahhacaaPAx1
import Derived.Test.YtojhkhpgahhacaaPAx2
import Derived.Test.YtojhkhpgahhacaaPAx7
import Derived.Test.YtojhkhpgahhacaaPAx8
import Derived.Test.YtojhkhpgahhacaaPAx9
namespace Go.Proofs.Ytojhkhpgahhacaa.PA
open Go.RowKit Go.Proofs.YtojhkhpgahhacaaW.PrintWords Go.Proofs.YtojhkhpgahhacaaW.PrintLast Go.Proofs.YtojhkhpgahhacaaW.PrintMore
attribute [local go_sem] max2_int min2_int max_two min_two max_three min_three max_four min_four   -- for this text's walks alone
set_option linter.unusedVariables false
set_option linter.unusedSimpArgs false

/-! ### spec_l71Rough: function 32 -/
def spec_l71Rough.l0 : Nat → Int → List Int → Int → List (List Int) → Option ((List (List Int)) × Int)
  | 0, _, _, _, _ => none
  | k + 1, x4, x1000, x1001, x172000 => if x4 > 0 then ((spec_l6Rd_pick.f k x1000 x1001 64).bind fun bt174 => ((spec_l6Rd_pick.f k x1000 bt174.2 9).bind fun bt176 => ((spec_RoughAdd.f k x172000 bt174.1 bt176.1).bind fun bt178 => (spec_l71Rough.l0 k (wrap64 (x4 - 1)) x1000 bt176.2 bt178.1)))) else ((spec_l6Rd_pick.f k x1000 x1001 24).bind fun bt182 => (if bt182.1 = 0 then (if 0 < (x172000.length : Int) then (if 0 < ((rd_L2 x172000 0).length : Int) then (some ((x172000.set (0 : Int).toNat ((rd_L2 x172000 0).set (0 : Int).toNat (wrap64 ((rd (rd_L2 x172000 0) 0) + 1)))), bt182.2)) else (none)) else (none)) else (if bt182.1 = 1 then (if 1 ≤ (x172000.length : Int) then (some ((x172000.drop (1 : Int).toNat), bt182.2)) else (none)) else (if bt182.1 = 2 then (if 1 < (x172000.length : Int) then (if (rd_L2 x172000 1).length < 17592186044416 then (some ((x172000.set (1 : Int).toNat ((rd_L2 x172000 1) ++ [0])), bt182.2)) else (none)) else (none)) else (if bt182.1 = 3 then (if 0 < (x172000.length : Int) then ((spec_l1Sum.f k (rd_L2 x172000 0)).bind fun t199 => ((spec_l6Rd_pick.f k x1000 bt182.2 3).bind fun bt200 => ((spec_RoughAdd.f k x172000 7 (wrap64 ((wrap64 (2000 - t199)) - bt200.1))).bind fun bt202 => (some (bt202.1, bt200.2))))) else (none)) else (some (x172000, bt182.2)))))))
def spec_l71Rough.f (k : Nat) (s0_0 : List Int) (s0_1 : Int) : Option ((List (List Int)) × Int) := (spec_RoughNew.f k).bind fun t168 => ((spec_l6Rd_pick.f k s0_0 s0_1 12).bind fun bt172 => (spec_l71Rough.l0 k bt172.1 s0_0 bt172.2 t168))
theorem spec_l71Rough.mono_l : ∀ k, (∀ y0 y1 y2 y3, LeO (spec_l71Rough.l0 k y0 y1 y2 y3) (spec_l71Rough.l0 (k + 1) y0 y1 y2 y3))
  | 0 => fun _ _ _ _ r h => by simp [spec_l71Rough.l0] at h
  | k + 1 => by
    have ih0 := spec_l71Rough.mono_l k
    · intro y0 y1 y2 y3
      unfold spec_l71Rough.l0
      repeat' first
      | (with_reducible exact ih0 _ _ _ _)
      | (with_reducible exact spec_RoughAdd.mono _ _ _ _)
      | (with_reducible exact spec_RoughNew.mono _)
      | (with_reducible exact spec_l1Sum.mono _ _)
      | (with_reducible exact spec_l6Rd_pick.mono _ _ _ _)
      | (with_reducible exact LeO.refl _)
      | (with_reducible exact LeO.none _)
      | (with_reducible refine LeO.ite ?_ ?_)
      | (with_reducible refine LeO.bind ?_ (fun _ => ?_))
      | exact ih0 _ _ _ _
      | exact spec_RoughAdd.mono _ _ _ _
      | exact spec_RoughNew.mono _
      | exact spec_l1Sum.mono _ _
      | exact spec_l6Rd_pick.mono _ _ _ _
      | exact LeO.none _
      | refine LeO.ite ?_ ?_
      | refine LeO.bind ?_ (fun _ => ?_)
theorem spec_l71Rough.mono : ∀ a0 a1 k, LeO (spec_l71Rough.f k a0 a1) (spec_l71Rough.f (k + 1) a0 a1) := by
  intro a0 a1 k
  have ih0 := spec_l71Rough.mono_l k
  unfold spec_l71Rough.f
  repeat' first
      | (with_reducible exact ih0 _ _ _ _)
      | (with_reducible exact spec_RoughAdd.mono _ _ _ _)
      | (with_reducible exact spec_RoughNew.mono _)
      | (with_reducible exact spec_l1Sum.mono _ _)
      | (with_reducible exact spec_l6Rd_pick.mono _ _ _ _)
      | (with_reducible exact LeO.refl _)
      | (with_reducible exact LeO.none _)
      | (with_reducible refine LeO.ite ?_ ?_)
      | (with_reducible refine LeO.bind ?_ (fun _ => ?_))
      | exact ih0 _ _ _ _
      | exact spec_RoughAdd.mono _ _ _ _
      | exact spec_RoughNew.mono _
      | exact spec_l1Sum.mono _ _
      | exact spec_l6Rd_pick.mono _ _ _ _
      | exact LeO.none _
      | refine LeO.ite ?_ ?_
      | refine LeO.bind ?_ (fun _ => ?_)
def spec_l71Rough.T5 : Bool × List (List Nat × List Nat) := (true, [([], []), ([], []), ([1], [1]), ([], []), ([3, 2], [3]), ([0, 2, 4, 4], [0, 2, 4]), ([5], [5]), ([6], [6]), ([6], [6]), ([7, 5, 0, 1, 2, 3, 4, 5, 6, 7], [7])])
def spec_l71Rough.B5 : List Nat := [0, 0, 2, 0, 14, 31, 63, 127, 127, 255]
theorem spec_l71Rough.tab5 : rtab .any (opsOf Try.f32 5) = spec_l71Rough.T5 := by kernel_rfl
theorem spec_l71Rough.bits5 : waitsOk spec_l71Rough.T5.2 spec_l71Rough.B5 = true := by kernel_rfl
def spec_l71Rough.T8 : Bool × List (List Nat × List Nat) := (true, [([], []), ([0], [0]), ([1], [1]), ([2], [2]), ([], []), ([4], [4]), ([5], [5]), ([6], [6]), ([7], [7]), ([8], [8]), ([9], [9]), ([3, 0, 1, 2, 3, 4, 5, 6, 7, 8, 9, 10], [3]), ([11, 10, 0, 1, 2, 3, 4, 5, 6, 7, 8, 9, 10], [10, 11])])
def spec_l71Rough.B8 : List Nat := [0, 1, 3, 7, 0, 16, 48, 112, 240, 496, 1008, 2047, 4095]
theorem spec_l71Rough.tab8 : rtab .any (opsOf Try.f32 8) = spec_l71Rough.T8 := by kernel_rfl
theorem spec_l71Rough.bits8 : waitsOk spec_l71Rough.T8.2 spec_l71Rough.B8 = true := by kernel_rfl
def spec_l71Rough.T12 : Bool × List (List Nat × List Nat) := (true, [([], []), ([0], [0]), ([], []), ([2], [2]), ([3], [3]), ([4], [4]), ([], []), ([5, 6], [5, 6]), ([1, 0, 1, 2, 3, 4, 5, 6, 7], [1]), ([8, 7, 7, 0, 1, 2, 3, 4, 5, 6, 7], [7, 8])])
def spec_l71Rough.B12 : List Nat := [0, 1, 0, 4, 12, 28, 0, 124, 255, 511]
theorem spec_l71Rough.tab12 : rtab .any (opsOf Try.f32 12) = spec_l71Rough.T12 := by kernel_rfl
theorem spec_l71Rough.bits12 : waitsOk spec_l71Rough.T12.2 spec_l71Rough.B12 = true := by kernel_rfl
def spec_l71Rough.T14 : Bool × List (List Nat × List Nat) := (true, [([], []), ([], []), ([1], [1]), ([2], [2]), ([3], [3]), ([4], [4]), ([5], [5]), ([], []), ([7, 5], [7]), ([6, 8], [6, 8]), ([0, 9, 8], [0, 9]), ([10], [10]), ([11], [11]), ([11], [11]), ([12, 10, 0, 1, 2, 3, 4, 5, 6, 7, 8, 9, 10, 11, 12], [12])])
def spec_l71Rough.B14 : List Nat := [0, 0, 2, 6, 14, 30, 62, 0, 190, 510, 1023, 2047, 4095, 4095, 8191]
theorem spec_l71Rough.tab14 : rtab .any (opsOf Try.f32 14) = spec_l71Rough.T14 := by kernel_rfl
theorem spec_l71Rough.bits14 : waitsOk spec_l71Rough.T14.2 spec_l71Rough.B14 = true := by kernel_rfl
theorem q32_0 {p : Prop} (h : p := by repeat (first | (with_reducible first | exact HI0.out | apply IsS66.alloc | apply IsS66.drewN | apply IsS66.drew | apply IsS66.set_1 | refine IsS66.far ?_ NB0_167.out _ | refine IsS66.far ?_ NB0_171.out _) | exact HI0.out)) : p := h
theorem q32_1 {p : Prop} (h : p := by repeat (first | (with_reducible first | exact HK.out | apply KeepBut.set_ | apply keep_drewN | apply keep_drew | apply keep_alloc | refine keep_far ?_ GW167.out _ | refine keep_far ?_ GW171.out _) | exact HK.out)) : p := h
theorem q32_2 {p : Prop} (h : p := by repeat (first | (with_reducible first | exact HB.out | apply below_alloc | apply pw_below_drewN | apply below_drew1 | refine below_set ?_ (IsS66.ge HI0.out) | refine below_set ?_ GE167.out | refine below_set ?_ GE171.out) | exact HB.out)) : p := h
theorem q32_3 {p : Prop} (h : p := by (try simp only [List.map_toArray, List.map_cons, List.map_nil]); first | done | rfl | (simp only [List.length_drop, List.length_take]; rfl)) : p := h
theorem q32_4 {p : Prop} (h : p := by (with_reducible repeat (first | refine blk_drewN ?_ _ | refine blk_drew ?_ | refine blk_alloc ?_ _)); exact BK167.out) : p := h
theorem q32_5 {p : Prop} (h : p := by (with_reducible repeat (first | apply Kd.S_alloc | apply Kd.S_drewN | apply Kd.S_drew)); exact HO_172000.out) : p := h
theorem q32_6 {p : Prop} (h : p := by (with_reducible repeat (first | refine blk_drewN ?_ _ | refine blk_drew ?_ | refine blk_alloc ?_ _)); exact BK171.out) : p := h
theorem q32_7 {p : Prop} (h : p := by first | (with_reducible assumption) | assumption) : p := h
theorem q32_8 {p : Prop} (h : p := by repeat (first | (with_reducible first | exact HK.out | apply KeepBut.set_ | apply keep_drewN | apply keep_drew | apply keep_alloc | refine keep_far ?_ GW167.out _) | exact HK.out)) : p := h
theorem q32_9 {p : Prop} (h : p := by repeat (first | (with_reducible first | exact HI0.out | apply IsS66.alloc | apply IsS66.drewN | apply IsS66.drew | apply IsS66.set_1 | refine IsS66.far ?_ NB0_167.out _) | exact HI0.out)) : p := h
theorem q32_10 {p : Prop} (h : p := by (with_reducible repeat (first | refine blk_drewN ?_ _ | refine blk_drew ?_ | refine blk_alloc ?_ _)); refine blk_put (cs := #[.slice none 0 0]) ?_ 0 _ rfl; (with_reducible repeat (first | refine blk_drewN ?_ _ | refine blk_drew ?_ | refine blk_alloc ?_ _)); exact BK167.out) : p := h
theorem q32_11 {p : Prop} (h : p := by (with_reducible repeat (first | refine blk_drewN ?_ _ | refine blk_drew ?_ | refine blk_alloc ?_ _)); refine blk_put (cs := #[.slice none 0 0]) ?_ 0 _ rfl; (with_reducible repeat (first | refine blk_drewN ?_ _ | refine blk_drew ?_ | refine blk_alloc ?_ _)); refine blk_far ?_ NB167_171.out _; (with_reducible repeat (first | refine blk_drewN ?_ _ | refine blk_drew ?_ | refine blk_alloc ?_ _)); exact BK167.out) : p := h
theorem q32_12 {p : Prop} (h : p := by first | rfl | (simp [errW_none, errW_some] <;> rfl) | (simp [*, errW_none, errW_some] <;> rfl)) : p := h
theorem q32_13 {p : Prop} (h : p := by repeat (first | (with_reducible first | exact HI0.out | apply IsS66.alloc | apply IsS66.drewN | apply IsS66.drew | apply IsS66.set_1) | exact HI0.out)) : p := h
theorem q32_14 {p : Prop} (h : p := by repeat (first | (with_reducible first | exact HK.out | apply KeepBut.set_ | apply keep_drewN | apply keep_drew | apply keep_alloc) | exact HK.out)) : p := h
theorem q32_15 {p : Prop} (h : p := by first | (rw [add_block]; exact (fun e_ => ((HL193_0.out.1 _ e_.symm).2) rfl)) | (show some (Addr.add _ _).block ≠ _; rw [add_block]; exact (fun e_ => ((HL193_0.out.1 _ e_.symm).2) rfl)) | exact (fun e_ => ((HL193_0.out.1 _ e_.symm).2) rfl)) : p := h
theorem q32_16 {p : Prop} (h : p := by (with_reducible repeat (first | apply Kd.R_alloc | apply Kd.R_drewN | apply Kd.R_drew)); exact HL198_0.out) : p := h
theorem q32_17 {p : Prop} (h : p := by repeat (first | (with_reducible first | exact HB.out | apply below_alloc | apply pw_below_drewN | apply below_drew1 | refine below_set ?_ (IsS66.ge HI0.out) | refine below_set ?_ GE167.out) | exact HB.out)) : p := h
theorem q32_18 {p : Prop} (h : p := by repeat (first | exact (Kd.S_reads' HO_172000.out).2.2 | (with_reducible refine Kd.C_alloc ?_ _) | (with_reducible refine Kd.C_drewN ?_ _) | (with_reducible refine Kd.C_drew ?_))) : p := h
set_option maxHeartbeats 8000000 in
set_option maxRecDepth 100000 in
theorem spec_l71Rough.calls (k : Nat) (g : Nat) (s0_0 : List Int) (s0_1 : Int) (r1 : List (List Int)) (r2 : Int) (w0 w : World) (hI : IsS66 w0 w g s0_0 s0_1) (hB : Below w0.heap.size w0 w) (h : spec_l71Rough.f k s0_0 s0_1 = some (r1, r2)) :
    Calls Try.prog 32 #[.pointer (some ⟨g, 0, none⟩)] w fun e w' => ∃ v0_ : Value, e = .returned (.agg #[v0_]) ∧ Kd.Q (Kd.slice 3 (Kd.int .i64)) 43 w' w.heap.size (fun _ => True) v0_ r1 ∧ IsS66 w0 w' g s0_0 r2 ∧ Below w0.heap.size w0 w' ∧ KeepBut w w' g none := by
  have hu25 := Try.underlying25
  have HI0 := Aside0.mk hI
  have HK := Aside0.mk (KeepBut.refl w g none)
  have HL := Aside0.mk hB.size
  clear hI
  have HW0 := Aside0.mk hB.size
  have HB := Aside0.mk hB
  clear hB
  have H : ((spec_RoughNew.f k).bind fun t168 => ((spec_l6Rd_pick.f k s0_0 s0_1 12).bind fun bt172 => (spec_l71Rough.l0 k bt172.1 s0_0 bt172.2 t168))) = some (r1, r2) := h
  clear h
  replace H := Option.bind_eq_some_iff.mp H
  obtain ⟨t168, A20, H⟩ := H
  replace H : ((spec_l6Rd_pick.f k s0_0 s0_1 12).bind fun bt172 => (spec_l71Rough.l0 k bt172.1 s0_0 bt172.2 t168)) = some (r1, r2) := H
  have A2 := Aside0.mk A20
  clear A20
  replace H := Option.bind_eq_some_iff.mp H
  obtain ⟨⟨t172, t173⟩, A30, H⟩ := H
  replace H : (spec_l71Rough.l0 k t172 s0_0 t173 t168) = some (r1, r2) := H
  have A3 := Aside0.mk A30
  clear A30
  have H' := Aside0.mk H
  clear H
  go_enter Try.func32, Try.ntmps32
  go_wp2_with (first | ((with_reducible refine gate_dst (N := 2) rfl ?_); refine box_event ?hg (N := 2) ?hd (cs := #[.slice none 0 0]) (t := 25) ?hr ?_; (case hd => rfl); (case hg => rfl); (case hr => first | (go_simp; done) | (go_simp; rfl)); intro gb167 hg w4 hbox hb; have n0_ := Aside0.mk (IsS66.below q32_13 hb); have n1_ := Aside0.mk (KeepBut.trans q32_14 (KeepBut.of_below hb g none) (.inl rfl)); have n2_ := Aside0.mk (below_step (by repeat (first | (with_reducible first | exact HB.out | apply below_alloc | apply pw_below_drewN | apply below_drew1 | refine below_set ?_ (IsS66.ge HI0.out)) | exact HB.out)) hb); have n3_ := Aside0.mk (hbox); have n4_ := Aside0.mk ((by rw [hg]; exact (keep_size (w := w) (g := g) (row := none) q32_14) : w.heap.size ≤ gb167)); have n5_ := Aside0.mk ((Nat.le_trans HW0.out (by rw [hg]; exact (keep_size (w := w) (g := g) (row := none) q32_14) : w.heap.size ≤ gb167) : w0.heap.size ≤ gb167)); have n6_ := Aside0.mk ((by rw [hg]; exact Nat.ne_of_lt (IsS66.lt (show IsS66 w0 _ g s0_0 s0_1 from q32_13)) : g ≠ gb167)); have n7_ := Aside0.mk ((by rw [hg]; exact Nat.ne_of_gt (IsS66.lt (show IsS66 w0 _ g s0_0 s0_1 from q32_13)) : gb167 ≠ g)); clear HI0; clear HK; clear HB; have HI0 := n0_; have HK := n1_; have HB := n2_; have BK167 := n3_; have GW167 := n4_; have GE167 := n5_; have NB0_167 := n6_; have NB167_0 := n7_; clear n0_ n1_ n2_ n3_ n4_ n5_ n6_ n7_; clear hb hbox hg) | ((with_reducible refine gate_callee (f := 49) rfl ?_); refine goesL_ (some 5) rfl rfl Try.func49 (by kernel_rfl) rfl #[] rfl q32_3 ?_; (with_reducible refine (spec_RoughNew.calls k  t168 _ A2.out).mono ?_); rintro e w5 ⟨v169, rfl, ho0, hb⟩; refine ⟨_, rfl, ?_⟩; have n0_ := Aside0.mk (Kd.S_lower ho0 (keep_size (w := w) (g := g) (row := none) q32_8)); have n1_ := Aside0.mk (IsS66.below q32_9 hb); have n2_ := Aside0.mk (blk_below (g := gb167) (o := .cells #[.slice none 0 0] 25 (0, 0)) q32_4 hb); have n3_ := Aside0.mk (KeepBut.trans q32_8 (KeepBut.of_below hb g none) (.inl rfl)); have n4_ := Aside0.mk (below_step q32_17 hb); clear HI0; clear BK167; clear HK; clear HB; have HO170 := n0_; have HI0 := n1_; have BK167 := n2_; have HK := n3_; have HB := n4_; clear n0_ n1_ n2_ n3_ n4_; (try clear hb); (try clear hb2); (try clear hk); (try clear hi); (try clear ho0)) | ((with_reducible refine gate_dst (N := 3) rfl ?_); refine box_event ?hg (N := 3) ?hd (cs := #[.slice none 0 0]) (t := 25) ?hr ?_; (case hd => rfl); (case hg => rfl); (case hr => first | (go_simp; done) | (go_simp; rfl)); intro gb171 hg w6 hbox hb; have n0_ := Aside0.mk (Kd.S_below (by (with_reducible repeat (first | apply Kd.S_alloc | apply Kd.S_drewN | apply Kd.S_drew)); exact HO170.out) hb); have n1_ := Aside0.mk (IsS66.below q32_9 hb); have n2_ := Aside0.mk (blk_below (g := gb167) (o := .cells #[.slice none 0 0] 25 (0, 0)) q32_4 hb); have n3_ := Aside0.mk (KeepBut.trans q32_8 (KeepBut.of_below hb g none) (.inl rfl)); have n4_ := Aside0.mk (below_step q32_17 hb); have n5_ := Aside0.mk (hbox); have n6_ := Aside0.mk ((by rw [hg]; exact (keep_size (w := w) (g := g) (row := none) q32_8) : w.heap.size ≤ gb171)); have n7_ := Aside0.mk ((Nat.le_trans HW0.out (by rw [hg]; exact (keep_size (w := w) (g := g) (row := none) q32_8) : w.heap.size ≤ gb171) : w0.heap.size ≤ gb171)); have n8_ := Aside0.mk ((by rw [hg]; exact Nat.ne_of_lt (blk_lt (g := gb167) (o := .cells #[.slice none 0 0] 25 (0, 0)) q32_4) : gb167 ≠ gb171)); have n9_ := Aside0.mk ((by rw [hg]; exact Nat.ne_of_gt (blk_lt (g := gb167) (o := .cells #[.slice none 0 0] 25 (0, 0)) q32_4) : gb171 ≠ gb167)); have n10_ := Aside0.mk ((by rw [hg]; exact Nat.ne_of_lt (IsS66.lt (show IsS66 w0 _ g s0_0 s0_1 from q32_9)) : g ≠ gb171)); have n11_ := Aside0.mk ((by rw [hg]; exact Nat.ne_of_gt (IsS66.lt (show IsS66 w0 _ g s0_0 s0_1 from q32_9)) : gb171 ≠ g)); clear HO170; clear HI0; clear BK167; clear HK; clear HB; have HO170 := n0_; have HI0 := n1_; have BK167 := n2_; have HK := n3_; have HB := n4_; have BK171 := n5_; have GW171 := n6_; have GE171 := n7_; have NB167_171 := n8_; have NB171_167 := n9_; have NB0_171 := n10_; have NB171_0 := n11_; clear n0_ n1_ n2_ n3_ n4_ n5_ n6_ n7_ n8_ n9_ n10_ n11_; clear hb hbox hg; obtain ⟨Ao7, co7, eo7⟩ := Kd.S_slice HO170.out; subst eo7; have hnb8 := NB171_167.out; have hnc8 := NB167_171.out; have hnb9 := NB171_0.out; have hnc9 := NB0_171.out; have hcz10_0 : w6.cell? ⟨gb171, 0, none⟩ = some (.slice none 0 0) := (blk_cell BK171.out 0).trans rfl; have hfz10_0 := blk_frozen BK171.out 0) | ((with_reducible refine gate_callee (f := 43) rfl ?_); refine goesL_ (some 7) rfl rfl Try.func43 (by kernel_rfl) rfl #[.pointer (some ⟨g, 0, none⟩), .int .i64 12] rfl q32_3 ?_; (with_reducible refine (spec_l6Rd_pick.calls k g s0_0 s0_1 12 t172 t173 w0 _ ?side1 ?side2 A3.out).mono ?_); (case side1 => exact q32_0); (case side2 => exact q32_2); rintro e w11 ⟨rfl, hi, hb, hk⟩; refine ⟨_, rfl, ?_⟩; have n0_ := Aside0.mk (KeepBut.blk hk (g' := gb167) (o := .cells #[.slice none 0 0] 25 (0, 0)) (by (with_reducible repeat (first | refine blk_drewN ?_ _ | refine blk_drew ?_ | refine blk_alloc ?_ _)); refine blk_far ?_ NB167_171.out _; (with_reducible repeat (first | refine blk_drewN ?_ _ | refine blk_drew ?_ | refine blk_alloc ?_ _)); exact BK167.out) NB167_0.out (by simp)); have n1_ := Aside0.mk (Kd.S_mono (Kd.S_keep (IsS66.apartS (show IsS66 w0 _ g s0_0 s0_1 from q32_0) (by (with_reducible repeat (first | apply Kd.S_alloc | apply Kd.S_drewN | apply Kd.S_drew)); exact (Kd.S_mono (Kd.S_far (p := ⟨gb171, 0, none⟩) (Kd.S_types HO170.out BK171.out (by decide)) (fun _ hk => hk.2) (.slice Ao7 t168.length co7)) (fun _ h_ => h_.1))) (by decide)) hk (fun _ h => h.2)) (fun _ h => h.1)); have n2_ := Aside0.mk (KeepBut.blk hk (g' := gb171) (o := .cells #[.slice Ao7 t168.length co7] 25 (0, 0)) (by (with_reducible repeat (first | refine blk_drewN ?_ _ | refine blk_drew ?_ | refine blk_alloc ?_ _)); refine blk_put (cs := #[.slice none 0 0]) ?_ 0 _ rfl; (with_reducible repeat (first | refine blk_drewN ?_ _ | refine blk_drew ?_ | refine blk_alloc ?_ _)); exact BK171.out) NB171_0.out (by simp)); have n3_ := Aside0.mk (KeepBut.trans q32_1 hk (.inl rfl)); have n4_ := Aside0.mk (hb); have n5_ := Aside0.mk (hi); clear BK167; clear HO170; clear BK171; clear HK; clear HB; clear HI0; have BK167 := n0_; have HO170 := n1_; have BK171 := n2_; have HK := n3_; have HB := n4_; have HI0 := n5_; clear n0_ n1_ n2_ n3_ n4_ n5_; (try clear hb); (try clear hb2); (try clear hk); (try clear hi)))
  go_loopg [4] k (fun kq v4 w' => ∃ (x4_1 : Int) (x1001_1 : Int) (x172000_1 : List (List Int)) (u172000 : Value), v4 = .int .i64 x4_1 ∧ Aside0 (spec_l71Rough.l0 kq x4_1 s0_0 x1001_1 x172000_1 = some (r1, r2)) ∧ Aside0 (kq ≤ k) ∧ Aside0 (Kd.S (Kd.slice 3 (Kd.int .i64)) 43 w' w.heap.size (fun _ => True) u172000 x172000_1) ∧ Aside0 (w'.heap[gb167]? = some (.cells #[(.slice none 0 0)] 25 (0, 0))) ∧ Aside0 (w'.heap[gb171]? = some (.cells #[u172000] 25 (0, 0))) ∧ Aside0 (IsS66 w0 w' g s0_0 x1001_1) ∧ Aside0 (KeepBut w w' g none) ∧ Aside0 (Below w0.heap.size w0 w'))
  case atStart => exact ⟨(t172), (t173), (t168), (.slice Ao7 t168.length co7), (by first | rfl | (simp; done) | (simp [*]; done)), H', ⟨Nat.le_refl _⟩, ⟨by (with_reducible repeat (first | apply Kd.S_alloc | apply Kd.S_drewN | apply Kd.S_drew)); exact HO170.out⟩, ⟨by (with_reducible repeat (first | refine blk_drewN ?_ _ | refine blk_drew ?_ | refine blk_alloc ?_ _)); exact BK167.out⟩, ⟨by (with_reducible repeat (first | refine blk_drewN ?_ _ | refine blk_drew ?_ | refine blk_alloc ?_ _)); exact BK171.out⟩, ⟨q32_0⟩, ⟨q32_1⟩, ⟨q32_2⟩⟩
  case round =>
    clear H'
    try clear p2
    try clear c3
    try clear c4
    try clear c8
    try clear c9
    try clear hcz10_0
    try clear hfz10_0
    obtain ⟨x4_1, x1001_1, x172000_1, u172000, rfl, HA, HK1, HO_172000, BK167, BK171, HI0, HK, HB⟩ := hrel
    cases gk with
    | zero => exact absurd HA.out (by simp [spec_l71Rough.l0])
    | succ k1 =>
      have H := HA.out
      clear HA
      simp only [spec_l71Rough.l0] at H
      by_cases c12 : x4_1 > 0
      · rw [if_pos c12] at H
        have c12b0 : decide (0 < x4_1) = true := decide_eq_true c12
        clear c12
        replace H := Option.bind_eq_some_iff.mp H
        obtain ⟨⟨t174, t175⟩, A130, H⟩ := H
        replace H : ((spec_l6Rd_pick.f k1 s0_0 t175 9).bind fun bt176 => ((spec_RoughAdd.f k1 x172000_1 t174 bt176.1).bind fun bt178 => (spec_l71Rough.l0 k1 (wrap64 (x4_1 - 1)) s0_0 bt176.2 bt178.1))) = some (r1, r2) := H
        have A13 := Aside0.mk A130
        clear A130
        replace H := Option.bind_eq_some_iff.mp H
        obtain ⟨⟨t176, t177⟩, A140, H⟩ := H
        replace H : ((spec_RoughAdd.f k1 x172000_1 t174 t176).bind fun bt178 => (spec_l71Rough.l0 k1 (wrap64 (x4_1 - 1)) s0_0 t177 bt178.1)) = some (r1, r2) := H
        have A14 := Aside0.mk A140
        clear A140
        replace H := Option.bind_eq_some_iff.mp H
        obtain ⟨⟨t178, t181⟩, A150, H⟩ := H
        replace H : (spec_l71Rough.l0 k1 (wrap64 (x4_1 - 1)) s0_0 t177 t178) = some (r1, r2) := H
        have A15 := Aside0.mk A150
        clear A150
        have H' := Aside0.mk H
        clear H
        try go_wp2
        have n0_ := Aside0.mk (Kd.S_drew HO_172000.out)
        have n1_ := Aside0.mk (blk_drew BK167.out)
        have n2_ := Aside0.mk (blk_drew BK171.out)
        have n3_ := Aside0.mk (IsS66.drew HI0.out)
        have n4_ := Aside0.mk (keep_drew HK.out)
        have n5_ := Aside0.mk (below_drew1 HB.out)
        clear HO_172000
        clear BK167
        clear BK171
        clear HI0
        clear HK
        clear HB
        have HO_172000 := n0_
        have BK167 := n1_
        have BK171 := n2_
        have HI0 := n3_
        have HK := n4_
        have HB := n5_
        clear n0_ n1_ n2_ n3_ n4_ n5_
        refine start_ (n := 10) (S := fun w' => w'.cell? ⟨gb171, 0, none⟩ = some (u172000)) (ds := [9]) #[false, false, false, false, false, false, false, false, false, false] (by kernel_rfl) rfl rfl ((blk_cell BK171.out 0).trans rfl) (fun hHeld => ?_); refine with_tabW spec_l71Rough.tab5 spec_l71Rough.bits5 (fun HT_ HW_ => ?_)
        generalize wr.drew = w16 at HO_172000 BK167 BK171 HI0 HK HB hHeld ⊢
        refine pure_ (i := 1) (N := some 14) (v := ?_) (a' := ?_) #[false, true, false, false, false, false, false, false, false, false] rfl rfl (any_of HT_.out (by kernel_rfl)) (fun _ _ _ h => h) (Or.inl ⟨by rfl, ?_⟩) ?_ ?_
        rotate_left
        · intro w'
          go_simp
          with_reducible rfl
        rotate_left
        · simp only [Act.put, List.setIfInBounds_toArray, List.set_cons_zero, List.set_cons_succ, i64_w, i32_w]
          rfl
        refine pure_ (i := 3) (N := some 16) (v := ?_) (a' := ?_) #[false, true, false, true, false, false, false, false, false, false] rfl rfl (any_of HT_.out (by kernel_rfl)) (fun _ _ _ h => h) (Or.inl ⟨by rfl, ?_⟩) ?_ ?_
        rotate_left
        · intro w'
          go_simp
          with_reducible rfl
        rotate_left
        · simp only [Act.put, List.setIfInBounds_toArray, List.set_cons_zero, List.set_cons_succ, i64_w, i32_w]
          rfl
        refine take_ (i := 0) (N := some 13) (v := ?_) (a' := ?_) #[true, true, false, true, false, false, false, false, false, false] rfl rfl (take_ofW HT_.out HW_.out (by kernel_rfl)) (fun _ _ _ h => h) (Or.inl ⟨by rfl, ?_⟩) hHeld ?_ ?_
        rotate_left
        · intro w' s0
          go_simp
          with_reducible rfl
        rotate_left
        · simp only [Act.put, List.setIfInBounds_toArray, List.set_cons_zero, List.set_cons_succ, i64_w, i32_w]
          rfl
        refine one_ (i := 2) (N := some 15) #[true, true, true, true, false, false, false, false, false, false] rfl rfl (one_of HT_.out (by kernel_rfl)) (by decide) (fun K hK => ?_)
        refine goes_ Try.func43 (by kernel_rfl) rfl #[.pointer (some ⟨g, 0, none⟩), .int .i64 64] (by rfl) rfl rfl q32_3 ?_
        with_reducible refine (spec_l6Rd_pick.calls k1 g s0_0 x1001_1 64 t174 t175 w0 _ ?side1 ?side2 A13.out).mono ?_
        (case side1 => exact q32_0)
        (case side2 => exact q32_2)
        rintro e w17 ⟨rfl, hi, hb, hk⟩
        refine ⟨_, rfl, ?_⟩
        have n0_ := Aside0.mk (Kd.S_mono (Kd.S_keep (IsS66.apartS (show IsS66 w0 _ g s0_0 x1001_1 from q32_0) q32_5 (by decide)) hk (fun _ h => h.2)) (fun _ h => h.1))
        have n1_ := Aside0.mk (KeepBut.blk hk (g' := gb167) (o := .cells #[.slice none 0 0] 25 (0, 0)) q32_4 NB167_0.out (by simp))
        have n2_ := Aside0.mk (KeepBut.blk hk (g' := gb171) (o := .cells #[u172000] 25 (0, 0)) q32_6 NB171_0.out (by simp))
        have n3_ := Aside0.mk (KeepBut.trans q32_1 hk (.inl rfl))
        have n4_ := Aside0.mk (hb)
        have n5_ := Aside0.mk (hi)
        clear HO_172000
        clear BK167
        clear BK171
        clear HK
        clear HB
        clear HI0
        have HO_172000 := n0_
        have BK167 := n1_
        have BK171 := n2_
        have HK := n3_
        have HB := n4_
        have HI0 := n5_
        clear n0_ n1_ n2_ n3_ n4_ n5_
        (try clear hb)
        (try clear hb2)
        (try clear hk)
        (try clear hi)
        refine hK.out _ _ ((blk_cell BK171.out 0).trans rfl) (fun hHeld => ?_)
        clear hK K
        refine norm_ (a' := ?_) ?_ ?_
        rotate_left
        · show Act.put _ (some 15) _ = _
          simp only [Act.put, List.setIfInBounds_toArray, List.set_cons_zero, List.set_cons_succ, i64_w, i32_w]
          rfl
        refine one_ (i := 4) (N := some 17) #[true, true, true, true, true, false, false, false, false, false] rfl rfl (one_of HT_.out (by kernel_rfl)) (by decide) (fun K hK => ?_)
        refine goes_ Try.func43 (by kernel_rfl) rfl #[.pointer (some ⟨g, 0, none⟩), .int .i64 9] (by rfl) rfl rfl q32_3 ?_
        with_reducible refine (spec_l6Rd_pick.calls k1 g s0_0 t175 9 t176 t177 w0 _ ?side1 ?side2 A14.out).mono ?_
        (case side1 => exact q32_0)
        (case side2 => exact q32_2)
        rintro e w18 ⟨rfl, hi, hb, hk⟩
        refine ⟨_, rfl, ?_⟩
        have n0_ := Aside0.mk (Kd.S_mono (Kd.S_keep (IsS66.apartS (show IsS66 w0 _ g s0_0 t175 from q32_0) q32_5 (by decide)) hk (fun _ h => h.2)) (fun _ h => h.1))
        have n1_ := Aside0.mk (KeepBut.blk hk (g' := gb167) (o := .cells #[.slice none 0 0] 25 (0, 0)) q32_4 NB167_0.out (by simp))
        have n2_ := Aside0.mk (KeepBut.blk hk (g' := gb171) (o := .cells #[u172000] 25 (0, 0)) q32_6 NB171_0.out (by simp))
        have n3_ := Aside0.mk (KeepBut.trans q32_1 hk (.inl rfl))
        have n4_ := Aside0.mk (hb)
        have n5_ := Aside0.mk (hi)
        clear HO_172000
        clear BK167
        clear BK171
        clear HK
        clear HB
        clear HI0
        have HO_172000 := n0_
        have BK167 := n1_
        have BK171 := n2_
        have HK := n3_
        have HB := n4_
        have HI0 := n5_
        clear n0_ n1_ n2_ n3_ n4_ n5_
        (try clear hb)
        (try clear hb2)
        (try clear hk)
        (try clear hi)
        obtain ⟨Ao19, co19, eo19⟩ := Kd.S_slice HO_172000.out
        (first | subst eo19 | (injection eo19 with f1_ f2_ f3_; have f4_ := f1_.symm; have f5_ := f3_.symm; clear f1_ f2_ f3_; subst f4_; subst f5_))
        refine hK.out _ _ ((blk_cell BK171.out 0).trans rfl) (fun hHeld => ?_)
        clear hK K
        refine norm_ (a' := ?_) ?_ ?_
        rotate_left
        · show Act.put _ (some 17) _ = _
          simp only [Act.put, List.setIfInBounds_toArray, List.set_cons_zero, List.set_cons_succ, i64_w, i32_w]
          rfl
        refine one_ (i := 5) (N := some 18) #[true, true, true, true, true, true, false, false, false, false] rfl rfl (one_of HT_.out (by kernel_rfl)) (by decide) (fun K hK => ?_)
        refine goes_ Try.func24 (by kernel_rfl) rfl #[.agg #[.slice Ao19 x172000_1.length co19], .int .i64 t174, .int .i64 t176] (by rfl) rfl rfl q32_3 ?_
        with_reducible refine (spec_RoughAdd.calls k1 _ _ x172000_1 t174 t176 t178 t181 _ ?side1 ?side2 A15.out).mono ?_
        (case side1 => exact q32_18)
        (case side2 => exact (Kd.S_reads' HO_172000.out).2.1)
        rintro e w20 ⟨v179, rfl, ho0, hb⟩
        refine ⟨_, rfl, ?_⟩
        have n0_ := Aside0.mk (Kd.S_elder' q32_5 (Kd.S_base ho0) hb)
        have n1_ := Aside0.mk (Kd.S_lower (Kd.S_new' ho0 (Kd.S_lt q32_5)) (keep_size (w := w) (g := g) (row := none) q32_1))
        have n2_ := Aside0.mk (blk_below (g := gb167) (o := .cells #[.slice none 0 0] 25 (0, 0)) q32_4 hb)
        have n3_ := Aside0.mk (blk_below (g := gb171) (o := .cells #[.slice Ao19 x172000_1.length co19] 25 (0, 0)) q32_6 hb)
        have n4_ := Aside0.mk (IsS66.below q32_0 hb)
        have n5_ := Aside0.mk (KeepBut.trans q32_1 (KeepBut.of_below hb g none) (.inl rfl))
        have n6_ := Aside0.mk (below_step q32_2 hb)
        clear HO_172000
        clear BK167
        clear BK171
        clear HI0
        clear HK
        clear HB
        have HO_172000 := n0_
        have HO180 := n1_
        have BK167 := n2_
        have BK171 := n3_
        have HI0 := n4_
        have HK := n5_
        have HB := n6_
        clear n0_ n1_ n2_ n3_ n4_ n5_ n6_
        (try clear hb)
        (try clear hb2)
        (try clear hk)
        (try clear hi)
        (try clear ho0)
        obtain ⟨Ao21, co21, eo21⟩ := Kd.S_slice HO180.out
        (first | subst eo21 | (injection eo21 with f1_ f2_ f3_; have f4_ := f1_.symm; have f5_ := f3_.symm; clear f1_ f2_ f3_; subst f4_; subst f5_))
        refine hK.out _ _ ((blk_cell BK171.out 0).trans rfl) (fun hHeld => ?_)
        clear hK K
        refine norm_ (a' := ?_) ?_ ?_
        rotate_left
        · show Act.put _ (some 18) _ = _
          simp only [Act.put, List.setIfInBounds_toArray, List.set_cons_zero, List.set_cons_succ, i64_w, i32_w]
          rfl
        refine pure_ (i := 6) (N := some 12) (v := ?_) (a' := ?_) #[true, true, true, true, true, true, true, false, false, false] rfl rfl (any_of HT_.out (by kernel_rfl)) (fun _ _ _ h => h) (Or.inl ⟨by rfl, ?_⟩) ?_ ?_
        rotate_left
        · intro w'
          go_simp
          with_reducible rfl
        rotate_left
        · simp only [Act.put, List.setIfInBounds_toArray, List.set_cons_zero, List.set_cons_succ, i64_w, i32_w]
          rfl
        refine pure_ (i := 7) (N := some 19) (v := ?_) (a' := ?_) #[true, true, true, true, true, true, true, true, false, false] rfl rfl (any_of HT_.out (by kernel_rfl)) (fun _ _ _ h => h) (Or.inl ⟨by rfl, ?_⟩) ?_ ?_
        rotate_left
        · intro w'
          go_simp
          with_reducible rfl
        rotate_left
        · simp only [Act.put, List.setIfInBounds_toArray, List.set_cons_zero, List.set_cons_succ, i64_w, i32_w]
          rfl
        refine pure_ (i := 8) (N := some 20) (v := ?_) (a' := ?_) #[true, true, true, true, true, true, true, true, true, false] rfl rfl (any_of HT_.out (by kernel_rfl)) (fun _ _ _ h => h) (Or.inl ⟨by rfl, ?_⟩) ?_ ?_
        rotate_left
        · intro w'
          go_simp
          with_reducible rfl
        rotate_left
        · simp only [Act.put, List.setIfInBounds_toArray, List.set_cons_zero, List.set_cons_succ, i64_w, i32_w]
          rfl
        refine last_ (i := 9) (N := none) #[true, true, true, true, true, true, true, true, true, true] rfl rfl (one_of HT_.out (by kernel_rfl)) (by decide) (fun K hK => ?_)
        have hs22 : w20.cell? ⟨gb171, 0, none⟩ = some (.slice Ao19 x172000_1.length co19) := (blk_cell BK171.out 0).trans rfl
        have hfs22 := blk_frozen BK171.out 0
        have hns22_0 := NB167_171.out
        have hms22_0 := NB171_167.out
        refine skip_ (w1 := ?_) (by rfl) rfl ?_ ?_
        rotate_left
        · go_simp
          rfl
        refine hK.out _ _ ?_
        clear hK K
        refine done_ (done_of HT_.out (by kernel_rfl)) ?_
        try go_wp2
        go_roundg k1
        case measure => have := HK1.out; omega
        case rel => exact ⟨(wrap64 (x4_1 - 1)), (t177), (t178), (.slice Ao21 t178.length co21), (by first | rfl | (simp; done) | (simp [*]; done)), H', ⟨by have := HK1.out; omega⟩, ⟨by (with_reducible repeat (first | apply Kd.S_alloc | apply Kd.S_drewN | apply Kd.S_drew)); exact Kd.S_mono (Kd.S_far (p := ⟨gb171, 0, none⟩) (Kd.S_types HO180.out BK171.out (by decide)) (fun _ hk => hk.2) (.slice Ao21 t178.length co21)) (fun _ hk => trivial)⟩, ⟨by (with_reducible repeat (first | refine blk_drewN ?_ _ | refine blk_drew ?_ | refine blk_alloc ?_ _)); refine blk_far ?_ NB167_171.out _; (with_reducible repeat (first | refine blk_drewN ?_ _ | refine blk_drew ?_ | refine blk_alloc ?_ _)); exact BK167.out⟩, ⟨by (with_reducible repeat (first | refine blk_drewN ?_ _ | refine blk_drew ?_ | refine blk_alloc ?_ _)); refine blk_put (cs := #[.slice Ao19 x172000_1.length co19]) ?_ 0 _ rfl; (with_reducible repeat (first | refine blk_drewN ?_ _ | refine blk_drew ?_ | refine blk_alloc ?_ _)); exact BK171.out⟩, ⟨q32_0⟩, ⟨q32_1⟩, ⟨q32_2⟩⟩
      · rw [if_neg c12] at H
        have c12b0 : decide (0 < x4_1) = false := decide_eq_false c12
        clear c12
        replace H := Option.bind_eq_some_iff.mp H
        obtain ⟨⟨t182, t183⟩, A230, H⟩ := H
        replace H : (if t182 = 0 then (if 0 < (x172000_1.length : Int) then (if 0 < ((rd_L2 x172000_1 0).length : Int) then (some ((x172000_1.set (0 : Int).toNat ((rd_L2 x172000_1 0).set (0 : Int).toNat (wrap64 ((rd (rd_L2 x172000_1 0) 0) + 1)))), t183)) else (none)) else (none)) else (if t182 = 1 then (if 1 ≤ (x172000_1.length : Int) then (some ((x172000_1.drop (1 : Int).toNat), t183)) else (none)) else (if t182 = 2 then (if 1 < (x172000_1.length : Int) then (if (rd_L2 x172000_1 1).length < 17592186044416 then (some ((x172000_1.set (1 : Int).toNat ((rd_L2 x172000_1 1) ++ [0])), t183)) else (none)) else (none)) else (if t182 = 3 then (if 0 < (x172000_1.length : Int) then ((spec_l1Sum.f k1 (rd_L2 x172000_1 0)).bind fun t199 => ((spec_l6Rd_pick.f k1 s0_0 t183 3).bind fun bt200 => ((spec_RoughAdd.f k1 x172000_1 7 (wrap64 ((wrap64 (2000 - t199)) - bt200.1))).bind fun bt202 => (some (bt202.1, bt200.2))))) else (none)) else (some (x172000_1, t183)))))) = some (r1, r2) := H
        have A23 := Aside0.mk A230
        clear A230
        by_cases c24 : t182 = 0
        · rw [if_pos c24] at H
          have c24b0 : (t182 == 0) = true := beq_iff_eq.mpr c24
          have c24b1 : (t182 != 0) = false := bne_eq_false_iff_eq.mpr c24
          clear c24
          by_cases c25 : 0 < (x172000_1.length : Int)
          · rw [if_pos c25] at H
            have c25b0 : decide (0 < (x172000_1.length : Int)) = true := decide_eq_true c25
            have c25b1 : decide (0 < x172000_1.length) = true := decide_eq_true (by omega)
            clear c25
            by_cases c26 : 0 < ((rd_L2 x172000_1 0).length : Int)
            · rw [if_pos c26] at H
              have c26b0 : decide (0 < ((rd_L2 x172000_1 0).length : Int)) = true := decide_eq_true c26
              have c26b1 : decide (0 < (rd_L2 x172000_1 0).length) = true := decide_eq_true (by omega)
              clear c26
              obtain ⟨y187, hy187⟩ : ∃ y_ : List Int, y_ = ((rd_L2 x172000_1 0).set (0 : Int).toNat (wrap64 ((rd (rd_L2 x172000_1 0) 0) + 1))) := ⟨_, rfl⟩
              replace H : (some ((x172000_1.set (0 : Int).toNat y187), t183)) = some (r1, r2) := by first | (rw [hy187]; with_reducible exact H) | (have H2_ := (Option.bind_some _ _).symm.trans H; rw [hy187]; with_reducible exact H2_) | (have H2_ := (Option.bind_some _ _).symm.trans H; with_reducible exact H2_) | with_reducible exact H | (rw [hy187]; exact H) | exact H
              have Ny187 := Aside0.mk hy187
              clear hy187
              obtain ⟨y189, hy189⟩ : ∃ y_ : List (List Int), y_ = (x172000_1.set (0 : Int).toNat y187) := ⟨_, rfl⟩
              replace H : (some (y189, t183)) = some (r1, r2) := by first | (rw [hy189]; with_reducible exact H) | (have H2_ := (Option.bind_some _ _).symm.trans H; rw [hy189]; with_reducible exact H2_) | (have H2_ := (Option.bind_some _ _).symm.trans H; with_reducible exact H2_) | with_reducible exact H | (rw [hy189]; exact H) | exact H
              have Ny189 := Aside0.mk hy189
              clear hy189
              simp only [Option.some.injEq, Prod.mk.injEq] at H
              obtain ⟨rfl, rfl⟩ := H
              try go_wp2_with (first | ((with_reducible refine gate_callee (f := 43) rfl ?_); refine goesL_ (some 22) rfl rfl Try.func43 (by kernel_rfl) rfl #[.pointer (some ⟨g, 0, none⟩), .int .i64 24] rfl q32_3 ?_; (with_reducible refine (spec_l6Rd_pick.calls k1 g s0_0 x1001_1 24 t182 t183 w0 _ ?side1 ?side2 A23.out).mono ?_); (case side1 => exact q32_0); (case side2 => exact q32_2); rintro e w28 ⟨rfl, hi, hb, hk⟩; refine ⟨_, rfl, ?_⟩; have n0_ := Aside0.mk (Kd.S_mono (Kd.S_keep (IsS66.apartS (show IsS66 w0 _ g s0_0 x1001_1 from q32_0) q32_5 (by decide)) hk (fun _ h => h.2)) (fun _ h => h.1)); have n1_ := Aside0.mk (KeepBut.blk hk (g' := gb167) (o := .cells #[.slice none 0 0] 25 (0, 0)) q32_4 NB167_0.out (by simp)); have n2_ := Aside0.mk (KeepBut.blk hk (g' := gb171) (o := .cells #[u172000] 25 (0, 0)) q32_6 NB171_0.out (by simp)); have n3_ := Aside0.mk (KeepBut.trans q32_1 hk (.inl rfl)); have n4_ := Aside0.mk (hb); have n5_ := Aside0.mk (hi); clear HO_172000; clear BK167; clear BK171; clear HK; clear HB; clear HI0; have HO_172000 := n0_; have BK167 := n1_; have BK171 := n2_; have HK := n3_; have HB := n4_; have HI0 := n5_; clear n0_ n1_ n2_ n3_ n4_ n5_; (try clear hb); (try clear hb2); (try clear hk); (try clear hi)))
              have n0_ := Aside0.mk (Kd.S_drew HO_172000.out)
              have n1_ := Aside0.mk (blk_drew BK167.out)
              have n2_ := Aside0.mk (blk_drew BK171.out)
              have n3_ := Aside0.mk (IsS66.drew HI0.out)
              have n4_ := Aside0.mk (keep_drew HK.out)
              have n5_ := Aside0.mk (below_drew1 HB.out)
              clear HO_172000
              clear BK167
              clear BK171
              clear HI0
              clear HK
              clear HB
              have HO_172000 := n0_
              have BK167 := n1_
              have BK171 := n2_
              have HI0 := n3_
              have HK := n4_
              have HB := n5_
              clear n0_ n1_ n2_ n3_ n4_ n5_
              obtain ⟨Ao30, co30, eo30⟩ := Kd.S_slice HO_172000.out
              (first | subst eo30 | (injection eo30 with f1_ f2_ f3_; have f4_ := f1_.symm; have f5_ := f3_.symm; clear f1_ f2_ f3_; subst f4_; subst f5_))
              have p184 : 0 ≤ (0 : Int) := (by omega)
              have q184 : 0 < (x172000_1.length : Int) := of_decide_eq_true q32_7
              obtain ⟨ad184, A184_0, c184_0, e184, hx184_0, hl184_0, hi184_0⟩ := at_L2 (Kd.S_reads' HO_172000.out).2.2 0 p184 q184
              cases e184
              obtain ⟨ce184, hce184, hMe184, hcc184⟩ := Kd.S_get HO_172000.out [] 0 p184 (by first | exact q184 | exact of_decide_eq_true q32_7 | (have e_ := (Kd.S_reads' HO_172000.out).1; omega))
              obtain ⟨ve184_0, rfl, ge184_0⟩ := hMe184
              have hv184_0 := hcc184 0 _ rfl
              rw [Nat.add_zero, show ((Kd.slice 3 (Kd.int .i64))).sz = 1 from rfl, Nat.mul_one] at hv184_0
              replace hv184_0 := Option.some.inj (hv184_0.symm.trans hx184_0)
              rw [hv184_0] at ge184_0
              have HL184_0 := Aside0.mk (show Kd.R (Kd.int .i64) 3 _ _ _ _ (rd_L2 x172000_1 0) from ge184_0)
              clear hv184_0 ge184_0
              have HX184_0 := Aside0.mk hx184_0
              clear hcc184 hce184
              have qi184 : (0 < x172000_1.length) = True := eq_true (by omega)
              (try rw [show ((0 : Int)).toNat = 0 from rfl] at hx184_0)
              (try rw [Addr.add_zero'] at hx184_0)
              have HR184_0 := Aside0.mk hi184_0
              have HC184_0 := Aside0.mk hl184_0
              clear hi184_0 hl184_0
              replace p184 := eq_true p184
              replace q184 := eq_true q184
              have p185 : 0 ≤ (0 : Int) := (by omega)
              have q185 : 0 < (x172000_1.length : Int) := of_decide_eq_true q32_7
              obtain ⟨ad185, A185_0, c185_0, e185, hx185_0, hl185_0, hi185_0⟩ := at_L2 (Kd.S_reads' HO_172000.out).2.2 0 p185 q185
              obtain rfl : ad184 = ad185 := (by injection e185)
              obtain ⟨ce185, hce185, hMe185, hcc185⟩ := Kd.S_get HO_172000.out [] 0 p185 (by first | exact q185 | exact of_decide_eq_true q32_7 | (have e_ := (Kd.S_reads' HO_172000.out).1; omega))
              obtain ⟨ve185_0, rfl, ge185_0⟩ := hMe185
              have hv185_0 := hcc185 0 _ rfl
              rw [Nat.add_zero, show ((Kd.slice 3 (Kd.int .i64))).sz = 1 from rfl, Nat.mul_one] at hv185_0
              replace hv185_0 := Option.some.inj (hv185_0.symm.trans hx185_0)
              rw [hv185_0] at ge185_0
              have HL185_0 := Aside0.mk (show Kd.R (Kd.int .i64) 3 _ _ _ _ (rd_L2 x172000_1 0) from ge185_0)
              clear hv185_0 ge185_0
              have HX185_0 := Aside0.mk hx185_0
              clear hcc185 hce185
              have qi185 : (0 < x172000_1.length) = True := eq_true (by omega)
              (try rw [show ((0 : Int)).toNat = 0 from rfl] at hx185_0)
              (try rw [Addr.add_zero'] at hx185_0)
              have HR185_0 := Aside0.mk hi185_0
              have HC185_0 := Aside0.mk hl185_0
              clear hi185_0 hl185_0
              replace p185 := eq_true p185
              replace q185 := eq_true q185
              have ea_ := Option.some.inj (hx184_0.symm.trans hx185_0)
              injection ea_ with ea_ en_ ec_
              subst ea_
              subst ec_
              clear en_
              have p186 : 0 ≤ (0 : Int) := (by omega)
              have q186 : 0 < ((rd_L2 x172000_1 0).length : Int) := of_decide_eq_true q32_7
              obtain ⟨ad186, e186, hx186_0⟩ := Kd.at_int (by repeat (first | (with_reducible exact HR185_0.out) | (with_reducible refine Kd.C_alloc ?_ _) | (with_reducible refine Kd.C_drewN ?_ _) | (with_reducible refine Kd.C_drew ?_) | exact HR185_0.out)) 0 p186 q186
              cases e186
              have qi186 : (0 < (rd_L2 x172000_1 0).length) = True := eq_true (by omega)
              (try rw [show ((0 : Int)).toNat = 0 from rfl] at hx186_0)
              (try rw [Addr.add_zero'] at hx186_0)
              replace p186 := eq_true p186
              replace q186 := eq_true q186
              have p27 : 0 ≤ (0 : Int) := (by omega)
              have q27 : (0 : Int) < (((rd_L2 x172000_1 0).length : Int) : Int) := of_decide_eq_true q32_7
              have qi27 : (0 < (rd_L2 x172000_1 0).length) = True := eq_true (by omega)
              obtain ⟨go27, co27, eo27, gb27, gl27, cl27, HG27⟩ := Kd.R_form HL184_0.out (by omega)
              (first | cases eo27 | (injection eo27 with ea_ en_ ec_; (first | subst ea_ | (injection ea_ with ea_; subst ea_)); subst ec_; clear en_))
              have GB27 := Aside0.mk gb27
              have GG27 := Aside0.mk HG27
              clear gb27 gl27 HG27
              (first | simp only [add_plain] at hx186_0 | skip)
              obtain ⟨hx27_0, hf27_0⟩ := Kd.R_celln 0 HL184_0.out (0 : Int) p27 q27
              (try rw [show ((0 : Int)).toNat = 0 from rfl] at hx27_0)
              (try simp only [Nat.reduceMul, Nat.zero_mul, Nat.zero_add, Nat.reduceAdd] at hx27_0)
              (try rw [show ((0 : Int)).toNat = 0 from rfl] at hf27_0)
              (try simp only [Nat.reduceMul, Nat.zero_mul, Nat.zero_add, Nat.reduceAdd] at hf27_0)
              replace p27 := eq_true p27
              replace q27 := eq_true q27
              have hq31 : (0 : Int) < (x172000_1.length : Int) := (by have h_ : (0 : Int) < ((x172000_1.length : Int) : Int) := of_decide_eq_true q32_7; first | exact h_ | (have e_ := (Kd.S_reads' HO_172000.out).1; omega) | simpa only [List.length_set, List.length_set] using h_)
              obtain ⟨oki31, ce31, hcl31, hM31, hcc31, hok31, hbk31⟩ := Kd.S_borrow HO_172000.out [] (0 : Int) (by omega) hq31
              obtain ⟨ve31_0, rfl, ge31_0⟩ := hM31
              have hv31 := hcc31 0 _ rfl
              rw [Nat.add_zero, show ((Kd.slice 3 (Kd.int .i64))).sz = 1 from rfl, Nat.mul_one] at hv31
              replace hv31 := Option.some.inj (hv31.symm.trans HX184_0.out)
              subst hv31
              clear hcc31 hcl31
              replace ge31_0 := (show Kd.R (Kd.int .i64) 3 _ _ _ _ (rd_L2 x172000_1 0) from ge31_0)
              have HP31 := Kd.R_putg ge31_0 (0 : Int) (wrap64 ((rd (rd_L2 x172000_1 0) 0) + 1))
              have HN0_go27 := Aside0.mk (show g ≠ go27 from by have h_ := IsS66.own_ne HI0.out HL184_0.out (by decide); intro e_; exact h_ (by rw [e_]; rfl))
              rw [← Ny187.out] at HP31
              have HS31 := hbk31 HP31.2 (fun k_ e_ => by injection e_ with e_; subst e_; exact ge31_0.1 _ rfl) (x' := y187) (Kd.M_row HP31.1)
              rw [← Ny189.out] at HS31
              have HQ31 := Aside0.mk HS31
              clear HP31 HS31 hbk31 hok31
              refine start_ (n := 13) (S := fun w' => w'.cell? ⟨gb171, 0, none⟩ = some (.slice (some ad184) x172000_1.length co30) ∧ w'.cell? ad184 = some (.slice (some ⟨go27, 0, none⟩) (rd_L2 x172000_1 0).length c184_0) ∧ w'.cell? ad184 = some (.slice (some ⟨go27, 0, none⟩) (rd_L2 x172000_1 0).length c184_0) ∧ w'.cell? ⟨go27, 0, none⟩ = some (.int .i64 (rd (rd_L2 x172000_1 0) 0))) (ds := [12]) #[false, false, false, false, false, false, false, false, false, false, false, false, false] (by kernel_rfl) rfl rfl ⟨(blk_cell BK171.out 0).trans rfl, hx184_0, hx185_0, hx186_0⟩ (fun hHeld => ?_); refine with_tabW spec_l71Rough.tab8 spec_l71Rough.bits8 (fun HT_ HW_ => ?_)
              generalize w28.drew = w29 at HO_172000 BK167 BK171 HI0 HK HB GG27 HL184_0 HL185_0 HQ31 HR184_0 HR185_0 HX184_0 HX185_0 hf27_0 hx184_0 hx185_0 hx186_0 hx27_0 hHeld ⊢
              refine pure_ (i := 0) (N := some 25) (v := ?_) (a' := ?_) #[true, false, false, false, false, false, false, false, false, false, false, false, false] rfl rfl (any_of HT_.out (by kernel_rfl)) (fun _ _ _ h => h) (Or.inl ⟨by rfl, ?_⟩) ?_ ?_
              rotate_left
              · intro w'
                go_simp
                with_reducible rfl
              rotate_left
              · simp only [Act.put, List.setIfInBounds_toArray, List.set_cons_zero, List.set_cons_succ, i64_w, i32_w]
                rfl
              refine pure_ (i := 4) (N := some 29) (v := ?_) (a' := ?_) #[true, false, false, false, true, false, false, false, false, false, false, false, false] rfl rfl (any_of HT_.out (by kernel_rfl)) (fun _ _ _ h => h) (Or.inl ⟨by rfl, ?_⟩) ?_ ?_
              rotate_left
              · intro w'
                go_simp
                with_reducible rfl
              rotate_left
              · simp only [Act.put, List.setIfInBounds_toArray, List.set_cons_zero, List.set_cons_succ, i64_w, i32_w]
                rfl
              refine take_ (i := 1) (N := some 26) (v := ?_) (a' := ?_) #[true, true, false, false, true, false, false, false, false, false, false, false, false] rfl rfl (take_ofW HT_.out HW_.out (by kernel_rfl)) (fun _ _ _ h => h) (Or.inl ⟨by rfl, ?_⟩) hHeld ?_ ?_
              rotate_left
              · rintro w' ⟨s0, s1, s2, s3⟩
                go_simp
                with_reducible rfl
              rotate_left
              · simp only [Act.put, List.setIfInBounds_toArray, List.set_cons_zero, List.set_cons_succ, i64_w, i32_w]
                rfl
              refine pure_ (i := 2) (N := some 27) (v := ?_) (a' := ?_) #[true, true, true, false, true, false, false, false, false, false, false, false, false] rfl rfl (any_of HT_.out (by kernel_rfl)) (fun _ _ _ h => h) (Or.inl ⟨by rfl, ?_⟩) ?_ ?_
              rotate_left
              · intro w'
                go_simp
                with_reducible rfl
              rotate_left
              · simp only [Act.put, List.setIfInBounds_toArray, List.set_cons_zero, List.set_cons_succ, i64_w, i32_w]
                rfl
              refine take_ (i := 3) (N := some 28) (v := ?_) (a' := ?_) #[true, true, true, true, true, false, false, false, false, false, false, false, false] rfl rfl (take_ofW HT_.out HW_.out (by kernel_rfl)) (fun _ _ _ h => h) (Or.inl ⟨by rfl, ?_⟩) hHeld ?_ ?_
              rotate_left
              · rintro w' ⟨s0, s1, s2, s3⟩
                go_simp
                with_reducible rfl
              rotate_left
              · simp only [Act.put, List.setIfInBounds_toArray, List.set_cons_zero, List.set_cons_succ, i64_w, i32_w]
                rfl
              refine take_ (i := 5) (N := some 30) (v := ?_) (a' := ?_) #[true, true, true, true, true, true, false, false, false, false, false, false, false] rfl rfl (take_ofW HT_.out HW_.out (by kernel_rfl)) (fun _ _ _ h => h) (Or.inl ⟨by rfl, ?_⟩) hHeld ?_ ?_
              rotate_left
              · rintro w' ⟨s0, s1, s2, s3⟩
                go_simp
                with_reducible rfl
              rotate_left
              · simp only [Act.put, List.setIfInBounds_toArray, List.set_cons_zero, List.set_cons_succ, i64_w, i32_w]
                rfl
              refine pure_ (i := 6) (N := some 31) (v := ?_) (a' := ?_) #[true, true, true, true, true, true, true, false, false, false, false, false, false] rfl rfl (any_of HT_.out (by kernel_rfl)) (fun _ _ _ h => h) (Or.inl ⟨by rfl, ?_⟩) ?_ ?_
              rotate_left
              · intro w'
                go_simp
                with_reducible rfl
              rotate_left
              · simp only [Act.put, List.setIfInBounds_toArray, List.set_cons_zero, List.set_cons_succ, i64_w, i32_w]
                rfl
              refine take_ (i := 7) (N := some 32) (v := ?_) (a' := ?_) #[true, true, true, true, true, true, true, true, false, false, false, false, false] rfl rfl (take_ofW HT_.out HW_.out (by kernel_rfl)) (fun _ _ _ h => h) (Or.inl ⟨by rfl, ?_⟩) hHeld ?_ ?_
              rotate_left
              · rintro w' ⟨s0, s1, s2, s3⟩
                go_simp
                with_reducible rfl
              rotate_left
              · simp only [Act.put, List.setIfInBounds_toArray, List.set_cons_zero, List.set_cons_succ, i64_w, i32_w]
                rfl
              refine pure_ (i := 8) (N := some 33) (v := ?_) (a' := ?_) #[true, true, true, true, true, true, true, true, true, false, false, false, false] rfl rfl (any_of HT_.out (by kernel_rfl)) (fun _ _ _ h => h) (Or.inl ⟨by rfl, ?_⟩) ?_ ?_
              rotate_left
              · intro w'
                go_simp
                with_reducible rfl
              rotate_left
              · simp only [Act.put, List.setIfInBounds_toArray, List.set_cons_zero, List.set_cons_succ, i64_w, i32_w]
                rfl
              refine take_ (i := 9) (N := some 34) (v := ?_) (a' := ?_) #[true, true, true, true, true, true, true, true, true, true, false, false, false] rfl rfl (take_ofW HT_.out HW_.out (by kernel_rfl)) (fun _ _ _ h => h) (Or.inl ⟨by rfl, ?_⟩) hHeld ?_ ?_
              rotate_left
              · rintro w' ⟨s0, s1, s2, s3⟩
                go_simp
                with_reducible rfl
              rotate_left
              · simp only [Act.put, List.setIfInBounds_toArray, List.set_cons_zero, List.set_cons_succ, i64_w, i32_w]
                rfl
              refine pure_ (i := 10) (N := some 35) (v := ?_) (a' := ?_) #[true, true, true, true, true, true, true, true, true, true, true, false, false] rfl rfl (any_of HT_.out (by kernel_rfl)) (fun _ _ _ h => h) (Or.inl ⟨by rfl, ?_⟩) ?_ ?_
              rotate_left
              · intro w'
                go_simp
                with_reducible rfl
              rotate_left
              · simp only [Act.put, List.setIfInBounds_toArray, List.set_cons_zero, List.set_cons_succ, i64_w, i32_w]
                rfl
              refine pure_ (i := 11) (N := some 36) (v := ?_) (a' := ?_) #[true, true, true, true, true, true, true, true, true, true, true, true, false] rfl rfl (any_of HT_.out (by kernel_rfl)) (fun _ _ _ h => h) (Or.inl ⟨by rfl, ?_⟩) ?_ ?_
              rotate_left
              · intro w'
                go_simp
                with_reducible rfl
              rotate_left
              · simp only [Act.put, List.setIfInBounds_toArray, List.set_cons_zero, List.set_cons_succ, i64_w, i32_w]
                rfl
              refine last_ (i := 12) (N := none) #[true, true, true, true, true, true, true, true, true, true, true, true, true] rfl rfl (one_of HT_.out (by kernel_rfl)) (by decide) (fun K hK => ?_)
              refine skip_ (w1 := ?_) (by rfl) rfl ?_ ?_
              rotate_left
              · go_simp
                rfl
              refine hK.out _ _ ?_
              clear hK K
              refine done_ (done_of HT_.out (by kernel_rfl)) ?_
              have n0_ : Aside0 (Kd.S (Kd.slice 3 (Kd.int .i64)) 43 (w29.setCell ⟨go27, 0, none⟩ (.int .i64 (wrap64 ((rd (rd_L2 x172000_1 0) 0) + 1)))) w.heap.size (fun _ => True) (.slice (some ad184) x172000_1.length co30) y189) := ⟨by (with_reducible repeat (first | apply Kd.S_alloc | apply Kd.S_drewN | apply Kd.S_drew)); exact HQ31.out⟩
              have n1_ : Aside0 ((w29.setCell ⟨go27, 0, none⟩ (.int .i64 (wrap64 ((rd (rd_L2 x172000_1 0) 0) + 1)))).heap[gb167]? = some (.cells #[.slice none 0 0] 25 (0, 0))) := ⟨by (with_reducible repeat (first | refine blk_drewN ?_ _ | refine blk_drew ?_ | refine blk_alloc ?_ _)); refine blk_far ?_ (by have h_ := Kd.R_ne HL184_0.out BK167.out (by decide); intro e_; exact h_ (by rw [e_]; rfl)) _; (with_reducible repeat (first | refine blk_drewN ?_ _ | refine blk_drew ?_ | refine blk_alloc ?_ _)); exact BK167.out⟩
              have n2_ : Aside0 ((w29.setCell ⟨go27, 0, none⟩ (.int .i64 (wrap64 ((rd (rd_L2 x172000_1 0) 0) + 1)))).heap[gb171]? = some (.cells #[.slice (some ad184) x172000_1.length co30] 25 (0, 0))) := ⟨by (with_reducible repeat (first | refine blk_drewN ?_ _ | refine blk_drew ?_ | refine blk_alloc ?_ _)); refine blk_far ?_ (by have h_ := Kd.R_ne HL184_0.out BK171.out (by decide); intro e_; exact h_ (by rw [e_]; rfl)) _; (with_reducible repeat (first | refine blk_drewN ?_ _ | refine blk_drew ?_ | refine blk_alloc ?_ _)); exact BK171.out⟩
              have n3_ : Aside0 (IsS66 w0 (w29.setCell ⟨go27, 0, none⟩ (.int .i64 (wrap64 ((rd (rd_L2 x172000_1 0) 0) + 1)))) g s0_0 t183) := ⟨by repeat (first | (with_reducible first | exact HI0.out | apply IsS66.alloc | apply IsS66.drewN | apply IsS66.drew | apply IsS66.set_1 | refine IsS66.far ?_ HN0_go27.out _ | refine IsS66.far ?_ NB0_167.out _ | refine IsS66.far ?_ NB0_171.out _) | exact HI0.out)⟩
              have n4_ : Aside0 (KeepBut w (w29.setCell ⟨go27, 0, none⟩ (.int .i64 (wrap64 ((rd (rd_L2 x172000_1 0) 0) + 1)))) g none) := ⟨by repeat (first | (with_reducible first | exact HK.out | apply KeepBut.set_ | apply keep_drewN | apply keep_drew | apply keep_alloc | refine keep_far ?_ GB27.out _ | refine keep_far ?_ GW167.out _ | refine keep_far ?_ GW171.out _) | exact HK.out)⟩
              have n5_ : Aside0 (Below w0.heap.size w0 (w29.setCell ⟨go27, 0, none⟩ (.int .i64 (wrap64 ((rd (rd_L2 x172000_1 0) 0) + 1))))) := ⟨by repeat (first | (with_reducible first | exact HB.out | apply below_alloc | apply pw_below_drewN | apply below_drew1 | refine below_set ?_ (Nat.le_trans HL.out GB27.out) | refine below_set ?_ (IsS66.ge HI0.out) | refine below_set ?_ GE167.out | refine below_set ?_ GE171.out) | exact HB.out)⟩
              (try clear HO_172000)
              (try clear BK167)
              (try clear BK171)
              (try clear HI0)
              (try clear HK)
              (try clear HB)
              generalize (w29.setCell ⟨go27, 0, none⟩ (.int .i64 (wrap64 ((rd (rd_L2 x172000_1 0) 0) + 1)))) = w33 at n0_ n1_ n2_ n3_ n4_ n5_ ⊢
              have HO_172000 := n0_
              have BK167 := n1_
              have BK171 := n2_
              have HI0 := n3_
              have HK := n4_
              have HB := n5_
              clear n0_ n1_ n2_ n3_ n4_ n5_
              have hnb34 := NB171_167.out
              have hnc34 := NB167_171.out
              have hnb35 := NB171_0.out
              have hnc35 := NB0_171.out
              have hcz36_0 : w33.cell? ⟨gb171, 0, none⟩ = some (.slice (some ad184) x172000_1.length co30) := (blk_cell BK171.out 0).trans rfl
              have hfz36_0 := blk_frozen BK171.out 0
              have hnb37 := NB167_0.out
              have hnc37 := NB0_167.out
              have hcz38_0 : w33.cell? ⟨gb167, 0, none⟩ = some (.slice none 0 0) := (blk_cell BK167.out 0).trans rfl
              have hfz38_0 := blk_frozen BK167.out 0
              try go_wp2
              refine bodyPost_ret (results_cell_row rfl _ _ gb167 25 #[.slice (some ad184) x172000_1.length co30] (0, 0) _ rfl q32_10 Try.underlying25 rfl (by kernel_rfl)) rfl ?_
              exact ⟨_, q32_12, Kd.Q_of_R ((Kd.S_R (by (with_reducible repeat (first | apply Kd.S_alloc | apply Kd.S_drewN | apply Kd.S_drew)); exact Kd.S_mono (Kd.S_far (p := ⟨gb167, 0, none⟩) (Kd.S_types HO_172000.out BK167.out (by decide)) (fun _ hk => hk.2) (.slice (some ad184) x172000_1.length co30)) (fun _ hk => trivial)))), q32_0, q32_2, q32_1⟩
            · rw [if_neg c26] at H
              exact absurd H (by simp)
          · rw [if_neg c25] at H
            exact absurd H (by simp)
        · rw [if_neg c24] at H
          have c24b0 : (t182 == 0) = false := beq_eq_false_iff_ne.mpr c24
          have c24b1 : (t182 != 0) = true := bne_iff_ne.mpr c24
          by_cases c39 : t182 = 1
          · rw [if_pos c39] at H
            have c39b0 : (t182 == 1) = true := beq_iff_eq.mpr c39
            have c39b1 : (t182 != 1) = false := bne_eq_false_iff_eq.mpr c39
            clear c39
            by_cases c40 : 1 ≤ (x172000_1.length : Int)
            · rw [if_pos c40] at H
              have c40b0 := eq_true c40
              have c40b1 : decide (1 ≤ (x172000_1.length : Int)) = true := decide_eq_true c40
              clear c40
              obtain ⟨y190, hy190⟩ : ∃ y_ : List (List Int), y_ = (x172000_1.drop (1 : Int).toNat) := ⟨_, rfl⟩
              replace H : (some (y190, t183)) = some (r1, r2) := by first | (rw [hy190]; with_reducible exact H) | (have H2_ := (Option.bind_some _ _).symm.trans H; rw [hy190]; with_reducible exact H2_) | (have H2_ := (Option.bind_some _ _).symm.trans H; with_reducible exact H2_) | with_reducible exact H | (rw [hy190]; exact H) | exact H
              have Ny190 := Aside0.mk hy190
              clear hy190
              simp only [Option.some.injEq, Prod.mk.injEq] at H
              obtain ⟨rfl, rfl⟩ := H
              go_wp2_with (first | ((with_reducible refine gate_callee (f := 43) rfl ?_); refine goesL_ (some 22) rfl rfl Try.func43 (by kernel_rfl) rfl #[.pointer (some ⟨g, 0, none⟩), .int .i64 24] rfl q32_3 ?_; (with_reducible refine (spec_l6Rd_pick.calls k1 g s0_0 x1001_1 24 t182 t183 w0 _ ?side1 ?side2 A23.out).mono ?_); (case side1 => exact q32_0); (case side2 => exact q32_2); rintro e w41 ⟨rfl, hi, hb, hk⟩; refine ⟨_, rfl, ?_⟩; have n0_ := Aside0.mk (Kd.S_mono (Kd.S_keep (IsS66.apartS (show IsS66 w0 _ g s0_0 x1001_1 from q32_0) q32_5 (by decide)) hk (fun _ h => h.2)) (fun _ h => h.1)); have n1_ := Aside0.mk (KeepBut.blk hk (g' := gb167) (o := .cells #[.slice none 0 0] 25 (0, 0)) q32_4 NB167_0.out (by simp)); have n2_ := Aside0.mk (KeepBut.blk hk (g' := gb171) (o := .cells #[u172000] 25 (0, 0)) q32_6 NB171_0.out (by simp)); have n3_ := Aside0.mk (KeepBut.trans q32_1 hk (.inl rfl)); have n4_ := Aside0.mk (hb); have n5_ := Aside0.mk (hi); clear HO_172000; clear BK167; clear BK171; clear HK; clear HB; clear HI0; have HO_172000 := n0_; have BK167 := n1_; have BK171 := n2_; have HK := n3_; have HB := n4_; have HI0 := n5_; clear n0_ n1_ n2_ n3_ n4_ n5_; (try clear hb); (try clear hb2); (try clear hk); (try clear hi); have hnb42 := NB171_167.out; have hnc42 := NB167_171.out; have hnb43 := NB171_0.out; have hnc43 := NB0_171.out; have hcz44_0 : w41.cell? ⟨gb171, 0, none⟩ = some (u172000) := (blk_cell BK171.out 0).trans rfl; have hfz44_0 := blk_frozen BK171.out 0; obtain ⟨Ao45, co45, eo45⟩ := Kd.S_slice HO_172000.out; subst eo45; have q46 : (1 : Int) ≤ ((x172000_1.length : Int) : Int) := of_decide_eq_true q32_7; obtain ⟨i046, hi046, _, hsz46, _⟩ := info_parts info43; have hcut46 := cut_from (P := Try.prog) 23 43 .i64 Try.underlying23 hi046 1 hsz46 Ao45 x172000_1.length co45 1 (by omega) q46; have hr46 := Kd.Q_drop (k := (1 : Int).toNat) (Kd.Q_of_R (Kd.S_R HO_172000.out)) (by omega); obtain ⟨A46, hA46⟩ : ∃ A1, A1 = (if co45 = (1 : Int).toNat then Ao45 else (Ao45 : Option Addr).map (·.add ((1 : Int).toNat * 1))) := ⟨_, rfl⟩; obtain ⟨c46, hc46⟩ : ∃ c1, c1 = co45 - (1 : Int).toNat := ⟨_, rfl⟩; have hy46 : y190.length = x172000_1.length - (1 : Int).toNat := (by rw [Ny190.out, List.length_drop]); rw [← Ny190.out] at hr46; rw [← hy46, ← hA46, ← hc46] at hcut46; replace hr46 : Kd.Q (Kd.slice 3 (Kd.int .i64)) 43 w41 w.heap.size (fun _ => True) (.slice A46 y190.length c46) y190 := (by rw [hA46, hc46, hy46]; exact hr46); have HE46 : Aside0 ((Value.slice A46 y190.length c46).ownBlock = (.slice Ao45 x172000_1.length co45 : Value).ownBlock) := ⟨by rw [hA46]; split <;> (cases (Ao45 : Option Addr) <;> rfl)⟩; clear hy46 hi046 hsz46 HO_172000 hA46 hc46; have HO192 := Aside0.mk hr46; clear hr46; replace q46 := eq_true q46; have hnb47 := NB167_0.out; have hnc47 := NB0_167.out; have hcz48_0 : w41.cell? ⟨gb167, 0, none⟩ = some (.slice none 0 0) := (blk_cell BK167.out 0).trans rfl; have hfz48_0 := blk_frozen BK167.out 0))
              refine bodyPost_ret (results_cell_row rfl _ _ gb167 25 #[.slice A46 y190.length c46] (0, 0) _ rfl q32_11 Try.underlying25 rfl (by kernel_rfl)) rfl ?_
              exact ⟨_, q32_12, by (with_reducible repeat (first | apply Kd.Q_alloc | apply Kd.Q_drewN | apply Kd.Q_drew)); exact Kd.Q_mono (Kd.Q_far (p := ⟨gb167, 0, none⟩) (Kd.Q_far (p := ⟨gb171, 0, none⟩) (Kd.Q_types (Kd.Q_types HO192.out BK171.out (by decide)) BK167.out (by decide)) (fun _ hk => hk.1.2) (.slice A46 y190.length c46)) (fun _ hk => hk.2) (.slice A46 y190.length c46)) (fun _ hk => trivial), q32_0, q32_2, q32_1⟩
            · rw [if_neg c40] at H
              exact absurd H (by simp)
          · rw [if_neg c39] at H
            have c39b0 : (t182 == 1) = false := beq_eq_false_iff_ne.mpr c39
            have c39b1 : (t182 != 1) = true := bne_iff_ne.mpr c39
            by_cases c49 : t182 = 2
            · rw [if_pos c49] at H
              have c49b0 : (t182 == 2) = true := beq_iff_eq.mpr c49
              have c49b1 : (t182 != 2) = false := bne_eq_false_iff_eq.mpr c49
              clear c49
              by_cases c50 : 1 < (x172000_1.length : Int)
              · rw [if_pos c50] at H
                have c50b0 : decide (1 < (x172000_1.length : Int)) = true := decide_eq_true c50
                have c50b1 : decide (1 < x172000_1.length) = true := decide_eq_true (by omega)
                clear c50
                by_cases c51 : (rd_L2 x172000_1 1).length < 17592186044416
                · rw [if_pos c51] at H
                  have LMc51 := Aside0.mk c51
                  clear c51
                  obtain ⟨y194, hy194⟩ : ∃ y_ : List Int, y_ = ((rd_L2 x172000_1 1) ++ [0]) := ⟨_, rfl⟩
                  replace H : (some ((x172000_1.set (1 : Int).toNat y194), t183)) = some (r1, r2) := by first | (rw [hy194]; with_reducible exact H) | (have H2_ := (Option.bind_some _ _).symm.trans H; rw [hy194]; with_reducible exact H2_) | (have H2_ := (Option.bind_some _ _).symm.trans H; with_reducible exact H2_) | with_reducible exact H | (rw [hy194]; exact H) | exact H
                  have Ny194 := Aside0.mk hy194
                  clear hy194
                  obtain ⟨y197, hy197⟩ : ∃ y_ : List (List Int), y_ = (x172000_1.set (1 : Int).toNat y194) := ⟨_, rfl⟩
                  replace H : (some (y197, t183)) = some (r1, r2) := by first | (rw [hy197]; with_reducible exact H) | (have H2_ := (Option.bind_some _ _).symm.trans H; rw [hy197]; with_reducible exact H2_) | (have H2_ := (Option.bind_some _ _).symm.trans H; with_reducible exact H2_) | with_reducible exact H | (rw [hy197]; exact H) | exact H
                  have Ny197 := Aside0.mk hy197
                  clear hy197
                  simp only [Option.some.injEq, Prod.mk.injEq] at H
                  obtain ⟨rfl, rfl⟩ := H
                  try go_wp2_with (first | ((with_reducible refine gate_callee (f := 43) rfl ?_); refine goesL_ (some 22) rfl rfl Try.func43 (by kernel_rfl) rfl #[.pointer (some ⟨g, 0, none⟩), .int .i64 24] rfl q32_3 ?_; (with_reducible refine (spec_l6Rd_pick.calls k1 g s0_0 x1001_1 24 t182 t183 w0 _ ?side1 ?side2 A23.out).mono ?_); (case side1 => exact q32_0); (case side2 => exact q32_2); rintro e w53 ⟨rfl, hi, hb, hk⟩; refine ⟨_, rfl, ?_⟩; have n0_ := Aside0.mk (Kd.S_mono (Kd.S_keep (IsS66.apartS (show IsS66 w0 _ g s0_0 x1001_1 from q32_0) q32_5 (by decide)) hk (fun _ h => h.2)) (fun _ h => h.1)); have n1_ := Aside0.mk (KeepBut.blk hk (g' := gb167) (o := .cells #[.slice none 0 0] 25 (0, 0)) q32_4 NB167_0.out (by simp)); have n2_ := Aside0.mk (KeepBut.blk hk (g' := gb171) (o := .cells #[u172000] 25 (0, 0)) q32_6 NB171_0.out (by simp)); have n3_ := Aside0.mk (KeepBut.trans q32_1 hk (.inl rfl)); have n4_ := Aside0.mk (hb); have n5_ := Aside0.mk (hi); clear HO_172000; clear BK167; clear BK171; clear HK; clear HB; clear HI0; have HO_172000 := n0_; have BK167 := n1_; have BK171 := n2_; have HK := n3_; have HB := n4_; have HI0 := n5_; clear n0_ n1_ n2_ n3_ n4_ n5_; (try clear hb); (try clear hb2); (try clear hk); (try clear hi)))
                  have n0_ := Aside0.mk (Kd.S_drew HO_172000.out)
                  have n1_ := Aside0.mk (blk_drew BK167.out)
                  have n2_ := Aside0.mk (blk_drew BK171.out)
                  have n3_ := Aside0.mk (IsS66.drew HI0.out)
                  have n4_ := Aside0.mk (keep_drew HK.out)
                  have n5_ := Aside0.mk (below_drew1 HB.out)
                  clear HO_172000
                  clear BK167
                  clear BK171
                  clear HI0
                  clear HK
                  clear HB
                  have HO_172000 := n0_
                  have BK167 := n1_
                  have BK171 := n2_
                  have HI0 := n3_
                  have HK := n4_
                  have HB := n5_
                  clear n0_ n1_ n2_ n3_ n4_ n5_
                  obtain ⟨Ao55, co55, eo55⟩ := Kd.S_slice HO_172000.out
                  (first | subst eo55 | (injection eo55 with f1_ f2_ f3_; have f4_ := f1_.symm; have f5_ := f3_.symm; clear f1_ f2_ f3_; subst f4_; subst f5_))
                  have p193 : 0 ≤ (1 : Int) := (by omega)
                  have q193 : 1 < (x172000_1.length : Int) := of_decide_eq_true q32_7
                  obtain ⟨ad193, A193_0, c193_0, e193, hx193_0, hl193_0, hi193_0⟩ := at_L2 (Kd.S_reads' HO_172000.out).2.2 1 p193 q193
                  cases e193
                  obtain ⟨ce193, hce193, hMe193, hcc193⟩ := Kd.S_get HO_172000.out [] 1 p193 (by first | exact q193 | exact of_decide_eq_true q32_7 | (have e_ := (Kd.S_reads' HO_172000.out).1; omega))
                  obtain ⟨ve193_0, rfl, ge193_0⟩ := hMe193
                  have hv193_0 := hcc193 0 _ rfl
                  rw [Nat.add_zero, show ((Kd.slice 3 (Kd.int .i64))).sz = 1 from rfl, Nat.mul_one] at hv193_0
                  replace hv193_0 := Option.some.inj (hv193_0.symm.trans hx193_0)
                  rw [hv193_0] at ge193_0
                  have HL193_0 := Aside0.mk (show Kd.R (Kd.int .i64) 3 _ _ _ _ (rd_L2 x172000_1 1) from ge193_0)
                  clear hv193_0 ge193_0
                  have HX193_0 := Aside0.mk hx193_0
                  clear hcc193 hce193
                  (try simp only [show (1 : Int).toNat = 1 from rfl, Nat.reduceMul, Nat.reduceEqDiff, Go.Addr.add, ↓reduceIte] at hx193_0)
                  have qi193 : (1 < x172000_1.length) = True := eq_true (by omega)
                  (try rw [show ((1 : Int)).toNat = 1 from rfl] at hx193_0)
                  have HR193_0 := Aside0.mk hi193_0
                  have HC193_0 := Aside0.mk hl193_0
                  clear hi193_0 hl193_0
                  replace p193 := eq_true p193
                  replace q193 := eq_true q193
                  obtain ⟨go56, co56, eo56, gb56, gl56, cl56, HG56⟩ := Kd.S_form HO_172000.out (by have h_ : (1 : Int) < ((x172000_1.length : Int) : Int) := of_decide_eq_true q32_7; have h2_ : 0 ≤ (1 : Int) := (by omega); omega)
                  (first | cases eo56 | (injection eo56 with ea_ en_ ec_; (first | subst ea_ | (injection ea_ with ea_; subst ea_)); subst ec_; clear en_))
                  have GB56 := Aside0.mk gb56
                  have GG56 := Aside0.mk HG56
                  clear gb56 gl56 HG56
                  (first | simp only [add_plain] at hx193_0 | skip)
                  obtain ⟨oki56, ce56, hcl56, hM56, hcc56, _, _, hH56⟩ := Kd.S_elem HO_172000.out [] (1 : Int) (by omega) (by have h_ : (1 : Int) < ((x172000_1.length : Int) : Int) := of_decide_eq_true q32_7; first | exact h_ | (have e_ := (Kd.S_reads' HO_172000.out).1; omega) | simpa using h_)
                  obtain ⟨ve56_0, rfl, ge56_0⟩ := hM56
                  have hv56 := hcc56 0 _ rfl
                  have hX56 := HX193_0.out
                  (try simp only [add_plain] at hX56)
                  (try simp only [Nat.add_zero] at hv56)
                  (try rw [show ((Kd.slice 3 (Kd.int .i64))).sz = 1 from rfl, Nat.mul_one] at hv56)
                  replace hv56 := Option.some.inj (hv56.symm.trans hX56)
                  subst hv56
                  clear hX56 hcc56 hcl56
                  have UU56 := Aside0.mk (show Kd.R (Kd.int .i64) 3 _ w.heap.size oki56 (.slice A193_0 (rd_L2 x172000_1 1).length c193_0) (rd_L2 x172000_1 1) from ge56_0)
                  have HH56 := Aside0.mk hH56
                  have HN56 := Aside0.mk (Kd.S_reads' HO_172000.out).1
                  clear hH56 ge56_0
                  refine start_ (n := 10) (S := fun w' => w'.cell? ⟨gb171, 0, none⟩ = some (.slice (some ⟨go56, 0, none⟩) x172000_1.length co55) ∧ w'.cell? ⟨go56, 1, none⟩ = some (.slice A193_0 (rd_L2 x172000_1 1).length c193_0)) (ds := [9]) #[false, false, false, false, false, false, false, false, false, false] (by kernel_rfl) rfl rfl ⟨(blk_cell BK171.out 0).trans rfl, hx193_0⟩ (fun hHeld => ?_); refine with_tabW spec_l71Rough.tab12 spec_l71Rough.bits12 (fun HT_ HW_ => ?_)
                  generalize w53.drew = w54 at HO_172000 BK167 BK171 HI0 HK HB GG56 HH56 HL193_0 HR193_0 HX193_0 UU56 hx193_0 hHeld ⊢
                  refine pure_ (i := 0) (N := some 45) (v := ?_) (a' := ?_) #[true, false, false, false, false, false, false, false, false, false] rfl rfl (any_of HT_.out (by kernel_rfl)) (fun _ _ _ h => h) (Or.inl ⟨by rfl, ?_⟩) ?_ ?_
                  rotate_left
                  · intro w'
                    go_simp
                    with_reducible rfl
                  rotate_left
                  · simp only [Act.put, List.setIfInBounds_toArray, List.set_cons_zero, List.set_cons_succ, i64_w, i32_w]
                    rfl
                  refine pure_ (i := 2) (N := some 47) (v := ?_) (a' := ?_) #[true, false, true, false, false, false, false, false, false, false] rfl rfl (any_of HT_.out (by kernel_rfl)) (fun _ _ _ h => h) (Or.inl ⟨by rfl, ?_⟩) ?_ ?_
                  rotate_left
                  · intro w'
                    go_simp
                    with_reducible rfl
                  rotate_left
                  · simp only [Act.put, List.setIfInBounds_toArray, List.set_cons_zero, List.set_cons_succ, i64_w, i32_w]
                    rfl
                  refine take_ (i := 1) (N := some 46) (v := ?_) (a' := ?_) #[true, true, true, false, false, false, false, false, false, false] rfl rfl (take_ofW HT_.out HW_.out (by kernel_rfl)) (fun _ _ _ h => h) (Or.inl ⟨by rfl, ?_⟩) hHeld ?_ ?_
                  rotate_left
                  · rintro w' ⟨s0, s1⟩
                    go_simp
                    with_reducible rfl
                  rotate_left
                  · simp only [Act.put, List.setIfInBounds_toArray, List.set_cons_zero, List.set_cons_succ, i64_w, i32_w]
                    rfl
                  refine take_ (i := 3) (N := some 48) (v := ?_) (a' := ?_) #[true, true, true, true, false, false, false, false, false, false] rfl rfl (take_ofW HT_.out HW_.out (by kernel_rfl)) (fun _ _ _ h => h) (Or.inl ⟨by rfl, ?_⟩) hHeld ?_ ?_
                  rotate_left
                  · rintro w' ⟨s0, s1⟩
                    go_simp
                    with_reducible rfl
                  rotate_left
                  · simp only [Act.put, List.setIfInBounds_toArray, List.set_cons_zero, List.set_cons_succ, i64_w, i32_w]
                    rfl
                  refine pure_ (i := 4) (N := some 49) (v := ?_) (a' := ?_) #[true, true, true, true, true, false, false, false, false, false] rfl rfl (any_of HT_.out (by kernel_rfl)) (fun _ _ _ h => h) (Or.inl ⟨by rfl, ?_⟩) ?_ ?_
                  rotate_left
                  · intro w'
                    go_simp
                    with_reducible rfl
                  rotate_left
                  · simp only [Act.put, List.setIfInBounds_toArray, List.set_cons_zero, List.set_cons_succ, i64_w, i32_w]
                    rfl
                  refine take_ (i := 5) (N := some 50) (v := ?_) (a' := ?_) #[true, true, true, true, true, true, false, false, false, false] rfl rfl (take_ofW HT_.out HW_.out (by kernel_rfl)) (fun _ _ _ h => h) (Or.inl ⟨by rfl, ?_⟩) hHeld ?_ ?_
                  rotate_left
                  · rintro w' ⟨s0, s1⟩
                    go_simp
                    with_reducible rfl
                  rotate_left
                  · simp only [Act.put, List.setIfInBounds_toArray, List.set_cons_zero, List.set_cons_succ, i64_w, i32_w]
                    rfl
                  refine one_ (i := 6) (N := some 51) #[true, true, true, true, true, true, true, false, false, false] rfl rfl (one_of HT_.out (by kernel_rfl)) (by decide) (fun K hK => ?_)
                  refine value_ (w1 := ?_) (v := ?_) (by rfl) rfl ?_ ?_
                  rotate_left 2
                  · go_simp
                    constructor
                    · rfl
                    · rfl
                  refine hK.out _ _ ⟨(blk_cell (blk_alloc BK171.out _) 0).trans rfl, (World.cell?_alloc_lt _ _ _ (World.block_lt_of_cell? _ _ (hHeld.2))).trans (hHeld.2)⟩ (fun hHeld => ?_)
                  clear hK K
                  refine norm_ (a' := ?_) ?_ ?_
                  rotate_left
                  · show Act.put _ (some 51) _ = _
                    simp only [Act.put, List.setIfInBounds_toArray, List.set_cons_zero, List.set_cons_succ, i64_w, i32_w]
                    rfl
                  refine one_ (i := 7) (N := some 52) #[true, true, true, true, true, true, true, true, false, false] rfl rfl (one_of HT_.out (by kernel_rfl)) (by decide) (fun K hK => ?_)
                  refine Kd.R_append_step (Kd.int .i64) w.heap.size (by rfl) (.tmp 50) (.tmp 51) 43 3 (.int .i64 0) 8 rfl Try.underlying43 info3 rfl (by decide) (by omega) (.slice A193_0 (rd_L2 x172000_1 1).length c193_0) (rd_L2 x172000_1 1) 0 [.int .i64 0] (fun k_ => oki56 k_ ∨ ((fun _ => True)) k_ ∧ w54.heap.size ≤ k_) (fun _ => False) rfl rfl ?aP (fun _ hk => hk.elim) ?aF ?aO (Below.refl _ _) ?aS ?aL ?_
                  (case aP => exact rfl)
                  (case aF => exact (fun k_ hk => .inr ⟨trivial, hk⟩))
                  (case aO => exact (by (with_reducible repeat (first | apply Kd.R_alloc | apply Kd.R_drewN | apply Kd.R_drew)); exact Kd.R_mono UU56.out (fun _ hk => .inl hk)))
                  (case aS => exact (keep_size (w := w) (g := g) (row := none) q32_1))
                  (case aL => have := LMc51.out; omega)
                  intro v195 w57 ho hb hg hat
                  (first | have HS1_ := cell_grown hg (hHeld.2) q32_15 | have HS1_ := cell_grown hg (cell_unalloc (hHeld.2) (by first | (rw [add_block]; exact Kd.S_lt HO_172000.out _ rfl) | (show (Addr.add _ _).block < _; rw [add_block]; exact Kd.S_lt HO_172000.out _ rfl) | exact Kd.S_lt HO_172000.out _ rfl)) q32_15)
                  rw [← Ny194.out] at ho
                  have n0_ := Aside0.mk (blk_grown (g := gb167) (o := .cells #[.slice none 0 0] 25 (0, 0)) q32_4 hg (Kd.R_ne HL193_0.out BK167.out (by decide)))
                  have n1_ := Aside0.mk (blk_grown (g := gb171) (o := .cells #[.slice (some ⟨go56, 0, none⟩) x172000_1.length co55] 25 (0, 0)) q32_6 hg (Kd.R_ne HL193_0.out BK171.out (by decide)))
                  have n2_ := Aside0.mk (IsS66.grown q32_0 hg (IsS66.own_ne HI0.out HL193_0.out (by decide)))
                  have n3_ := Aside0.mk (below_weaken q32_2 HL.out hb)
                  have n4_ := Aside0.mk (KeepBut.trans q32_1 (KeepBut.of_grown hg g) (Kd.R_base2 HL193_0.out))
                  have n5_ := Aside0.mk (Kd.H_grown (Kd.H_widen (by repeat (first | exact HH56.out | refine Kd.H_alloc ?_ _ | refine Kd.H_drewN ?_ _ | refine Kd.H_drew ?_))) hg (fun k_ e_ => .inl (UU56.out.1 k_ e_)))
                  have n6_ := Aside0.mk (ho)
                  clear BK167
                  clear BK171
                  clear HI0
                  clear HB
                  clear HK
                  clear HH56
                  clear HO_172000
                  clear UU56
                  clear HL193_0
                  have BK167 := n0_
                  have BK171 := n1_
                  have HI0 := n2_
                  have HB := n3_
                  have HK := n4_
                  have HH56 := n5_
                  have HO196 := n6_
                  clear n0_ n1_ n2_ n3_ n4_ n5_ n6_
                  clear ho hb hg hat
                  have p52 : 0 ≤ (1 : Int) := (by omega)
                  have q52 : (1 : Int) < ((x172000_1.length : Int) : Int) := of_decide_eq_true q32_7
                  replace p52 := eq_true p52
                  replace q52 := eq_true q52
                  obtain ⟨Ao60, co60, eo60⟩ := Kd.R_slice HO196.out
                  (first | subst eo60 | (injection eo60 with f1_ f2_ f3_; have f4_ := f1_.symm; have f5_ := f3_.symm; clear f1_ f2_ f3_; subst f4_; subst f5_))
                  obtain ⟨_, _, hraw58, _, _, hcc58, _⟩ := Kd.H_raw HH56.out (by omega) (by have h_ : (1 : Int) < ((x172000_1.length : Int) : Int) := of_decide_eq_true q32_7; first | exact h_ | (have e_ := (HN56.out); omega) | simpa using h_)
                  obtain ⟨_, hfr58⟩ := Kd.H_at HH56.out (by omega) (by have h_ : (1 : Int) < ((x172000_1.length : Int) : Int) := of_decide_eq_true q32_7; first | exact h_ | (have e_ := (HN56.out); omega) | simpa using h_)
                  have hx58_0 := hcc58 0 _ rfl
                  have hf58_0 := hfr58 0
                  (try simp only [Nat.add_zero] at hx58_0 hf58_0)
                  (try rw [show ((Kd.slice 3 (Kd.int .i64))).sz = 1 from rfl, Nat.mul_one] at hx58_0)
                  (try rw [show ((Kd.slice 3 (Kd.int .i64))).sz = 1 from rfl, Nat.mul_one] at hf58_0)
                  (try rw [show ((1 : Int)).toNat = 1 from rfl] at hx58_0)
                  (try simp only [Nat.reduceMul, Nat.zero_mul, Nat.zero_add, Nat.reduceAdd] at hx58_0)
                  (try rw [show ((1 : Int)).toNat = 1 from rfl] at hf58_0)
                  (try simp only [Nat.reduceMul, Nat.zero_mul, Nat.zero_add, Nat.reduceAdd] at hf58_0)
                  have HP58 := Kd.S_seg0 HH56.out (by omega) (by have h_ : (1 : Int) < ((x172000_1.length : Int) : Int) := of_decide_eq_true q32_7; first | exact h_ | (have e_ := (HN56.out); omega) | simpa using h_) (seg := [.slice Ao60 y194.length co60]) (j := 0) (show 1 ≤ 1 from by decide) (x' := y194) (Kd.M_row HO196.out) (fun _ hk => hk)
                  (try simp only [show ((Kd.slice 3 (Kd.int .i64))).sz = 1 from rfl, Nat.mul_one, Nat.add_zero] at HP58)
                  clear hcc58 hfr58
                  have HN0_go56 := Aside0.mk (show g ≠ go56 from by have h_ := IsS66.own_ne HI0.out hraw58 (by decide); intro e_; exact h_ (by rw [e_]; rfl))
                  have HNB167_go56 := Aside0.mk (show gb167 ≠ go56 from by have h_ := Kd.R_ne hraw58 BK167.out (by decide); intro e_; exact h_ (by rw [e_]; rfl))
                  have HNB171_go56 := Aside0.mk (show gb171 ≠ go56 from by have h_ := Kd.R_ne hraw58 BK171.out (by decide); intro e_; exact h_ (by rw [e_]; rfl))
                  have HS58 := HP58.1
                  rw [← Ny197.out] at HS58
                  have HQ58 := Aside0.mk HS58
                  obtain ⟨_, hgg58⟩ := Kd.R_typed hraw58 go56 rfl
                  have GG58_ := Aside0.mk hgg58
                  clear HP58 HS58 hgg58
                  refine hK.out _ _ ⟨(blk_cell BK171.out 0).trans rfl, HS1_⟩ (fun hHeld => ?_)
                  clear hK K
                  refine norm_ (a' := ?_) ?_ ?_
                  rotate_left
                  · show Act.put _ (some 52) _ = _
                    simp only [Act.put, List.setIfInBounds_toArray, List.set_cons_zero, List.set_cons_succ, i64_w, i32_w]
                    rfl
                  refine pure_ (i := 8) (N := some 53) (v := ?_) (a' := ?_) #[true, true, true, true, true, true, true, true, true, false] rfl rfl (any_of HT_.out (by kernel_rfl)) (fun _ _ _ h => h) (Or.inl ⟨by rfl, ?_⟩) ?_ ?_
                  rotate_left
                  · intro w'
                    go_simp
                    with_reducible rfl
                  rotate_left
                  · simp only [Act.put, List.setIfInBounds_toArray, List.set_cons_zero, List.set_cons_succ, i64_w, i32_w]
                    rfl
                  refine last_ (i := 9) (N := none) #[true, true, true, true, true, true, true, true, true, true] rfl rfl (one_of HT_.out (by kernel_rfl)) (by decide) (fun K hK => ?_)
                  refine skip_ (w1 := ?_) (by rfl) rfl ?_ ?_
                  rotate_left
                  · go_simp
                    rfl
                  refine hK.out _ _ ?_
                  clear hK K
                  refine done_ (done_of HT_.out (by kernel_rfl)) ?_
                  have n0_ : Aside0 (Kd.S (Kd.slice 3 (Kd.int .i64)) 43 (w57.setCell ⟨go56, 1, none⟩ (.slice Ao60 y194.length co60)) w.heap.size (fun _ => True) (.slice (some ⟨go56, 0, none⟩) x172000_1.length co55) y197) := ⟨by (with_reducible repeat (first | apply Kd.S_alloc | apply Kd.S_drewN | apply Kd.S_drew)); exact HQ58.out⟩
                  have n1_ : Aside0 ((w57.setCell ⟨go56, 1, none⟩ (.slice Ao60 y194.length co60)).heap[gb167]? = some (.cells #[.slice none 0 0] 25 (0, 0))) := ⟨by (with_reducible repeat (first | refine blk_drewN ?_ _ | refine blk_drew ?_ | refine blk_alloc ?_ _)); refine blk_far ?_ HNB167_go56.out _; (with_reducible repeat (first | refine blk_drewN ?_ _ | refine blk_drew ?_ | refine blk_alloc ?_ _)); exact BK167.out⟩
                  have n2_ : Aside0 ((w57.setCell ⟨go56, 1, none⟩ (.slice Ao60 y194.length co60)).heap[gb171]? = some (.cells #[.slice (some ⟨go56, 0, none⟩) x172000_1.length co55] 25 (0, 0))) := ⟨by (with_reducible repeat (first | refine blk_drewN ?_ _ | refine blk_drew ?_ | refine blk_alloc ?_ _)); refine blk_far ?_ HNB171_go56.out _; (with_reducible repeat (first | refine blk_drewN ?_ _ | refine blk_drew ?_ | refine blk_alloc ?_ _)); exact BK171.out⟩
                  have n3_ : Aside0 (IsS66 w0 (w57.setCell ⟨go56, 1, none⟩ (.slice Ao60 y194.length co60)) g s0_0 t183) := ⟨by repeat (first | (with_reducible first | exact HI0.out | apply IsS66.alloc | apply IsS66.drewN | apply IsS66.drew | apply IsS66.set_1 | refine IsS66.far ?_ HN0_go56.out _ | refine IsS66.far ?_ NB0_167.out _ | refine IsS66.far ?_ NB0_171.out _) | exact HI0.out)⟩
                  have n4_ : Aside0 (KeepBut w (w57.setCell ⟨go56, 1, none⟩ (.slice Ao60 y194.length co60)) g none) := ⟨by repeat (first | (with_reducible first | exact HK.out | apply KeepBut.set_ | apply keep_drewN | apply keep_drew | apply keep_alloc | refine keep_far ?_ GB56.out _ | refine keep_far ?_ GW167.out _ | refine keep_far ?_ GW171.out _) | exact HK.out)⟩
                  have n5_ : Aside0 (Below w0.heap.size w0 (w57.setCell ⟨go56, 1, none⟩ (.slice Ao60 y194.length co60))) := ⟨by repeat (first | (with_reducible first | exact HB.out | apply below_alloc | apply pw_below_drewN | apply below_drew1 | refine below_set ?_ (Nat.le_trans HL.out GB56.out) | refine below_set ?_ (IsS66.ge HI0.out) | refine below_set ?_ GE167.out | refine below_set ?_ GE171.out) | exact HB.out)⟩
                  (try clear HO_172000)
                  (try clear BK167)
                  (try clear BK171)
                  (try clear HI0)
                  (try clear HK)
                  (try clear HB)
                  generalize (w57.setCell ⟨go56, 1, none⟩ (.slice Ao60 y194.length co60)) = w61 at n0_ n1_ n2_ n3_ n4_ n5_ ⊢
                  have HO_172000 := n0_
                  have BK167 := n1_
                  have BK171 := n2_
                  have HI0 := n3_
                  have HK := n4_
                  have HB := n5_
                  clear n0_ n1_ n2_ n3_ n4_ n5_
                  have hnb62 := NB171_167.out
                  have hnc62 := NB167_171.out
                  have hnb63 := NB171_0.out
                  have hnc63 := NB0_171.out
                  have hcz64_0 : w61.cell? ⟨gb171, 0, none⟩ = some (.slice (some ⟨go56, 0, none⟩) x172000_1.length co55) := (blk_cell BK171.out 0).trans rfl
                  have hfz64_0 := blk_frozen BK171.out 0
                  have hnb65 := NB167_0.out
                  have hnc65 := NB0_167.out
                  have hcz66_0 : w61.cell? ⟨gb167, 0, none⟩ = some (.slice none 0 0) := (blk_cell BK167.out 0).trans rfl
                  have hfz66_0 := blk_frozen BK167.out 0
                  try go_wp2
                  refine bodyPost_ret (results_cell_row rfl _ _ gb167 25 #[.slice (some ⟨go56, 0, none⟩) x172000_1.length co55] (0, 0) _ rfl q32_10 Try.underlying25 rfl (by kernel_rfl)) rfl ?_
                  exact ⟨_, q32_12, Kd.Q_of_R ((Kd.S_R (by (with_reducible repeat (first | apply Kd.S_alloc | apply Kd.S_drewN | apply Kd.S_drew)); exact Kd.S_mono (Kd.S_far (p := ⟨gb167, 0, none⟩) (Kd.S_types HO_172000.out BK167.out (by decide)) (fun _ hk => hk.2) (.slice (some ⟨go56, 0, none⟩) x172000_1.length co55)) (fun _ hk => trivial)))), q32_0, q32_2, q32_1⟩
                · rw [if_neg c51] at H
                  exact absurd H (by simp)
              · rw [if_neg c50] at H
                exact absurd H (by simp)
            · rw [if_neg c49] at H
              have c49b0 : (t182 == 2) = false := beq_eq_false_iff_ne.mpr c49
              have c49b1 : (t182 != 2) = true := bne_iff_ne.mpr c49
              by_cases c67 : t182 = 3
              · rw [if_pos c67] at H
                have c67b0 : (t182 == 3) = true := beq_iff_eq.mpr c67
                have c67b1 : (t182 != 3) = false := bne_eq_false_iff_eq.mpr c67
                clear c67
                by_cases c68 : 0 < (x172000_1.length : Int)
                · rw [if_pos c68] at H
                  have c68b0 : decide (0 < (x172000_1.length : Int)) = true := decide_eq_true c68
                  have c68b1 : decide (0 < x172000_1.length) = true := decide_eq_true (by omega)
                  clear c68
                  replace H := Option.bind_eq_some_iff.mp H
                  obtain ⟨t199, A690, H⟩ := H
                  replace H : ((spec_l6Rd_pick.f k1 s0_0 t183 3).bind fun bt200 => ((spec_RoughAdd.f k1 x172000_1 7 (wrap64 ((wrap64 (2000 - t199)) - bt200.1))).bind fun bt202 => (some (bt202.1, bt200.2)))) = some (r1, r2) := H
                  have A69 := Aside0.mk A690
                  clear A690
                  replace H := Option.bind_eq_some_iff.mp H
                  obtain ⟨⟨t200, t201⟩, A700, H⟩ := H
                  replace H : ((spec_RoughAdd.f k1 x172000_1 7 (wrap64 ((wrap64 (2000 - t199)) - t200))).bind fun bt202 => (some (bt202.1, t201))) = some (r1, r2) := H
                  have A70 := Aside0.mk A700
                  clear A700
                  replace H := Option.bind_eq_some_iff.mp H
                  obtain ⟨⟨t202, t205⟩, A710, H⟩ := H
                  replace H : (some (t202, t201)) = some (r1, r2) := H
                  have A71 := Aside0.mk A710
                  clear A710
                  simp only [Option.some.injEq, Prod.mk.injEq] at H
                  obtain ⟨rfl, rfl⟩ := H
                  try go_wp2_with (first | ((with_reducible refine gate_callee (f := 43) rfl ?_); refine goesL_ (some 22) rfl rfl Try.func43 (by kernel_rfl) rfl #[.pointer (some ⟨g, 0, none⟩), .int .i64 24] rfl q32_3 ?_; (with_reducible refine (spec_l6Rd_pick.calls k1 g s0_0 x1001_1 24 t182 t183 w0 _ ?side1 ?side2 A23.out).mono ?_); (case side1 => exact q32_0); (case side2 => exact q32_2); rintro e w72 ⟨rfl, hi, hb, hk⟩; refine ⟨_, rfl, ?_⟩; have n0_ := Aside0.mk (Kd.S_mono (Kd.S_keep (IsS66.apartS (show IsS66 w0 _ g s0_0 x1001_1 from q32_0) q32_5 (by decide)) hk (fun _ h => h.2)) (fun _ h => h.1)); have n1_ := Aside0.mk (KeepBut.blk hk (g' := gb167) (o := .cells #[.slice none 0 0] 25 (0, 0)) q32_4 NB167_0.out (by simp)); have n2_ := Aside0.mk (KeepBut.blk hk (g' := gb171) (o := .cells #[u172000] 25 (0, 0)) q32_6 NB171_0.out (by simp)); have n3_ := Aside0.mk (KeepBut.trans q32_1 hk (.inl rfl)); have n4_ := Aside0.mk (hb); have n5_ := Aside0.mk (hi); clear HO_172000; clear BK167; clear BK171; clear HK; clear HB; clear HI0; have HO_172000 := n0_; have BK167 := n1_; have BK171 := n2_; have HK := n3_; have HB := n4_; have HI0 := n5_; clear n0_ n1_ n2_ n3_ n4_ n5_; (try clear hb); (try clear hb2); (try clear hk); (try clear hi)))
                  have n0_ := Aside0.mk (Kd.S_drew HO_172000.out)
                  have n1_ := Aside0.mk (blk_drew BK167.out)
                  have n2_ := Aside0.mk (blk_drew BK171.out)
                  have n3_ := Aside0.mk (IsS66.drew HI0.out)
                  have n4_ := Aside0.mk (keep_drew HK.out)
                  have n5_ := Aside0.mk (below_drew1 HB.out)
                  clear HO_172000
                  clear BK167
                  clear BK171
                  clear HI0
                  clear HK
                  clear HB
                  have HO_172000 := n0_
                  have BK167 := n1_
                  have BK171 := n2_
                  have HI0 := n3_
                  have HK := n4_
                  have HB := n5_
                  clear n0_ n1_ n2_ n3_ n4_ n5_
                  obtain ⟨Ao74, co74, eo74⟩ := Kd.S_slice HO_172000.out
                  (first | subst eo74 | (injection eo74 with f1_ f2_ f3_; have f4_ := f1_.symm; have f5_ := f3_.symm; clear f1_ f2_ f3_; subst f4_; subst f5_))
                  have p198 : 0 ≤ (0 : Int) := (by omega)
                  have q198 : 0 < (x172000_1.length : Int) := of_decide_eq_true q32_7
                  obtain ⟨ad198, A198_0, c198_0, e198, hx198_0, hl198_0, hi198_0⟩ := at_L2 (Kd.S_reads' HO_172000.out).2.2 0 p198 q198
                  cases e198
                  obtain ⟨ce198, hce198, hMe198, hcc198⟩ := Kd.S_get HO_172000.out [] 0 p198 (by first | exact q198 | exact of_decide_eq_true q32_7 | (have e_ := (Kd.S_reads' HO_172000.out).1; omega))
                  obtain ⟨ve198_0, rfl, ge198_0⟩ := hMe198
                  have hv198_0 := hcc198 0 _ rfl
                  rw [Nat.add_zero, show ((Kd.slice 3 (Kd.int .i64))).sz = 1 from rfl, Nat.mul_one] at hv198_0
                  replace hv198_0 := Option.some.inj (hv198_0.symm.trans hx198_0)
                  rw [hv198_0] at ge198_0
                  have HL198_0 := Aside0.mk (show Kd.R (Kd.int .i64) 3 _ _ _ _ (rd_L2 x172000_1 0) from ge198_0)
                  clear hv198_0 ge198_0
                  have HX198_0 := Aside0.mk hx198_0
                  clear hcc198 hce198
                  have qi198 : (0 < x172000_1.length) = True := eq_true (by omega)
                  (try rw [show ((0 : Int)).toNat = 0 from rfl] at hx198_0)
                  (try rw [Addr.add_zero'] at hx198_0)
                  have HR198_0 := Aside0.mk hi198_0
                  have HC198_0 := Aside0.mk hl198_0
                  clear hi198_0 hl198_0
                  replace p198 := eq_true p198
                  replace q198 := eq_true q198
                  refine start_ (n := 15) (S := fun w' => w'.cell? ⟨gb171, 0, none⟩ = some (.slice (some ad198) x172000_1.length co74) ∧ w'.cell? ad198 = some (.slice A198_0 (rd_L2 x172000_1 0).length c198_0)) (ds := [14]) #[false, false, false, false, false, false, false, false, false, false, false, false, false, false, false] (by kernel_rfl) rfl rfl ⟨(blk_cell BK171.out 0).trans rfl, hx198_0⟩ (fun hHeld => ?_); refine with_tabW spec_l71Rough.tab14 spec_l71Rough.bits14 (fun HT_ HW_ => ?_)
                  generalize w72.drew = w73 at HO_172000 BK167 BK171 HI0 HK HB HL198_0 HR198_0 HX198_0 hx198_0 hHeld ⊢
                  refine pure_ (i := 1) (N := some 58) (v := ?_) (a' := ?_) #[false, true, false, false, false, false, false, false, false, false, false, false, false, false, false] rfl rfl (any_of HT_.out (by kernel_rfl)) (fun _ _ _ h => h) (Or.inl ⟨by rfl, ?_⟩) ?_ ?_
                  rotate_left
                  · intro w'
                    go_simp
                    with_reducible rfl
                  rotate_left
                  · simp only [Act.put, List.setIfInBounds_toArray, List.set_cons_zero, List.set_cons_succ, i64_w, i32_w]
                    rfl
                  refine pure_ (i := 7) (N := some 64) (v := ?_) (a' := ?_) #[false, true, false, false, false, false, false, true, false, false, false, false, false, false, false] rfl rfl (any_of HT_.out (by kernel_rfl)) (fun _ _ _ h => h) (Or.inl ⟨by rfl, ?_⟩) ?_ ?_
                  rotate_left
                  · intro w'
                    go_simp
                    with_reducible rfl
                  rotate_left
                  · simp only [Act.put, List.setIfInBounds_toArray, List.set_cons_zero, List.set_cons_succ, i64_w, i32_w]
                    rfl
                  refine take_ (i := 0) (N := some 57) (v := ?_) (a' := ?_) #[true, true, false, false, false, false, false, true, false, false, false, false, false, false, false] rfl rfl (take_ofW HT_.out HW_.out (by kernel_rfl)) (fun _ _ _ h => h) (Or.inl ⟨by rfl, ?_⟩) hHeld ?_ ?_
                  rotate_left
                  · rintro w' ⟨s0, s1⟩
                    go_simp
                    with_reducible rfl
                  rotate_left
                  · simp only [Act.put, List.setIfInBounds_toArray, List.set_cons_zero, List.set_cons_succ, i64_w, i32_w]
                    rfl
                  refine take_ (i := 2) (N := some 59) (v := ?_) (a' := ?_) #[true, true, true, false, false, false, false, true, false, false, false, false, false, false, false] rfl rfl (take_ofW HT_.out HW_.out (by kernel_rfl)) (fun _ _ _ h => h) (Or.inl ⟨by rfl, ?_⟩) hHeld ?_ ?_
                  rotate_left
                  · rintro w' ⟨s0, s1⟩
                    go_simp
                    with_reducible rfl
                  rotate_left
                  · simp only [Act.put, List.setIfInBounds_toArray, List.set_cons_zero, List.set_cons_succ, i64_w, i32_w]
                    rfl
                  refine pure_ (i := 3) (N := some 60) (v := ?_) (a' := ?_) #[true, true, true, true, false, false, false, true, false, false, false, false, false, false, false] rfl rfl (any_of HT_.out (by kernel_rfl)) (fun _ _ _ h => h) (Or.inl ⟨by rfl, ?_⟩) ?_ ?_
                  rotate_left
                  · intro w'
                    go_simp
                    with_reducible rfl
                  rotate_left
                  · simp only [Act.put, List.setIfInBounds_toArray, List.set_cons_zero, List.set_cons_succ, i64_w, i32_w]
                    rfl
                  refine take_ (i := 4) (N := some 61) (v := ?_) (a' := ?_) #[true, true, true, true, true, false, false, true, false, false, false, false, false, false, false] rfl rfl (take_ofW HT_.out HW_.out (by kernel_rfl)) (fun _ _ _ h => h) (Or.inl ⟨by rfl, ?_⟩) hHeld ?_ ?_
                  rotate_left
                  · rintro w' ⟨s0, s1⟩
                    go_simp
                    with_reducible rfl
                  rotate_left
                  · simp only [Act.put, List.setIfInBounds_toArray, List.set_cons_zero, List.set_cons_succ, i64_w, i32_w]
                    rfl
                  refine one_ (i := 5) (N := some 62) #[true, true, true, true, true, true, false, true, false, false, false, false, false, false, false] rfl rfl (one_of HT_.out (by kernel_rfl)) (by decide) (fun K hK => ?_)
                  refine goes_ Try.func34 (by kernel_rfl) rfl #[.slice A198_0 (rd_L2 x172000_1 0).length c198_0] (by rfl) rfl rfl q32_3 ?_
                  with_reducible refine (spec_l1Sum.calls k1 _ _ (rd_L2 x172000_1 0) t199 _ ?side1 ?side2 A69.out).mono ?_
                  (case side1 => repeat (first | exact (by repeat (first | (with_reducible exact HR198_0.out) | (with_reducible refine Kd.C_alloc ?_ _) | (with_reducible refine Kd.C_drewN ?_ _) | (with_reducible refine Kd.C_drew ?_) | exact HR198_0.out)) | (with_reducible refine Kd.C_alloc ?_ _) | (with_reducible refine Kd.C_drewN ?_ _) | (with_reducible refine Kd.C_drew ?_)))
                  (case side2 => exact HC198_0.out)
                  rintro e w' ⟨rfl, ⟨nd, rfl⟩⟩
                  refine ⟨_, rfl, ?_⟩
                  refine hK.out _ _ ⟨(blk_cell BK171.out 0).trans rfl, hHeld.2⟩ (fun hHeld => ?_)
                  clear hK K
                  refine norm_ (a' := ?_) ?_ ?_
                  rotate_left
                  · show Act.put _ (some 62) _ = _
                    simp only [Act.put, List.setIfInBounds_toArray, List.set_cons_zero, List.set_cons_succ, i64_w, i32_w]
                    rfl
                  refine pure_ (i := 6) (N := some 63) (v := ?_) (a' := ?_) #[true, true, true, true, true, true, true, true, false, false, false, false, false, false, false] rfl rfl (any_of HT_.out (by kernel_rfl)) (fun _ _ _ h => h) (Or.inl ⟨by rfl, ?_⟩) ?_ ?_
                  rotate_left
                  · intro w'
                    go_simp
                    with_reducible rfl
                  rotate_left
                  · simp only [Act.put, List.setIfInBounds_toArray, List.set_cons_zero, List.set_cons_succ, i64_w, i32_w]
                    rfl
                  refine one_ (i := 8) (N := some 65) #[true, true, true, true, true, true, true, true, true, false, false, false, false, false, false] rfl rfl (one_of HT_.out (by kernel_rfl)) (by decide) (fun K hK => ?_)
                  refine goes_ Try.func43 (by kernel_rfl) rfl #[.pointer (some ⟨g, 0, none⟩), .int .i64 3] (by rfl) rfl rfl q32_3 ?_
                  with_reducible refine (spec_l6Rd_pick.calls k1 g s0_0 t183 3 t200 t201 w0 _ ?side1 ?side2 A70.out).mono ?_
                  (case side1 => exact q32_0)
                  (case side2 => exact q32_2)
                  rintro e w75 ⟨rfl, hi, hb, hk⟩
                  have HS1_ := keep_cell hk (hHeld.2) (by first | (rw [add_block]; exact Kd.own_blk (IsS66.own_neS HI0.out HO_172000.out (by decide))) | (show (Addr.add _ _).block ≠ _; rw [add_block]; exact Kd.own_blk (IsS66.own_neS HI0.out HO_172000.out (by decide))) | exact Kd.own_blk (IsS66.own_neS HI0.out HO_172000.out (by decide)))
                  refine ⟨_, rfl, ?_⟩
                  have n0_ := Aside0.mk (Kd.S_mono (Kd.S_keep (IsS66.apartS (show IsS66 w0 _ g s0_0 t183 from q32_0) q32_5 (by decide)) hk (fun _ h => h.2)) (fun _ h => h.1))
                  have n1_ := Aside0.mk (KeepBut.blk hk (g' := gb167) (o := .cells #[.slice none 0 0] 25 (0, 0)) q32_4 NB167_0.out (by simp))
                  have n2_ := Aside0.mk (KeepBut.blk hk (g' := gb171) (o := .cells #[.slice (some ad198) x172000_1.length co74] 25 (0, 0)) q32_6 NB171_0.out (by simp))
                  have n3_ := Aside0.mk (Kd.R_mono (Kd.R_keep (IsS66.apart (show IsS66 w0 _ g s0_0 t183 from q32_0) q32_16 (by decide)) hk (fun _ h => h.2)) (fun _ h => h.1))
                  have n4_ := Aside0.mk (keep_cell hk HX198_0.out (by first | (rw [add_block]; exact Kd.own_blk (IsS66.own_neS HI0.out HO_172000.out (by decide))) | (show (Addr.add _ _).block ≠ _; rw [add_block]; exact Kd.own_blk (IsS66.own_neS HI0.out HO_172000.out (by decide))) | exact Kd.own_blk (IsS66.own_neS HI0.out HO_172000.out (by decide)) | (dsimp only; exact Kd.own_blk (IsS66.own_neS HI0.out HO_172000.out (by decide)))))
                  have n5_ := Aside0.mk (KeepBut.trans q32_1 hk (.inl rfl))
                  have n6_ := Aside0.mk (hb)
                  have n7_ := Aside0.mk (hi)
                  clear HO_172000
                  clear BK167
                  clear BK171
                  clear HL198_0
                  clear HX198_0
                  clear HK
                  clear HB
                  clear HI0
                  have HO_172000 := n0_
                  have BK167 := n1_
                  have BK171 := n2_
                  have HL198_0 := n3_
                  have HX198_0 := n4_
                  have HK := n5_
                  have HB := n6_
                  have HI0 := n7_
                  clear n0_ n1_ n2_ n3_ n4_ n5_ n6_ n7_
                  (try clear hb)
                  (try clear hb2)
                  (try clear hk)
                  (try clear hi)
                  refine hK.out _ _ ⟨(blk_cell BK171.out 0).trans rfl, HS1_⟩ (fun hHeld => ?_)
                  clear hK K
                  refine norm_ (a' := ?_) ?_ ?_
                  rotate_left
                  · show Act.put _ (some 65) _ = _
                    simp only [Act.put, List.setIfInBounds_toArray, List.set_cons_zero, List.set_cons_succ, i64_w, i32_w]
                    rfl
                  refine pure_ (i := 9) (N := some 66) (v := ?_) (a' := ?_) #[true, true, true, true, true, true, true, true, true, true, false, false, false, false, false] rfl rfl (any_of HT_.out (by kernel_rfl)) (fun _ _ _ h => h) (Or.inl ⟨by rfl, ?_⟩) ?_ ?_
                  rotate_left
                  · intro w'
                    go_simp
                    with_reducible rfl
                  rotate_left
                  · simp only [Act.put, List.setIfInBounds_toArray, List.set_cons_zero, List.set_cons_succ, i64_w, i32_w]
                    rfl
                  refine one_ (i := 10) (N := some 67) #[true, true, true, true, true, true, true, true, true, true, true, false, false, false, false] rfl rfl (one_of HT_.out (by kernel_rfl)) (by decide) (fun K hK => ?_)
                  refine goes_ Try.func24 (by kernel_rfl) rfl #[.agg #[.slice (some ad198) x172000_1.length co74], .int .i64 7, .int .i64 (wrap64 ((wrap64 (2000 - t199)) - t200))] (by rfl) rfl rfl q32_3 ?_
                  with_reducible refine (spec_RoughAdd.calls k1 _ _ x172000_1 7 (wrap64 ((wrap64 (2000 - t199)) - t200)) t202 t205 _ ?side1 ?side2 A71.out).mono ?_
                  (case side1 => exact q32_18)
                  (case side2 => exact (Kd.S_reads' HO_172000.out).2.1)
                  rintro e w76 ⟨v203, rfl, ho0, hb⟩
                  have HS1_ := (hb.cell (World.block_lt_of_cell? _ _ (hHeld.2))).trans (hHeld.2)
                  refine ⟨_, rfl, ?_⟩
                  have n0_ := Aside0.mk (Kd.S_elder' q32_5 (Kd.S_base ho0) hb)
                  have n1_ := Aside0.mk (Kd.R_below q32_16 hb)
                  have n2_ := Aside0.mk (Kd.S_lower (Kd.S_new' (Kd.S_new' ho0 (Kd.S_lt q32_5)) (Kd.R_lt q32_16)) (keep_size (w := w) (g := g) (row := none) q32_1))
                  have n3_ := Aside0.mk (blk_below (g := gb167) (o := .cells #[.slice none 0 0] 25 (0, 0)) q32_4 hb)
                  have n4_ := Aside0.mk (blk_below (g := gb171) (o := .cells #[.slice (some ad198) x172000_1.length co74] 25 (0, 0)) q32_6 hb)
                  have n5_ := Aside0.mk (IsS66.below q32_0 hb)
                  have n6_ := Aside0.mk (pw_cell_below hb HX198_0.out)
                  have n7_ := Aside0.mk (KeepBut.trans q32_1 (KeepBut.of_below hb g none) (.inl rfl))
                  have n8_ := Aside0.mk (below_step q32_2 hb)
                  clear HO_172000
                  clear HL198_0
                  clear BK167
                  clear BK171
                  clear HI0
                  clear HX198_0
                  clear HK
                  clear HB
                  have HO_172000 := n0_
                  have HL198_0 := n1_
                  have HO204 := n2_
                  have BK167 := n3_
                  have BK171 := n4_
                  have HI0 := n5_
                  have HX198_0 := n6_
                  have HK := n7_
                  have HB := n8_
                  clear n0_ n1_ n2_ n3_ n4_ n5_ n6_ n7_ n8_
                  (try clear hb)
                  (try clear hb2)
                  (try clear hk)
                  (try clear hi)
                  (try clear ho0)
                  obtain ⟨Ao77, co77, eo77⟩ := Kd.S_slice HO204.out
                  (first | subst eo77 | (injection eo77 with f1_ f2_ f3_; have f4_ := f1_.symm; have f5_ := f3_.symm; clear f1_ f2_ f3_; subst f4_; subst f5_))
                  refine hK.out _ _ ⟨(blk_cell BK171.out 0).trans rfl, HS1_⟩ (fun hHeld => ?_)
                  clear hK K
                  refine norm_ (a' := ?_) ?_ ?_
                  rotate_left
                  · show Act.put _ (some 67) _ = _
                    simp only [Act.put, List.setIfInBounds_toArray, List.set_cons_zero, List.set_cons_succ, i64_w, i32_w]
                    rfl
                  refine pure_ (i := 11) (N := some 56) (v := ?_) (a' := ?_) #[true, true, true, true, true, true, true, true, true, true, true, true, false, false, false] rfl rfl (any_of HT_.out (by kernel_rfl)) (fun _ _ _ h => h) (Or.inl ⟨by rfl, ?_⟩) ?_ ?_
                  rotate_left
                  · intro w'
                    go_simp
                    with_reducible rfl
                  rotate_left
                  · simp only [Act.put, List.setIfInBounds_toArray, List.set_cons_zero, List.set_cons_succ, i64_w, i32_w]
                    rfl
                  refine pure_ (i := 12) (N := some 68) (v := ?_) (a' := ?_) #[true, true, true, true, true, true, true, true, true, true, true, true, true, false, false] rfl rfl (any_of HT_.out (by kernel_rfl)) (fun _ _ _ h => h) (Or.inl ⟨by rfl, ?_⟩) ?_ ?_
                  rotate_left
                  · intro w'
                    go_simp
                    with_reducible rfl
                  rotate_left
                  · simp only [Act.put, List.setIfInBounds_toArray, List.set_cons_zero, List.set_cons_succ, i64_w, i32_w]
                    rfl
                  refine pure_ (i := 13) (N := some 69) (v := ?_) (a' := ?_) #[true, true, true, true, true, true, true, true, true, true, true, true, true, true, false] rfl rfl (any_of HT_.out (by kernel_rfl)) (fun _ _ _ h => h) (Or.inl ⟨by rfl, ?_⟩) ?_ ?_
                  rotate_left
                  · intro w'
                    go_simp
                    with_reducible rfl
                  rotate_left
                  · simp only [Act.put, List.setIfInBounds_toArray, List.set_cons_zero, List.set_cons_succ, i64_w, i32_w]
                    rfl
                  refine last_ (i := 14) (N := none) #[true, true, true, true, true, true, true, true, true, true, true, true, true, true, true] rfl rfl (one_of HT_.out (by kernel_rfl)) (by decide) (fun K hK => ?_)
                  have hs78 : w76.cell? ⟨gb171, 0, none⟩ = some (.slice (some ad198) x172000_1.length co74) := (blk_cell BK171.out 0).trans rfl
                  have hfs78 := blk_frozen BK171.out 0
                  have hns78_0 := NB167_171.out
                  have hms78_0 := NB171_167.out
                  refine skip_ (w1 := ?_) (by rfl) rfl ?_ ?_
                  rotate_left
                  · go_simp
                    rfl
                  refine hK.out _ _ ?_
                  clear hK K
                  refine done_ (done_of HT_.out (by kernel_rfl)) ?_
                  have hnb79 := NB171_167.out
                  have hnc79 := NB167_171.out
                  have hnb80 := NB171_0.out
                  have hnc80 := NB0_171.out
                  have hcz81_0 : w76.cell? ⟨gb171, 0, none⟩ = some (.slice (some ad198) x172000_1.length co74) := (blk_cell BK171.out 0).trans rfl
                  have hfz81_0 := blk_frozen BK171.out 0
                  have hnb82 := NB167_0.out
                  have hnc82 := NB0_167.out
                  have hcz83_0 : w76.cell? ⟨gb167, 0, none⟩ = some (.slice none 0 0) := (blk_cell BK167.out 0).trans rfl
                  have hfz83_0 := blk_frozen BK167.out 0
                  try go_wp2
                  refine bodyPost_ret (results_cell_row rfl _ _ gb167 25 #[.slice Ao77 t202.length co77] (0, 0) _ rfl q32_11 Try.underlying25 rfl (by kernel_rfl)) rfl ?_
                  exact ⟨_, q32_12, Kd.Q_of_R ((Kd.S_R (by (with_reducible repeat (first | apply Kd.S_alloc | apply Kd.S_drewN | apply Kd.S_drew)); exact Kd.S_mono (Kd.S_far (p := ⟨gb167, 0, none⟩) (Kd.S_far (p := ⟨gb171, 0, none⟩) (Kd.S_types (Kd.S_types HO204.out BK171.out (by decide)) BK167.out (by decide)) (fun _ hk => hk.1.2) (.slice Ao77 t202.length co77)) (fun _ hk => hk.2) (.slice Ao77 t202.length co77)) (fun _ hk => trivial)))), q32_0, q32_2, q32_1⟩
                · rw [if_neg c68] at H
                  exact absurd H (by simp)
              · rw [if_neg c67] at H
                have c67b0 : (t182 == 3) = false := beq_eq_false_iff_ne.mpr c67
                have c67b1 : (t182 != 3) = true := bne_iff_ne.mpr c67
                simp only [Option.some.injEq, Prod.mk.injEq] at H
                obtain ⟨rfl, rfl⟩ := H
                go_wp2_with (first | ((with_reducible refine gate_callee (f := 43) rfl ?_); refine goesL_ (some 22) rfl rfl Try.func43 (by kernel_rfl) rfl #[.pointer (some ⟨g, 0, none⟩), .int .i64 24] rfl q32_3 ?_; (with_reducible refine (spec_l6Rd_pick.calls k1 g s0_0 x1001_1 24 t182 t183 w0 _ ?side1 ?side2 A23.out).mono ?_); (case side1 => exact q32_0); (case side2 => exact q32_2); rintro e w84 ⟨rfl, hi, hb, hk⟩; refine ⟨_, rfl, ?_⟩; have n0_ := Aside0.mk (Kd.S_mono (Kd.S_keep (IsS66.apartS (show IsS66 w0 _ g s0_0 x1001_1 from q32_0) q32_5 (by decide)) hk (fun _ h => h.2)) (fun _ h => h.1)); have n1_ := Aside0.mk (KeepBut.blk hk (g' := gb167) (o := .cells #[.slice none 0 0] 25 (0, 0)) q32_4 NB167_0.out (by simp)); have n2_ := Aside0.mk (KeepBut.blk hk (g' := gb171) (o := .cells #[u172000] 25 (0, 0)) q32_6 NB171_0.out (by simp)); have n3_ := Aside0.mk (KeepBut.trans q32_1 hk (.inl rfl)); have n4_ := Aside0.mk (hb); have n5_ := Aside0.mk (hi); clear HO_172000; clear BK167; clear BK171; clear HK; clear HB; clear HI0; have HO_172000 := n0_; have BK167 := n1_; have BK171 := n2_; have HK := n3_; have HB := n4_; have HI0 := n5_; clear n0_ n1_ n2_ n3_ n4_ n5_; (try clear hb); (try clear hb2); (try clear hk); (try clear hi); have hnb85 := NB171_167.out; have hnc85 := NB167_171.out; have hnb86 := NB171_0.out; have hnc86 := NB0_171.out; have hcz87_0 : w84.cell? ⟨gb171, 0, none⟩ = some (u172000) := (blk_cell BK171.out 0).trans rfl; have hfz87_0 := blk_frozen BK171.out 0; obtain ⟨Ao88, co88, eo88⟩ := Kd.S_slice HO_172000.out; subst eo88; have hnb89 := NB167_0.out; have hnc89 := NB0_167.out; have hcz90_0 : w84.cell? ⟨gb167, 0, none⟩ = some (.slice none 0 0) := (blk_cell BK167.out 0).trans rfl; have hfz90_0 := blk_frozen BK167.out 0))
                refine bodyPost_ret (results_cell_row rfl _ _ gb167 25 #[.slice Ao88 x172000_1.length co88] (0, 0) _ rfl q32_10 Try.underlying25 rfl (by kernel_rfl)) rfl ?_
                exact ⟨_, q32_12, Kd.Q_of_R ((Kd.S_R (by (with_reducible repeat (first | apply Kd.S_alloc | apply Kd.S_drewN | apply Kd.S_drew)); exact Kd.S_mono (Kd.S_far (p := ⟨gb167, 0, none⟩) (Kd.S_types HO_172000.out BK167.out (by decide)) (fun _ hk => hk.2) (.slice Ao88 x172000_1.length co88)) (fun _ hk => trivial)))), q32_0, q32_2, q32_1⟩

end Go.Proofs.Ytojhkhpgahhacaa.PA
