-- Made by a program of this session (wip/tools/pr2.sh) out of the translation, by way of the printer: shared by the seat's laws.
import Derived.Test.YtlobnnakikgcnaaPAx0
import Derived.Test.YtlobnnakikgcnaaPAx5
import Derived.Test.YtlobnnakikgcnaaPAx8
import Derived.Test.YtlobnnakikgcnaaPAx9
namespace Go.Proofs.Ytlobnnakikgcnaa.PA
open Go.RowKit Go.Proofs.YtlobnnakikgcnaaW.PrintWords Go.Proofs.YtlobnnakikgcnaaW.PrintLast Go.Proofs.YtlobnnakikgcnaaW.PrintMore
attribute [local go_sem] max2_int min2_int max_two min_two max_three min_three max_four min_four   -- for this text's walks alone
set_option linter.unusedVariables false
set_option linter.unusedSimpArgs false

/-! ### spec_TopJoin: function 18 -/
mutual
def spec_TopJoin.j0 : Nat → Bool → List (S54) → Int → Int → List (S54) → Int → Int → Option ((List (S54)) × Int × Int × Bool)
  | 0, _, _, _, _, _, _, _ => none
  | k + 1, x23, x336000, x336001, x336002, x337000, x337001, x337002 => if x23 = true then (some (([] : List (S54)), 0, 0, false)) else ((some (([] : List (S54)) : List (S54))).bind fun y340 => (if y340.length + x336000.length < 8796093022208 then (spec_TopJoin.l0 k (y340 ++ x336000) 0 x336000 x336001 x336002 x337000 x337001 x337002) else (none)))
def spec_TopJoin.l0 : Nat → List (S54) → Int → List (S54) → Int → Int → List (S54) → Int → Int → Option ((List (S54)) × Int × Int × Bool)
  | 0, _, _, _, _, _, _, _, _ => none
  | k + 1, x6, x7, x336000, x336001, x336002, x337000, x337001, x337002 => if x7 < (x337000.length : Int) then (if 0 ≤ x7 then ((spec_l3Put.f k x6 ((rd_T54 x337000 x7).f0) ((rd_T54 x337000 x7).f1)).bind fun t347 => (spec_TopJoin.l0 k t347 (wrap64 (x7 + 1)) x336000 x336001 x336002 x337000 x337001 x337002)) else (none)) else ((spec_l3Cut.f k x6 (wrap64 (x336001 + x337001)) (wrap64 (x336002 + x337002))).bind fun bt350 => (some (bt350.1, bt350.2.1, bt350.2.2, true)))
end
def spec_TopJoin.f (k : Nat) (l0_0 : List (S54)) (a0_1 : Int) (a0_2 : Int) (l1_0 : List (S54)) (a1_1 : Int) (a1_2 : Int) : Option ((List (S54)) × Int × Int × Bool) := (spec_TopOk.f k l0_0 a0_1 a0_2).bind fun t338 => (if t338 = true then ((spec_TopOk.f k l1_0 a1_1 a1_2).bind fun t339 => (if t339 = true then (spec_TopJoin.j0 k (decide ((wrap64 (a0_2 + a1_2)) > 2000)) l0_0 a0_1 a0_2 l1_0 a1_1 a1_2) else (spec_TopJoin.j0 k true l0_0 a0_1 a0_2 l1_0 a1_1 a1_2))) else (spec_TopJoin.j0 k true l0_0 a0_1 a0_2 l1_0 a1_1 a1_2))
theorem spec_TopJoin.mono_l : ∀ k, (∀ y0 y1 y2 y3 y4 y5 y6, LeO (spec_TopJoin.j0 k y0 y1 y2 y3 y4 y5 y6) (spec_TopJoin.j0 (k + 1) y0 y1 y2 y3 y4 y5 y6)) ∧ (∀ y0 y1 y2 y3 y4 y5 y6 y7, LeO (spec_TopJoin.l0 k y0 y1 y2 y3 y4 y5 y6 y7) (spec_TopJoin.l0 (k + 1) y0 y1 y2 y3 y4 y5 y6 y7))
  | 0 => ⟨fun _ _ _ _ _ _ _ r h => by simp [spec_TopJoin.j0] at h, fun _ _ _ _ _ _ _ _ r h => by simp [spec_TopJoin.l0] at h⟩
  | k + 1 => by
    obtain ⟨ih0, ih1⟩ := spec_TopJoin.mono_l k
    refine ⟨?_, ?_⟩
    · intro y0 y1 y2 y3 y4 y5 y6
      unfold spec_TopJoin.j0
      repeat' first
      | (with_reducible exact ih0 _ _ _ _ _ _ _)
      | (with_reducible exact ih1 _ _ _ _ _ _ _ _)
      | (with_reducible exact spec_TopOk.mono _ _ _ _)
      | (with_reducible exact spec_l3Cut.mono _ _ _ _)
      | (with_reducible exact spec_l3Put.mono _ _ _ _)
      | (with_reducible exact LeO.refl _)
      | (with_reducible exact LeO.none _)
      | (with_reducible refine LeO.ite ?_ ?_)
      | (with_reducible refine LeO.bind ?_ (fun _ => ?_))
      | exact ih0 _ _ _ _ _ _ _
      | exact ih1 _ _ _ _ _ _ _ _
      | exact spec_TopOk.mono _ _ _ _
      | exact spec_l3Cut.mono _ _ _ _
      | exact spec_l3Put.mono _ _ _ _
      | exact LeO.none _
      | refine LeO.ite ?_ ?_
      | refine LeO.bind ?_ (fun _ => ?_)
    · intro y0 y1 y2 y3 y4 y5 y6 y7
      unfold spec_TopJoin.l0
      repeat' first
      | (with_reducible exact ih0 _ _ _ _ _ _ _)
      | (with_reducible exact ih1 _ _ _ _ _ _ _ _)
      | (with_reducible exact spec_TopOk.mono _ _ _ _)
      | (with_reducible exact spec_l3Cut.mono _ _ _ _)
      | (with_reducible exact spec_l3Put.mono _ _ _ _)
      | (with_reducible exact LeO.refl _)
      | (with_reducible exact LeO.none _)
      | (with_reducible refine LeO.ite ?_ ?_)
      | (with_reducible refine LeO.bind ?_ (fun _ => ?_))
      | exact ih0 _ _ _ _ _ _ _
      | exact ih1 _ _ _ _ _ _ _ _
      | exact spec_TopOk.mono _ _ _ _
      | exact spec_l3Cut.mono _ _ _ _
      | exact spec_l3Put.mono _ _ _ _
      | exact LeO.none _
      | refine LeO.ite ?_ ?_
      | refine LeO.bind ?_ (fun _ => ?_)
theorem spec_TopJoin.mono : ∀ a0 a1 a2 a3 a4 a5 k, LeO (spec_TopJoin.f k a0 a1 a2 a3 a4 a5) (spec_TopJoin.f (k + 1) a0 a1 a2 a3 a4 a5) := by
  intro a0 a1 a2 a3 a4 a5 k
  obtain ⟨ih0, ih1⟩ := spec_TopJoin.mono_l k
  unfold spec_TopJoin.f
  repeat' first
      | (with_reducible exact ih0 _ _ _ _ _ _ _)
      | (with_reducible exact ih1 _ _ _ _ _ _ _ _)
      | (with_reducible exact spec_TopOk.mono _ _ _ _)
      | (with_reducible exact spec_l3Cut.mono _ _ _ _)
      | (with_reducible exact spec_l3Put.mono _ _ _ _)
      | (with_reducible exact LeO.refl _)
      | (with_reducible exact LeO.none _)
      | (with_reducible refine LeO.ite ?_ ?_)
      | (with_reducible refine LeO.bind ?_ (fun _ => ?_))
      | exact ih0 _ _ _ _ _ _ _
      | exact ih1 _ _ _ _ _ _ _ _
      | exact spec_TopOk.mono _ _ _ _
      | exact spec_l3Cut.mono _ _ _ _
      | exact spec_l3Put.mono _ _ _ _
      | exact LeO.none _
      | refine LeO.ite ?_ ?_
      | refine LeO.bind ?_ (fun _ => ?_)
theorem z18bb {w W w1 : World} {g : Nat} {o : Obj} (h : Aside0 (w.heap[g]? = some o)) (hb : Below W.heap.size W w1) (hp : W.heap[g]? = some o := by (with_reducible repeat (first | refine blk_drewN ?_ _ | refine blk_drew ?_ | refine blk_alloc ?_ _)); exact Aside0.out (by assumption)) : Aside0 (w1.heap[g]? = some o) := ⟨blk_below hp hb⟩
theorem z18bc {w : World} {g t : Nat} {cs : Array Value} (h : Aside0 (w.heap[g]? = some (.cells cs t (0, 0)))) (i : Nat) {u : Value} (e : cs[i]? = some u := by rfl) : w.cell? ⟨g, i, none⟩ = some u := (blk_cell h.out i).trans e
variable {p : Prop}
theorem q18_0 (h : p := by repeat (first | (with_reducible first | exact HB.out | apply below_alloc | apply pw_below_drewN | apply below_drew1 | refine below_set ?_ GE335.out | refine below_set ?_ GE336.out | refine below_set ?_ GE337.out) | exact HB.out)) : p := h
theorem q18_1 (h : p := by (try simp only [List.map_toArray, List.map_cons, List.map_nil]); first | done | rfl | (simp only [List.length_drop, List.length_take]; rfl)) : p := h
theorem q18_2 (h : p := by (with_reducible repeat (first | refine blk_drewN ?_ _ | refine blk_drew ?_ | refine blk_alloc ?_ _)); exact BK335.out) : p := h
theorem q18_3 (h : p := by repeat (first | (with_reducible first | exact HB.out | apply below_alloc | apply pw_below_drewN | apply below_drew1 | refine below_set ?_ GE335.out | refine below_set ?_ GE336.out) | exact HB.out)) : p := h
theorem q18_4 (h : p := by repeat (first | exact (Kd.C_below HR0_0.out HB.out) | (with_reducible refine Kd.C_alloc ?_ _) | (with_reducible refine Kd.C_drewN ?_ _) | (with_reducible refine Kd.C_drew ?_))) : p := h
theorem q18_5 (h : p := by repeat (first | (with_reducible first | exact HB.out | apply below_alloc | apply pw_below_drewN | apply below_drew1 | refine below_set ?_ GE335.out) | exact HB.out)) : p := h
theorem q18_6 (h : p := by (with_reducible repeat (first | apply Kd.R_alloc | apply Kd.R_drewN | apply Kd.R_drew)); exact HO_6.out) : p := h
theorem q18_7 (h : p := by repeat (first | (with_reducible first | exact HB.out | apply below_alloc | apply pw_below_drewN | apply below_drew1) | exact HB.out)) : p := h
theorem q18_8 (h : p := by (with_reducible repeat (first | refine blk_drewN ?_ _ | refine blk_drew ?_ | refine blk_alloc ?_ _)); exact BK336.out) : p := h
theorem q18_9 (h : p := by repeat (first | exact (Kd.C_below HR1_0.out HB.out) | (with_reducible refine Kd.C_alloc ?_ _) | (with_reducible refine Kd.C_drewN ?_ _) | (with_reducible refine Kd.C_drew ?_))) : p := h
theorem q18_10 (h : p := by repeat (first | exact (Kd.R_reads' HO_6.out).2.2 | (with_reducible refine Kd.C_alloc ?_ _) | (with_reducible refine Kd.C_drewN ?_ _) | (with_reducible refine Kd.C_drew ?_))) : p := h
theorem q18_11 (h : p := by first | rfl | (simp; done) | (simp [*]; done)) : p := h
theorem q18_12 (h : p := by rw [hg]; exact Nat.ne_of_lt (blk_lt (g := gb335) (o := .cells #[.slice A0_0 l0_0.length c0_0, .int .i64 a0_1, .int .i64 a0_2] 25 (0, 0)) q18_2)) : p := h
theorem q18_13 (h : p := by rw [hg]; exact Nat.ne_of_gt (blk_lt (g := gb335) (o := .cells #[.slice A0_0 l0_0.length c0_0, .int .i64 a0_1, .int .i64 a0_2] 25 (0, 0)) q18_2)) : p := h
theorem q18_14 (h : p := by first | (go_simp; done) | (go_simp; rfl)) : p := h
set_option maxHeartbeats 8000000 in
set_option maxRecDepth 100000 in
theorem spec_TopJoin.calls (k : Nat) (A0_0 : Option Addr) (c0_0 : Nat) (l0_0 : List (S54)) (a0_1 : Int) (a0_2 : Int) (A1_0 : Option Addr) (c1_0 : Nat) (l1_0 : List (S54)) (a1_1 : Int) (a1_2 : Int) (r1 : List (S54)) (r2 : Int) (r3 : Int) (r4 : Bool) (w : World) (hr0_0 : Kd.C k54 w A0_0 l0_0.length l0_0) (hc0_0 : l0_0.length ≤ c0_0) (hr1_0 : Kd.C k54 w A1_0 l1_0.length l1_0) (hc1_0 : l1_0.length ≤ c1_0) (h : spec_TopJoin.f k l0_0 a0_1 a0_2 l1_0 a1_1 a1_2 = some (r1, r2, r3, r4)) :
    Calls Try.prog 18 #[.agg #[.slice A0_0 l0_0.length c0_0, .int .i64 a0_1, .int .i64 a0_2], .agg #[.slice A1_0 l1_0.length c1_0, .int .i64 a1_1, .int .i64 a1_2]] w fun e w' => ∃ v0_ : Value, e = .returned (.tuple #[.agg #[v0_, .int .i64 r2, .int .i64 r3], .bool r4]) ∧ Kd.R k54 54 w' w.heap.size (fun _ => True) v0_ r1 ∧ Below w.heap.size w w' := by
 have hu25 := Try.underlying25;have hu54 := Try.underlying54;have HR0_0 := Aside0.mk hr0_0;have HC0_0 := Aside0.mk hc0_0;clear hr0_0 hc0_0;have HR1_0 := Aside0.mk hr1_0;have HC1_0 := Aside0.mk hc1_0;clear hr1_0 hc1_0;have HB := Aside0.mk (Below.refl w.heap.size w)
 have H : ((spec_TopOk.f k l0_0 a0_1 a0_2).bind fun t338 => (if t338 = true then ((spec_TopOk.f k l1_0 a1_1 a1_2).bind fun t339 => (if t339 = true then (spec_TopJoin.j0 k (decide ((wrap64 (a0_2 + a1_2)) > 2000)) l0_0 a0_1 a0_2 l1_0 a1_1 a1_2) else (spec_TopJoin.j0 k true l0_0 a0_1 a0_2 l1_0 a1_1 a1_2))) else (spec_TopJoin.j0 k true l0_0 a0_1 a0_2 l1_0 a1_1 a1_2))) = some (r1, r2, r3, r4) := h
 clear h;have HC3 := Aside0.mk H;clear H
 go_enter Try.func18, Try.ntmps18
 go_upto_region 1 with (first | ((with_reducible refine gate_dst (N := 2) rfl ?_); refine box_event ?hg (N := 2) ?hd (cs := #[.slice A0_0 l0_0.length c0_0, .int .i64 a0_1, .int .i64 a0_2]) (t := 25) ?hr ?_; (case hd => rfl); (case hg => rfl); (case hr => exact q18_14); intro gb335 hg w4 hbox hb; have n1_ := Aside0.mk (hbox); have n2_ := Aside0.mk ((by rw [hg]; exact (below_size q18_7) : w.heap.size ≤ gb335)); have n3_ := Aside0.mk ((by rw [hg]; exact (below_size q18_7) : w.heap.size ≤ gb335)); replace HB := Aside0.mk (below_step q18_7 hb); have BK335 := n1_; have GW335 := n2_; have GE335 := n3_; clear n1_ n2_ n3_; clear hb hbox hg) | ((with_reducible refine gate_dst (N := 3) rfl ?_); refine box_event ?hg (N := 3) ?hd (cs := #[.slice A1_0 l1_0.length c1_0, .int .i64 a1_1, .int .i64 a1_2]) (t := 25) ?hr ?_; (case hd => rfl); (case hg => rfl); (case hr => exact q18_14); intro gb336 hg w5 hbox hb; have n2_ := Aside0.mk (hbox); have n3_ := Aside0.mk ((by rw [hg]; exact (below_size q18_5) : w.heap.size ≤ gb336)); have n4_ := Aside0.mk ((by rw [hg]; exact (below_size q18_5) : w.heap.size ≤ gb336)); have n5_ := Aside0.mk ((q18_12 : gb335 ≠ gb336)); have n6_ := Aside0.mk ((q18_13 : gb336 ≠ gb335)); replace BK335 := z18bb BK335 hb; replace HB := Aside0.mk (below_step q18_5 hb); have BK336 := n2_; have GW336 := n3_; have GE336 := n4_; have NB335_336 := n5_; have NB336_335 := n6_; clear n2_ n3_ n4_ n5_ n6_; clear hb hbox hg) | ((with_reducible refine gate_dst (N := 4) rfl ?_); refine box_event ?hg (N := 4) ?hd (cs := #[.slice none 0 0, .int .i64 0, .int .i64 0]) (t := 25) ?hr ?_; (case hd => rfl); (case hg => rfl); (case hr => exact q18_14); intro gb337 hg w6 hbox hb; have n3_ := Aside0.mk (hbox); have n4_ := Aside0.mk ((by rw [hg]; exact (below_size q18_3) : w.heap.size ≤ gb337)); have n5_ := Aside0.mk ((by rw [hg]; exact (below_size q18_3) : w.heap.size ≤ gb337)); have n6_ := Aside0.mk ((q18_12 : gb335 ≠ gb337)); have n7_ := Aside0.mk ((q18_13 : gb337 ≠ gb335)); have n8_ := Aside0.mk ((by rw [hg]; exact Nat.ne_of_lt (blk_lt (g := gb336) (o := .cells #[.slice A1_0 l1_0.length c1_0, .int .i64 a1_1, .int .i64 a1_2] 25 (0, 0)) q18_8) : gb336 ≠ gb337)); have n9_ := Aside0.mk ((by rw [hg]; exact Nat.ne_of_gt (blk_lt (g := gb336) (o := .cells #[.slice A1_0 l1_0.length c1_0, .int .i64 a1_1, .int .i64 a1_2] 25 (0, 0)) q18_8) : gb337 ≠ gb336)); replace BK335 := z18bb BK335 hb; replace BK336 := z18bb BK336 hb; replace HB := Aside0.mk (below_step q18_3 hb); have BK337 := n3_; have GW337 := n4_; have GE337 := n5_; have NB335_337 := n6_; have NB337_335 := n7_; have NB336_337 := n8_; have NB337_336 := n9_; clear n3_ n4_ n5_ n6_ n7_ n8_ n9_; clear hb hbox hg))
 (try simp only [Act.put, List.setIfInBounds_toArray, List.set_cons_zero, List.set_cons_succ])
 go_cut [23] (fun v23 wc => ∃ (kq : Nat) (x23_2 : Bool), v23 = .bool x23_2 ∧ Aside0 (spec_TopJoin.j0 kq x23_2 l0_0 a0_1 a0_2 l1_0 a1_1 a1_2 = some (r1, r2, r3, r4)) ∧ Aside0 (kq ≤ k) ∧ Aside0 (wc.heap[gb335]? = some (.cells #[(.slice A0_0 l0_0.length c0_0), .int .i64 a0_1, .int .i64 a0_2] 25 (0, 0))) ∧ Aside0 (wc.heap[gb336]? = some (.cells #[(.slice A1_0 l1_0.length c1_0), .int .i64 a1_1, .int .i64 a1_2] 25 (0, 0))) ∧ Aside0 (wc.heap[gb337]? = some (.cells #[(.slice none 0 0), .int .i64 0, .int .i64 0] 25 (0, 0))) ∧ Aside0 (Below w.heap.size w wc))
 case first =>
  have H := HC3.out;clear HC3
  replace H := Option.bind_eq_some_iff.mp H
  obtain ⟨t338, A70, H⟩ := H
  replace H : (if t338 = true then ((spec_TopOk.f k l1_0 a1_1 a1_2).bind fun t339 => (if t339 = true then (spec_TopJoin.j0 k (decide ((wrap64 (a0_2 + a1_2)) > 2000)) l0_0 a0_1 a0_2 l1_0 a1_1 a1_2) else (spec_TopJoin.j0 k true l0_0 a0_1 a0_2 l1_0 a1_1 a1_2))) else (spec_TopJoin.j0 k true l0_0 a0_1 a0_2 l1_0 a1_1 a1_2)) = some (r1, r2, r3, r4) := H
  have A7 := Aside0.mk A70;clear A70
  by_cases c8 : t338 = true
  ·
   subst c8
   have H1 : ((spec_TopOk.f k l1_0 a1_1 a1_2).bind fun t339 => (if t339 = true then (spec_TopJoin.j0 k (decide ((wrap64 (a0_2 + a1_2)) > 2000)) l0_0 a0_1 a0_2 l1_0 a1_1 a1_2) else (spec_TopJoin.j0 k true l0_0 a0_1 a0_2 l1_0 a1_1 a1_2))) = some (r1, r2, r3, r4) := by rw [if_pos rfl] at H; exact H
   clear H;have H := H1;clear H1
   replace H := Option.bind_eq_some_iff.mp H
   obtain ⟨t339, A90, H⟩ := H
   replace H : (if t339 = true then (spec_TopJoin.j0 k (decide ((wrap64 (a0_2 + a1_2)) > 2000)) l0_0 a0_1 a0_2 l1_0 a1_1 a1_2) else (spec_TopJoin.j0 k true l0_0 a0_1 a0_2 l1_0 a1_1 a1_2)) = some (r1, r2, r3, r4) := H
   have A9 := Aside0.mk A90;clear A90
   by_cases c10 : t339 = true
   ·
    subst c10
    have H1 : (spec_TopJoin.j0 k (decide ((wrap64 (a0_2 + a1_2)) > 2000)) l0_0 a0_1 a0_2 l1_0 a1_1 a1_2) = some (r1, r2, r3, r4) := by rw [if_pos rfl] at H; exact H
    clear H;have H := H1;clear H1
    have H' := Aside0.mk H
    clear H;have hnb11 := NB335_336.out;have hnc11 := NB336_335.out;have hnb12 := NB335_337.out;have hnc12 := NB337_335.out;have hcz13_0 := z18bc BK335 0;have hcz13_1 := z18bc BK335 1;have hcz13_2 := z18bc BK335 2;have hfz13_0 := blk_frozen BK335.out 0;have hfz13_1 := blk_frozen BK335.out 1;have hfz13_2 := blk_frozen BK335.out 2
    go_wp2_with (first | ((with_reducible refine gate_callee (f := 24) rfl ?_); refine goesL_ (some 9) rfl rfl Try.func24 (by kernel_rfl) rfl #[.agg #[.slice A0_0 l0_0.length c0_0, .int .i64 a0_1, .int .i64 a0_2]] rfl q18_1 ?_; (with_reducible refine (spec_TopOk.calls k _ _ l0_0 a0_1 a0_2 true _ ?side1 ?side2 A7.out).mono ?_); (case side1 => exact q18_4); (case side2 => exact HC0_0.out); rintro e w14 ⟨rfl, hb⟩; refine ⟨_, rfl, ?_⟩; replace BK335 := z18bb BK335 hb; replace BK336 := z18bb BK336 hb; replace BK337 := z18bb BK337 hb; replace HB := Aside0.mk (below_step q18_0 hb); (try clear hb); (try clear hb2); (try clear hk); (try clear hi); have hnb15 := NB336_337.out; have hnc15 := NB337_336.out; have hcz16_0 := z18bc BK336 0; have hcz16_1 := z18bc BK336 1; have hcz16_2 := z18bc BK336 2; have hfz16_0 := blk_frozen BK336.out 0; have hfz16_1 := blk_frozen BK336.out 1; have hfz16_2 := blk_frozen BK336.out 2) | (go_at_call 24; (with_reducible refine (spec_TopOk.calls k _ _ l1_0 a1_1 a1_2 true _ ?side1 ?side2 A9.out).mono ?_); (case side1 => exact q18_9); (case side2 => exact HC1_0.out); rintro e w17 ⟨rfl, hb⟩; replace BK335 := z18bb BK335 hb; replace BK336 := z18bb BK336 hb; replace BK337 := z18bb BK337 hb; replace HB := Aside0.mk (below_step q18_0 hb); (try clear hb); (try clear hb2); (try clear hk); (try clear hi); have hcz18_0 := z18bc BK335 0; have hcz18_1 := z18bc BK335 1; have hcz18_2 := z18bc BK335 2; have hfz18_0 := blk_frozen BK335.out 0; have hfz18_1 := blk_frozen BK335.out 1; have hfz18_2 := blk_frozen BK335.out 2; have hcz19_0 := z18bc BK336 0; have hcz19_1 := z18bc BK336 1; have hcz19_2 := z18bc BK336 2; have hfz19_0 := blk_frozen BK336.out 0; have hfz19_1 := blk_frozen BK336.out 1; have hfz19_2 := blk_frozen BK336.out 2))
    go_meet
    case rel => exact ⟨_, (decide ((wrap64 (a0_2 + a1_2)) > 2000)), q18_11, H', ⟨by first | omega | exact Nat.le_refl _⟩, ⟨by (with_reducible repeat (first | refine blk_drewN ?_ _ | refine blk_drew ?_ | refine blk_alloc ?_ _)); exact BK335.out⟩, ⟨by (with_reducible repeat (first | refine blk_drewN ?_ _ | refine blk_drew ?_ | refine blk_alloc ?_ _)); exact BK336.out⟩, ⟨by (with_reducible repeat (first | refine blk_drewN ?_ _ | refine blk_drew ?_ | refine blk_alloc ?_ _)); exact BK337.out⟩, ⟨q18_0⟩⟩
   ·
    replace c10 := Bool.eq_false_iff.mpr c10
    subst c10
    have H1 : (spec_TopJoin.j0 k true l0_0 a0_1 a0_2 l1_0 a1_1 a1_2) = some (r1, r2, r3, r4) := by rw [if_neg (show ¬ (false = true) by decide)] at H; exact H
    clear H;have H := H1;clear H1
    have H' := Aside0.mk H
    clear H;have hnb20 := NB335_336.out;have hnc20 := NB336_335.out;have hnb21 := NB335_337.out;have hnc21 := NB337_335.out;have hcz22_0 := z18bc BK335 0;have hcz22_1 := z18bc BK335 1;have hcz22_2 := z18bc BK335 2;have hfz22_0 := blk_frozen BK335.out 0;have hfz22_1 := blk_frozen BK335.out 1;have hfz22_2 := blk_frozen BK335.out 2
    go_wp2_with (first | ((with_reducible refine gate_callee (f := 24) rfl ?_); refine goesL_ (some 9) rfl rfl Try.func24 (by kernel_rfl) rfl #[.agg #[.slice A0_0 l0_0.length c0_0, .int .i64 a0_1, .int .i64 a0_2]] rfl q18_1 ?_; (with_reducible refine (spec_TopOk.calls k _ _ l0_0 a0_1 a0_2 true _ ?side1 ?side2 A7.out).mono ?_); (case side1 => exact q18_4); (case side2 => exact HC0_0.out); rintro e w23 ⟨rfl, hb⟩; refine ⟨_, rfl, ?_⟩; replace BK335 := z18bb BK335 hb; replace BK336 := z18bb BK336 hb; replace BK337 := z18bb BK337 hb; replace HB := Aside0.mk (below_step q18_0 hb); (try clear hb); (try clear hb2); (try clear hk); (try clear hi); have hnb24 := NB336_337.out; have hnc24 := NB337_336.out; have hcz25_0 := z18bc BK336 0; have hcz25_1 := z18bc BK336 1; have hcz25_2 := z18bc BK336 2; have hfz25_0 := blk_frozen BK336.out 0; have hfz25_1 := blk_frozen BK336.out 1; have hfz25_2 := blk_frozen BK336.out 2) | (go_at_call 24; (with_reducible refine (spec_TopOk.calls k _ _ l1_0 a1_1 a1_2 false _ ?side1 ?side2 A9.out).mono ?_); (case side1 => exact q18_9); (case side2 => exact HC1_0.out); rintro e w26 ⟨rfl, hb⟩; replace BK335 := z18bb BK335 hb; replace BK336 := z18bb BK336 hb; replace BK337 := z18bb BK337 hb; replace HB := Aside0.mk (below_step q18_0 hb); (try clear hb); (try clear hb2); (try clear hk); (try clear hi)))
    go_meet
    case rel => exact ⟨_, (true), q18_11, H', ⟨by first | omega | exact Nat.le_refl _⟩, ⟨by (with_reducible repeat (first | refine blk_drewN ?_ _ | refine blk_drew ?_ | refine blk_alloc ?_ _)); exact BK335.out⟩, ⟨by (with_reducible repeat (first | refine blk_drewN ?_ _ | refine blk_drew ?_ | refine blk_alloc ?_ _)); exact BK336.out⟩, ⟨by (with_reducible repeat (first | refine blk_drewN ?_ _ | refine blk_drew ?_ | refine blk_alloc ?_ _)); exact BK337.out⟩, ⟨q18_0⟩⟩
  ·
   replace c8 := Bool.eq_false_iff.mpr c8
   subst c8
   have H1 : (spec_TopJoin.j0 k true l0_0 a0_1 a0_2 l1_0 a1_1 a1_2) = some (r1, r2, r3, r4) := by rw [if_neg (show ¬ (false = true) by decide)] at H; exact H
   clear H;have H := H1;clear H1
   have H' := Aside0.mk H
   clear H;have hnb27 := NB335_336.out;have hnc27 := NB336_335.out;have hnb28 := NB335_337.out;have hnc28 := NB337_335.out;have hcz29_0 := z18bc BK335 0;have hcz29_1 := z18bc BK335 1;have hcz29_2 := z18bc BK335 2;have hfz29_0 := blk_frozen BK335.out 0;have hfz29_1 := blk_frozen BK335.out 1;have hfz29_2 := blk_frozen BK335.out 2
   go_wp2_with (first | ((with_reducible refine gate_callee (f := 24) rfl ?_); refine goesL_ (some 9) rfl rfl Try.func24 (by kernel_rfl) rfl #[.agg #[.slice A0_0 l0_0.length c0_0, .int .i64 a0_1, .int .i64 a0_2]] rfl q18_1 ?_; (with_reducible refine (spec_TopOk.calls k _ _ l0_0 a0_1 a0_2 false _ ?side1 ?side2 A7.out).mono ?_); (case side1 => exact q18_4); (case side2 => exact HC0_0.out); rintro e w30 ⟨rfl, hb⟩; refine ⟨_, rfl, ?_⟩; replace BK335 := z18bb BK335 hb; replace BK336 := z18bb BK336 hb; replace BK337 := z18bb BK337 hb; replace HB := Aside0.mk (below_step q18_0 hb); (try clear hb); (try clear hb2); (try clear hk); (try clear hi)))
   go_meet
   case rel => exact ⟨_, (true), q18_11, H', ⟨by first | omega | exact Nat.le_refl _⟩, ⟨by (with_reducible repeat (first | refine blk_drewN ?_ _ | refine blk_drew ?_ | refine blk_alloc ?_ _)); exact BK335.out⟩, ⟨by (with_reducible repeat (first | refine blk_drewN ?_ _ | refine blk_drew ?_ | refine blk_alloc ?_ _)); exact BK336.out⟩, ⟨by (with_reducible repeat (first | refine blk_drewN ?_ _ | refine blk_drew ?_ | refine blk_alloc ?_ _)); exact BK337.out⟩, ⟨q18_0⟩⟩
 case rest =>
  clear HC3
  try clear c1
  try clear c2
  try clear p2
  try clear p6
  try clear c8
  try clear c10
  try clear c11
  try clear c12
  try clear c15
  try clear c18
  try clear c20
  try clear c21
  try clear c24
  try clear c27
  try clear c28
  try clear hcz13_0
  try clear hcz13_1
  try clear hcz13_2
  try clear hcz16_0
  try clear hcz16_1
  try clear hcz16_2
  try clear hcz18_0
  try clear hcz18_1
  try clear hcz18_2
  try clear hcz19_0
  try clear hcz19_1
  try clear hcz19_2
  try clear hcz22_0
  try clear hcz22_1
  try clear hcz22_2
  try clear hcz25_0
  try clear hcz25_1
  try clear hcz25_2
  try clear hcz29_0
  try clear hcz29_1
  try clear hcz29_2
  try clear hfz13_0
  try clear hfz13_1
  try clear hfz13_2
  try clear hfz16_0
  try clear hfz16_1
  try clear hfz16_2
  try clear hfz18_0
  try clear hfz18_1
  try clear hfz18_2
  try clear hfz19_0
  try clear hfz19_1
  try clear hfz19_2
  try clear hfz22_0
  try clear hfz22_1
  try clear hfz22_2
  try clear hfz25_0
  try clear hfz25_1
  try clear hfz25_2
  try clear hfz29_0
  try clear hfz29_1
  try clear hfz29_2
  obtain ⟨kq, x23_2, rfl, HA, HJ2, BK335, BK336, BK337, HB⟩ := hcut
  cases kq with
  | zero => exact absurd HA.out (by simp [spec_TopJoin.j0])
  | succ kj2 =>
   have H := HA.out;clear HA
   simp only [spec_TopJoin.j0] at H
   by_cases c31 : x23_2 = true
   ·
    subst c31
    have H1 : (some (([] : List (S54)), 0, 0, false)) = some (r1, r2, r3, r4) := by rw [if_pos rfl] at H; exact H
    clear H;have H := H1;clear H1
    simp only [Option.some.injEq, Prod.mk.injEq] at H
    obtain ⟨rfl, rfl, rfl, rfl⟩ := H;have hnb32 := NB337_335.out;have hnc32 := NB335_337.out;have hnb33 := NB337_336.out;have hnc33 := NB336_337.out;have hcz34_0 := z18bc BK337 0;have hcz34_1 := z18bc BK337 1;have hcz34_2 := z18bc BK337 2;have hfz34_0 := blk_frozen BK337.out 0;have hfz34_1 := blk_frozen BK337.out 1;have hfz34_2 := blk_frozen BK337.out 2
    go_wp2
    refine bodyPost_ret (results_ct rfl _ _ gb337 25 #[.slice none 0 0, .int .i64 0, .int .i64 0] (0, 0) _ rfl (by (with_reducible repeat (first | refine blk_drewN ?_ _ | refine blk_drew ?_ | refine blk_alloc ?_ _)); refine blk_put (cs := #[.slice none 0 0, .int .i64 0, .int .i64 0]) ?_ 2 _ rfl; (with_reducible repeat (first | refine blk_drewN ?_ _ | refine blk_drew ?_ | refine blk_alloc ?_ _)); refine blk_put (cs := #[.slice none 0 0, .int .i64 0, .int .i64 0]) ?_ 1 _ rfl; (with_reducible repeat (first | refine blk_drewN ?_ _ | refine blk_drew ?_ | refine blk_alloc ?_ _)); refine blk_put (cs := #[.slice none 0 0, .int .i64 0, .int .i64 0]) ?_ 0 _ rfl; (with_reducible repeat (first | refine blk_drewN ?_ _ | refine blk_drew ?_ | refine blk_alloc ?_ _)); exact BK337.out) Try.underlying25 rfl (by kernel_rfl)) rfl ?_
    exact ⟨_, by first | rfl | (simp [errW_none, errW_some] <;> rfl) | (simp [*, errW_none, errW_some] <;> rfl), by first | exact Kd.R_nil _ _ _ _ _ | exact Kd.N_nil _ _ _ _ _ | exact Kd.V_nil _ _ _ _ _ | exact Kd.Q_nil _ _ _ _ _ | exact Kd.S_nil _ _ _ _ _, q18_0⟩
   ·
    replace c31 := Bool.eq_false_iff.mpr c31
    subst c31
    have H1 : ((some (([] : List (S54)) : List (S54))).bind fun y340 => (if y340.length + l0_0.length < 8796093022208 then (spec_TopJoin.l0 kj2 (y340 ++ l0_0) 0 l0_0 a0_1 a0_2 l1_0 a1_1 a1_2) else (none))) = some (r1, r2, r3, r4) := by rw [if_neg (show ¬ (false = true) by decide)] at H; exact H
    clear H;have H := H1;clear H1;obtain ⟨y340, hy340⟩ : ∃ y_ : List (S54), y_ = (([] : List (S54))) := ⟨_, rfl⟩
    replace H : (if y340.length + l0_0.length < 8796093022208 then (spec_TopJoin.l0 kj2 (y340 ++ l0_0) 0 l0_0 a0_1 a0_2 l1_0 a1_1 a1_2) else (none)) = some (r1, r2, r3, r4) := by first | (rw [hy340]; with_reducible exact H) | (have H2_ := (Option.bind_some _ _).symm.trans H; rw [hy340]; with_reducible exact H2_) | (have H2_ := (Option.bind_some _ _).symm.trans H; with_reducible exact H2_) | with_reducible exact H | (rw [hy340]; exact H) | exact H
    have Ny340 := Aside0.mk hy340;clear hy340
    by_cases c35 : y340.length + l0_0.length < 8796093022208
    ·
     rw [if_pos c35] at H
     have LMc35 := Aside0.mk c35;clear c35;obtain ⟨y343, hy343⟩ : ∃ y_ : List (S54), y_ = (y340 ++ l0_0) := ⟨_, rfl⟩
     replace H : (spec_TopJoin.l0 kj2 y343 0 l0_0 a0_1 a0_2 l1_0 a1_1 a1_2) = some (r1, r2, r3, r4) := by first | (rw [hy343]; with_reducible exact H) | (have H2_ := (Option.bind_some _ _).symm.trans H; rw [hy343]; with_reducible exact H2_) | (have H2_ := (Option.bind_some _ _).symm.trans H; with_reducible exact H2_) | with_reducible exact H | (rw [hy343]; exact H) | exact H
     have Ny343 := Aside0.mk hy343;clear hy343
     have H' := Aside0.mk H
     clear H
     go_wp2_with (first | ((with_reducible refine gate_dst (N := 25) rfl ?_); refine Kd.R_lit k54 _ 54 ?hg (N := 25) ?hd (xs := ([] : List (S54))) (inner := []) (ok := fun _ => True) (okp := fun _ => True) ?hr ?hp (fun _ hk => hk) trivial (Below.refl _ _) (Nat.le_refl _) (by simp) ?_; (case hd => rfl); (case hg => rfl); (case hr => exact q18_14); (case hp => exact (Reps.none _ _)); intro v341 w36 ho37 hb hg_ hnew_; clear hg_ hnew_; (first | rw [← Ny340.out] at ho37 | (simp only [Int.reduceToNat] at ho37; rw [← Ny340.out] at ho37)); have n0_ := Aside0.mk (Kd.R_lower ho37 (below_size q18_0)); replace BK335 := z18bb BK335 hb; replace BK336 := z18bb BK336 hb; replace BK337 := z18bb BK337 hb; replace HB := Aside0.mk (below_step q18_0 hb); have HO342 := n0_; clear n0_; clear hb ho37; have hnb38 := NB335_336.out; have hnc38 := NB336_335.out; have hnb39 := NB335_337.out; have hnc39 := NB337_335.out; have hcz40_0 := z18bc BK335 0; have hcz40_1 := z18bc BK335 1; have hcz40_2 := z18bc BK335 2; have hfz40_0 := blk_frozen BK335.out 0; have hfz40_1 := blk_frozen BK335.out 1; have hfz40_2 := blk_frozen BK335.out 2) | ((with_reducible refine gate_builtin (b := .append) (xs := #[.tmp 25, .tmp 27]) rfl ?_); at_builtin; refine Kd.R_append_rows k54 (w0 := w) w.heap.size rfl (.tmp 25) (.tmp 27) 23 54 (.agg #[(.int .i64 0), (.int .i64 0)]) 16 rfl Try.underlying23 info54 rfl (by decide) (by omega) v341 y340 l0_0 _ _ _ (fun _ => True) (fun _ => False) rfl rfl ?aO ?aR (fun _ _ h => h) (fun _ h => h.elim) ?aF ?aB ?aS ?aL ?_; (case aR => repeat (first | exact (Kd.C_below HR0_0.out HB.out) | (with_reducible refine Kd.C_alloc ?_ _) | (with_reducible refine Kd.C_drewN ?_ _) | (with_reducible refine Kd.C_drew ?_))); (case aB => exact q18_0); (case aF => exact (fun _ _ => trivial)); (case aO => exact (by (with_reducible repeat (first | apply Kd.R_alloc | apply Kd.R_drewN | apply Kd.R_drew)); exact HO342.out)); (case aS => exact (below_size q18_0)); (case aL => have := LMc35.out; omega); intro v344 w41 ho hb hg hat; rw [← Ny343.out] at ho; have n0_ := Aside0.mk (blk_grown (g := gb335) (o := .cells #[.slice A0_0 l0_0.length c0_0, .int .i64 a0_1, .int .i64 a0_2] 25 (0, 0)) q18_2 hg (Kd.R_ne HO342.out BK335.out (by decide))); have n1_ := Aside0.mk (blk_grown (g := gb336) (o := .cells #[.slice A1_0 l1_0.length c1_0, .int .i64 a1_1, .int .i64 a1_2] 25 (0, 0)) q18_8 hg (Kd.R_ne HO342.out BK336.out (by decide))); have n2_ := Aside0.mk (blk_grown (g := gb337) (o := .cells #[.slice none 0 0, .int .i64 0, .int .i64 0] 25 (0, 0)) (by (with_reducible repeat (first | refine blk_drewN ?_ _ | refine blk_drew ?_ | refine blk_alloc ?_ _)); exact BK337.out) hg (Kd.R_ne HO342.out BK337.out (by decide))); have n4_ := Aside0.mk (ho); replace HB := Aside0.mk (hb); clear BK335; clear BK336; clear BK337; clear HO342; have BK335 := n0_; have BK336 := n1_; have BK337 := n2_; have HO345 := n4_; clear n0_ n1_ n2_ n4_; clear ho hb hg hat))
     go_loopg [6, 7] kj2 (fun kq v6 v7 w' => ∃ (x6_2 : List (S54)) (x7_2 : Int), v7 = .int .i64 x7_2 ∧ Aside0 (spec_TopJoin.l0 kq x6_2 x7_2 l0_0 a0_1 a0_2 l1_0 a1_1 a1_2 = some (r1, r2, r3, r4)) ∧ Aside0 (kq ≤ kj2) ∧ Aside0 (Kd.R k54 54 w' w.heap.size (fun _ => True) v6 x6_2) ∧ Aside0 (w'.heap[gb335]? = some (.cells #[(.slice A0_0 l0_0.length c0_0), .int .i64 a0_1, .int .i64 a0_2] 25 (0, 0))) ∧ Aside0 (w'.heap[gb336]? = some (.cells #[(.slice A1_0 l1_0.length c1_0), .int .i64 a1_1, .int .i64 a1_2] 25 (0, 0))) ∧ Aside0 (w'.heap[gb337]? = some (.cells #[(.slice none 0 0), .int .i64 0, .int .i64 0] 25 (0, 0))) ∧ Aside0 (Below w.heap.size w w'))
     case atStart => exact ⟨(y343), (0), q18_11, H', ⟨Nat.le_refl _⟩, ⟨by (with_reducible repeat (first | apply Kd.R_alloc | apply Kd.R_drewN | apply Kd.R_drew)); exact HO345.out⟩, ⟨by (with_reducible repeat (first | refine blk_drewN ?_ _ | refine blk_drew ?_ | refine blk_alloc ?_ _)); exact BK335.out⟩, ⟨by (with_reducible repeat (first | refine blk_drewN ?_ _ | refine blk_drew ?_ | refine blk_alloc ?_ _)); exact BK336.out⟩, ⟨by (with_reducible repeat (first | refine blk_drewN ?_ _ | refine blk_drew ?_ | refine blk_alloc ?_ _)); exact BK337.out⟩, ⟨q18_0⟩⟩
     case round =>
      clear H'
      try clear c1
      try clear c2
      try clear p2
      try clear c3
      try clear p6
      try clear c8
      try clear c10
      try clear c11
      try clear c12
      try clear c15
      try clear c18
      try clear c20
      try clear c21
      try clear c24
      try clear c27
      try clear c28
      try clear c31
      try clear c32
      try clear c33
      try clear c35
      try clear c38
      try clear c39
      try clear hcz13_0
      try clear hcz13_1
      try clear hcz13_2
      try clear hcz16_0
      try clear hcz16_1
      try clear hcz16_2
      try clear hcz18_0
      try clear hcz18_1
      try clear hcz18_2
      try clear hcz19_0
      try clear hcz19_1
      try clear hcz19_2
      try clear hcz22_0
      try clear hcz22_1
      try clear hcz22_2
      try clear hcz25_0
      try clear hcz25_1
      try clear hcz25_2
      try clear hcz29_0
      try clear hcz29_1
      try clear hcz29_2
      try clear hcz34_0
      try clear hcz34_1
      try clear hcz34_2
      try clear hcz40_0
      try clear hcz40_1
      try clear hcz40_2
      try clear hfz13_0
      try clear hfz13_1
      try clear hfz13_2
      try clear hfz16_0
      try clear hfz16_1
      try clear hfz16_2
      try clear hfz18_0
      try clear hfz18_1
      try clear hfz18_2
      try clear hfz19_0
      try clear hfz19_1
      try clear hfz19_2
      try clear hfz22_0
      try clear hfz22_1
      try clear hfz22_2
      try clear hfz25_0
      try clear hfz25_1
      try clear hfz25_2
      try clear hfz29_0
      try clear hfz29_1
      try clear hfz29_2
      try clear hfz34_0
      try clear hfz34_1
      try clear hfz34_2
      try clear hfz40_0
      try clear hfz40_1
      try clear hfz40_2
      try clear p2
      try clear p6
      obtain ⟨x6_2, x7_2, rfl, HA, HK2, HO_6, BK335, BK336, BK337, HB⟩ := hrel
      cases gk with
      | zero => exact absurd HA.out (by simp [spec_TopJoin.l0])
      | succ k2 =>
       have H := HA.out;clear HA
       simp only [spec_TopJoin.l0] at H
       by_cases c42 : x7_2 < (l1_0.length : Int)
       ·
        rw [if_pos c42] at H
        have c42b0 : decide (x7_2 < (l1_0.length : Int)) = true := decide_eq_true c42
        clear c42
        by_cases c43 : 0 ≤ x7_2
        ·
         rw [if_pos c43] at H
         have c43b0 : decide (0 ≤ x7_2) = true := decide_eq_true c43
         clear c43
         replace H := Option.bind_eq_some_iff.mp H
         obtain ⟨t347, A440, H⟩ := H
         replace H : (spec_TopJoin.l0 k2 t347 (wrap64 (x7_2 + 1)) l0_0 a0_1 a0_2 l1_0 a1_1 a1_2) = some (r1, r2, r3, r4) := H
         have A44 := Aside0.mk A440;clear A440
         have H' := Aside0.mk H
         clear H;have hnb45 := NB336_335.out;have hnc45 := NB335_336.out;have hnb46 := NB336_337.out;have hnc46 := NB337_336.out;have hcz47_0 := z18bc BK336 0;have hcz47_1 := z18bc BK336 1;have hcz47_2 := z18bc BK336 2;have hfz47_0 := blk_frozen BK336.out 0;have hfz47_1 := blk_frozen BK336.out 1;have hfz47_2 := blk_frozen BK336.out 2
         have p346 : 0 ≤ (x7_2 : Int) := of_decide_eq_true (by first | (with_reducible assumption) | assumption)
         have q346 : x7_2 < (l1_0.length : Int) := of_decide_eq_true (by first | (with_reducible assumption) | assumption)
         obtain ⟨ad346, e346, hx346_0, hx346_1⟩ := at_T54 HR1_0.out x7_2 p346 q346
         cases e346
         replace hx346_0 := (HB.out.cell (World.block_lt_of_cell? w _ hx346_0)).trans hx346_0
         replace hx346_1 := (HB.out.cell (World.block_lt_of_cell? w _ hx346_1)).trans hx346_1
         replace p346 := eq_true p346
         replace q346 := eq_true q346
         obtain ⟨Ao48, co48, eo48⟩ := Kd.R_slice HO_6.out;subst eo48
         go_wp2_with (first | ((with_reducible refine gate_callee (f := 27) rfl ?_); refine goesL_ (some 42) rfl rfl Try.func27 (by kernel_rfl) rfl #[.slice Ao48 x6_2.length co48, .agg #[.int .i64 ((rd_T54 l1_0 x7_2).f0), .int .i64 ((rd_T54 l1_0 x7_2).f1)]] rfl q18_1 ?_; (with_reducible refine (spec_l3Put.calls k2 _ _ x6_2 ((rd_T54 l1_0 x7_2).f0) ((rd_T54 l1_0 x7_2).f1) t347 _ ?side1 ?side2 A44.out).mono ?_); (case side1 => exact q18_10); (case side2 => exact (Kd.R_reads' HO_6.out).2.1); rintro e w49 ⟨v348, rfl, ho0, hb⟩; refine ⟨_, rfl, ?_⟩; have n1_ := Aside0.mk (Kd.R_lower (Kd.R_new' ho0 (Kd.R_lt q18_6)) (below_size q18_0)); replace HO_6 := Aside0.mk (Kd.R_elder' q18_6 (Kd.R_base ho0) hb); replace BK335 := z18bb BK335 hb; replace BK336 := z18bb BK336 hb; replace BK337 := z18bb BK337 hb; replace HB := Aside0.mk (below_step q18_0 hb); have HO349 := n1_; clear n1_; (try clear hb); (try clear hb2); (try clear hk); (try clear hi); (try clear ho0)))
         go_roundg k2
         case measure => have := HJ2.out; have := HK2.out; omega
         case rel => exact ⟨(t347), (wrap64 (x7_2 + 1)), q18_11, H', ⟨by have := HJ2.out; have := HK2.out; omega⟩, ⟨by (with_reducible repeat (first | apply Kd.R_alloc | apply Kd.R_drewN | apply Kd.R_drew)); exact Kd.R_mono HO349.out (fun _ hk => trivial)⟩, ⟨by (with_reducible repeat (first | refine blk_drewN ?_ _ | refine blk_drew ?_ | refine blk_alloc ?_ _)); exact BK335.out⟩, ⟨by (with_reducible repeat (first | refine blk_drewN ?_ _ | refine blk_drew ?_ | refine blk_alloc ?_ _)); exact BK336.out⟩, ⟨by (with_reducible repeat (first | refine blk_drewN ?_ _ | refine blk_drew ?_ | refine blk_alloc ?_ _)); exact BK337.out⟩, ⟨q18_0⟩⟩
        ·
         rw [if_neg c43] at H
         exact absurd H (by simp)
       ·
        rw [if_neg c42] at H
        have c42b0 : decide (x7_2 < (l1_0.length : Int)) = false := decide_eq_false c42
        clear c42
        replace H := Option.bind_eq_some_iff.mp H
        obtain ⟨⟨t350, t353, t354⟩, A500, H⟩ := H
        replace H : (some (t350, t353, t354, true)) = some (r1, r2, r3, r4) := H
        have A50 := Aside0.mk A500;clear A500
        simp only [Option.some.injEq, Prod.mk.injEq] at H
        obtain ⟨rfl, rfl, rfl, rfl⟩ := H;have hnb51 := NB336_335.out;have hnc51 := NB335_336.out;have hnb52 := NB336_337.out;have hnc52 := NB337_336.out;have hcz53_0 := z18bc BK336 0;have hcz53_1 := z18bc BK336 1;have hcz53_2 := z18bc BK336 2;have hfz53_0 := blk_frozen BK336.out 0;have hfz53_1 := blk_frozen BK336.out 1;have hfz53_2 := blk_frozen BK336.out 2;have hnb54 := NB335_337.out;have hnc54 := NB337_335.out;have hcz55_0 := z18bc BK335 0;have hcz55_1 := z18bc BK335 1;have hcz55_2 := z18bc BK335 2;have hfz55_0 := blk_frozen BK335.out 0;have hfz55_1 := blk_frozen BK335.out 1;have hfz55_2 := blk_frozen BK335.out 2;obtain ⟨Ao56, co56, eo56⟩ := Kd.R_slice HO_6.out;subst eo56
        go_wp2_with (first | ((with_reducible refine gate_callee (f := 26) rfl ?_); refine goesL_ (some 55) rfl rfl Try.func26 (by kernel_rfl) rfl #[.agg #[.slice Ao56 x6_2.length co56, .int .i64 (wrap64 (a0_1 + a1_1)), .int .i64 (wrap64 (a0_2 + a1_2))]] rfl q18_1 ?_; (with_reducible refine (spec_l3Cut.calls k2 _ _ x6_2 (wrap64 (a0_1 + a1_1)) (wrap64 (a0_2 + a1_2)) t350 t353 t354 _ ?side1 ?side2 A50.out).mono ?_); (case side1 => exact q18_10); (case side2 => exact (Kd.R_reads' HO_6.out).2.1); rintro e w57 ⟨v351, rfl, ho0, hb⟩; refine ⟨_, rfl, ?_⟩; have n1_ := Aside0.mk (Kd.R_lower (Kd.R_new' ho0 (Kd.R_lt q18_6)) (below_size q18_0)); replace HO_6 := Aside0.mk (Kd.R_elder' q18_6 (Kd.R_base ho0) hb); replace BK335 := z18bb BK335 hb; replace BK336 := z18bb BK336 hb; replace BK337 := z18bb BK337 hb; replace HB := Aside0.mk (below_step q18_0 hb); have HO352 := n1_; clear n1_; (try clear hb); (try clear hb2); (try clear hk); (try clear hi); (try clear ho0); obtain ⟨Ao58, co58, eo58⟩ := Kd.R_slice HO352.out; subst eo58; have hcz59_0 := z18bc BK337 0; have hcz59_1 := z18bc BK337 1; have hcz59_2 := z18bc BK337 2; have hfz59_0 := blk_frozen BK337.out 0; have hfz59_1 := blk_frozen BK337.out 1; have hfz59_2 := blk_frozen BK337.out 2))
        refine bodyPost_ret (results_ct rfl _ _ gb337 25 #[.slice Ao58 t350.length co58, .int .i64 t353, .int .i64 t354] (0, 0) _ rfl (by (with_reducible repeat (first | refine blk_drewN ?_ _ | refine blk_drew ?_ | refine blk_alloc ?_ _)); refine blk_put (cs := #[.slice Ao58 t350.length co58, .int .i64 t353, .int .i64 0]) ?_ 2 _ rfl; (with_reducible repeat (first | refine blk_drewN ?_ _ | refine blk_drew ?_ | refine blk_alloc ?_ _)); refine blk_put (cs := #[.slice Ao58 t350.length co58, .int .i64 0, .int .i64 0]) ?_ 1 _ rfl; (with_reducible repeat (first | refine blk_drewN ?_ _ | refine blk_drew ?_ | refine blk_alloc ?_ _)); refine blk_put (cs := #[.slice none 0 0, .int .i64 0, .int .i64 0]) ?_ 0 _ rfl; (with_reducible repeat (first | refine blk_drewN ?_ _ | refine blk_drew ?_ | refine blk_alloc ?_ _)); exact BK337.out) Try.underlying25 rfl (by kernel_rfl)) rfl ?_
        exact ⟨_, by first | rfl | (simp [errW_none, errW_some] <;> rfl) | (simp [*, errW_none, errW_some] <;> rfl), by (with_reducible repeat (first | apply Kd.R_alloc | apply Kd.R_drewN | apply Kd.R_drew)); exact Kd.R_mono (Kd.R_far (p := ⟨gb337, 2, none⟩) (Kd.R_far (p := ⟨gb337, 1, none⟩) (Kd.R_far (p := ⟨gb337, 0, none⟩) (Kd.R_types HO352.out BK337.out (by decide)) (fun _ hk => hk.2) (.slice Ao58 t350.length co58)) (fun _ hk => hk.2) (.int .i64 t353)) (fun _ hk => hk.2) (.int .i64 t354)) (fun _ hk => trivial), q18_0⟩
    ·
     rw [if_neg c35] at H
     exact absurd H (by simp)

end Go.Proofs.Ytlobnnakikgcnaa.PA
