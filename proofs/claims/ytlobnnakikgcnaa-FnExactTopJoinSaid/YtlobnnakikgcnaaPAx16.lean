-- Made by a program of this session (wip/tools/pr2.sh) out of the translation, by way of the printer: shared by the seat's laws.
import Derived.Test.YtlobnnakikgcnaaPAx0
namespace Go.Proofs.Ytlobnnakikgcnaa.PA
open Go.RowKit Go.Proofs.YtlobnnakikgcnaaW.PrintWords Go.Proofs.YtlobnnakikgcnaaW.PrintLast Go.Proofs.YtlobnnakikgcnaaW.PrintMore
attribute [local go_sem] max2_int min2_int max_two min_two max_three min_three max_four min_four   -- for this text's walks alone
set_option linter.unusedVariables false
set_option linter.unusedSimpArgs false

/-! ### impl_TopOk: function 12 -/
mutual
def impl_TopOk.j0 : Nat → Bool → List (S54) → Int → Int → Option (Bool)
  | 0, _, _, _, _ => none
  | k + 1, x30, x238000, x238001, x238002 => if x30 = true then (some false) else (impl_TopOk.l0 k (wrap64 (x238001 * 5)) (-1) x238000 (x238000.length : Int) 0 x238000 x238001 x238002)
def impl_TopOk.l0 : Nat → Int → Int → List (S54) → Int → Int → List (S54) → Int → Int → Option (Bool)
  | 0, _, _, _, _, _, _, _, _ => none
  | k + 1, x3, x4, x35, x36, x37, x238000, x238001, x238002 => if x37 < x36 then (if 0 ≤ x37 then (if x37 < (x35.length : Int) then (if ((rd_T54 x35 x37).f0) ≤ x4 then (some false) else (if ((rd_T54 x35 x37).f0) ≥ 64 then (some false) else (if ((rd_T54 x35 x37).f1) < 1 then (some false) else (if ((rd_T54 x35 x37).f1) > 2000 then (some false) else (impl_TopOk.l0 k (wrap64 (x3 + ((rd_T54 x35 x37).f1))) ((rd_T54 x35 x37).f0) x35 x36 (wrap64 (x37 + 1)) x238000 x238001 x238002))))) else (none)) else (none)) else (some (decide (x3 ≤ x238002)))
end
def impl_TopOk.f (k : Nat) (l0_0 : List (S54)) (a0_1 : Int) (a0_2 : Int) : Option (Bool) := if (l0_0.length : Int) > 4 then (impl_TopOk.j0 k true l0_0 a0_1 a0_2) else (if a0_1 < 0 then (impl_TopOk.j0 k true l0_0 a0_1 a0_2) else (if a0_1 > 2000 then (impl_TopOk.j0 k true l0_0 a0_1 a0_2) else (if a0_2 < 0 then (impl_TopOk.j0 k true l0_0 a0_1 a0_2) else (impl_TopOk.j0 k (decide (a0_2 > 2000)) l0_0 a0_1 a0_2))))
theorem impl_TopOk.mono_l : ∀ k, (∀ y0 y1 y2 y3, LeO (impl_TopOk.j0 k y0 y1 y2 y3) (impl_TopOk.j0 (k + 1) y0 y1 y2 y3)) ∧ (∀ y0 y1 y2 y3 y4 y5 y6 y7, LeO (impl_TopOk.l0 k y0 y1 y2 y3 y4 y5 y6 y7) (impl_TopOk.l0 (k + 1) y0 y1 y2 y3 y4 y5 y6 y7))
  | 0 => ⟨fun _ _ _ _ r h => by simp [impl_TopOk.j0] at h, fun _ _ _ _ _ _ _ _ r h => by simp [impl_TopOk.l0] at h⟩
  | k + 1 => by
    obtain ⟨ih0, ih1⟩ := impl_TopOk.mono_l k
    refine ⟨?_, ?_⟩
    · intro y0 y1 y2 y3
      unfold impl_TopOk.j0
      repeat' first
      | (with_reducible exact ih0 _ _ _ _)
      | (with_reducible exact ih1 _ _ _ _ _ _ _ _)
      | (with_reducible exact LeO.refl _)
      | (with_reducible exact LeO.none _)
      | (with_reducible refine LeO.ite ?_ ?_)
      | (with_reducible refine LeO.bind ?_ (fun _ => ?_))
      | exact ih0 _ _ _ _
      | exact ih1 _ _ _ _ _ _ _ _
      | exact LeO.none _
      | refine LeO.ite ?_ ?_
      | refine LeO.bind ?_ (fun _ => ?_)
    · intro y0 y1 y2 y3 y4 y5 y6 y7
      unfold impl_TopOk.l0
      repeat' first
      | (with_reducible exact ih0 _ _ _ _)
      | (with_reducible exact ih1 _ _ _ _ _ _ _ _)
      | (with_reducible exact LeO.refl _)
      | (with_reducible exact LeO.none _)
      | (with_reducible refine LeO.ite ?_ ?_)
      | (with_reducible refine LeO.bind ?_ (fun _ => ?_))
      | exact ih0 _ _ _ _
      | exact ih1 _ _ _ _ _ _ _ _
      | exact LeO.none _
      | refine LeO.ite ?_ ?_
      | refine LeO.bind ?_ (fun _ => ?_)
theorem impl_TopOk.mono : ∀ a0 a1 a2 k, LeO (impl_TopOk.f k a0 a1 a2) (impl_TopOk.f (k + 1) a0 a1 a2) := by
  intro a0 a1 a2 k
  obtain ⟨ih0, ih1⟩ := impl_TopOk.mono_l k
  unfold impl_TopOk.f
  repeat' first
      | (with_reducible exact ih0 _ _ _ _)
      | (with_reducible exact ih1 _ _ _ _ _ _ _ _)
      | (with_reducible exact LeO.refl _)
      | (with_reducible exact LeO.none _)
      | (with_reducible refine LeO.ite ?_ ?_)
      | (with_reducible refine LeO.bind ?_ (fun _ => ?_))
      | exact ih0 _ _ _ _
      | exact ih1 _ _ _ _ _ _ _ _
      | exact LeO.none _
      | refine LeO.ite ?_ ?_
      | refine LeO.bind ?_ (fun _ => ?_)
theorem z12bb {w W w1 : World} {g : Nat} {o : Obj} (h : Aside0 (w.heap[g]? = some o)) (hb : Below W.heap.size W w1) (hp : W.heap[g]? = some o := by (with_reducible repeat (first | refine blk_drewN ?_ _ | refine blk_drew ?_ | refine blk_alloc ?_ _)); exact Aside0.out (by assumption)) : Aside0 (w1.heap[g]? = some o) := ⟨blk_below hp hb⟩
theorem z12bc {w : World} {g t : Nat} {cs : Array Value} (h : Aside0 (w.heap[g]? = some (.cells cs t (0, 0)))) (i : Nat) {u : Value} (e : cs[i]? = some u := by rfl) : w.cell? ⟨g, i, none⟩ = some u := (blk_cell h.out i).trans e
variable {p : Prop}
theorem q12_0 (h : p := by repeat (first | (with_reducible first | exact HB.out | apply below_alloc | apply pw_below_drewN | apply below_drew1 | refine below_set ?_ GE237.out) | exact HB.out)) : p := h
theorem q12_1 (h : p := by rw [hg]; exact Nat.ne_of_lt (blk_lt (g := gb237) (o := .cells #[.slice (some ad238) l0_0.length c0_0, .int .i64 a0_1, .int .i64 a0_2] 25 (0, 0)) (by (with_reducible repeat (first | refine blk_drewN ?_ _ | refine blk_drew ?_ | refine blk_alloc ?_ _)); exact BK237.out))) : p := h
theorem q12_2 (h : p := by rw [hg]; exact Nat.ne_of_gt (blk_lt (g := gb237) (o := .cells #[.slice (some ad238) l0_0.length c0_0, .int .i64 a0_1, .int .i64 a0_2] 25 (0, 0)) (by (with_reducible repeat (first | refine blk_drewN ?_ _ | refine blk_drew ?_ | refine blk_alloc ?_ _)); exact BK237.out))) : p := h
theorem q12_3 (h : p := by repeat (first | (with_reducible first | exact HB.out | apply below_alloc | apply pw_below_drewN | apply below_drew1 | refine below_set ?_ GE237.out | refine below_set ?_ GE239.out) | exact HB.out)) : p := h
theorem q12_4 (h : p := by first | rfl | (simp [errW_none, errW_some] <;> rfl) | (simp [*, errW_none, errW_some] <;> rfl)) : p := h
theorem q12_5 (h : p := by first | rfl | (simp; done) | (simp [*]; done)) : p := h
theorem q12_6 (h : p := by first | (with_reducible assumption) | assumption) : p := h
theorem q12_7 (h : p := by repeat (first | (with_reducible first | exact HB.out | apply below_alloc | apply pw_below_drewN | apply below_drew1) | exact HB.out)) : p := h
theorem q12_8 (h : p := by rw [hg]; exact (below_size q12_0)) : p := h
theorem q12_9 (h : p := by first | (go_simp; done) | (go_simp; rfl)) : p := h
set_option maxHeartbeats 8000000 in
set_option maxRecDepth 100000 in
theorem impl_TopOk.calls (k : Nat) (A0_0 : Option Addr) (c0_0 : Nat) (l0_0 : List (S54)) (a0_1 : Int) (a0_2 : Int) (r : Bool) (w : World) (hr0_0 : Kd.C k54 w A0_0 l0_0.length l0_0) (hc0_0 : l0_0.length ≤ c0_0) (h : impl_TopOk.f k l0_0 a0_1 a0_2 = some r) :
    Calls Try.prog 12 #[.agg #[.slice A0_0 l0_0.length c0_0, .int .i64 a0_1, .int .i64 a0_2]] w fun e w' => e = .returned (.bool r) ∧ Below w.heap.size w w' := by
 have hu25 := Try.underlying25;have hu54 := Try.underlying54;have HR0_0 := Aside0.mk hr0_0;have HC0_0 := Aside0.mk hc0_0;clear hr0_0 hc0_0;have HB := Aside0.mk (Below.refl w.heap.size w)
 have H : (if (l0_0.length : Int) > 4 then (impl_TopOk.j0 k true l0_0 a0_1 a0_2) else (if a0_1 < 0 then (impl_TopOk.j0 k true l0_0 a0_1 a0_2) else (if a0_1 > 2000 then (impl_TopOk.j0 k true l0_0 a0_1 a0_2) else (if a0_2 < 0 then (impl_TopOk.j0 k true l0_0 a0_1 a0_2) else (impl_TopOk.j0 k (decide (a0_2 > 2000)) l0_0 a0_1 a0_2))))) = some r := h
 clear h;have HC2 := Aside0.mk H;clear H
 go_enter Try.func12, Try.ntmps12
 go_upto_region 1 with (first | ((with_reducible refine gate_dst (N := 1) rfl ?_); refine box_event ?hg (N := 1) ?hd (cs := #[.slice A0_0 l0_0.length c0_0, .int .i64 a0_1, .int .i64 a0_2]) (t := 25) ?hr ?_; (case hd => rfl); (case hg => rfl); (case hr => exact q12_9); intro gb237 hg w3 hbox hb; have n1_ := Aside0.mk (hbox); have n2_ := Aside0.mk ((by rw [hg]; exact (below_size q12_7) : w.heap.size ≤ gb237)); have n3_ := Aside0.mk ((by rw [hg]; exact (below_size q12_7) : w.heap.size ≤ gb237)); replace HB := Aside0.mk (below_step q12_7 hb); have BK237 := n1_; have GW237 := n2_; have GE237 := n3_; clear n1_ n2_ n3_; clear hb hbox hg))
 (try simp only [Act.put, List.setIfInBounds_toArray, List.set_cons_zero, List.set_cons_succ])
 go_cut [30] (fun v30 wc => ∃ (kq : Nat) (x30_1 : Bool), v30 = .bool x30_1 ∧ Aside0 (impl_TopOk.j0 kq x30_1 l0_0 a0_1 a0_2 = some r) ∧ Aside0 (kq ≤ k) ∧ Aside0 (wc.heap[gb237]? = some (.cells #[(.slice A0_0 l0_0.length c0_0), .int .i64 a0_1, .int .i64 a0_2] 25 (0, 0))) ∧ Aside0 (Below w.heap.size w wc))
 case first =>
  have H := HC2.out;clear HC2
  by_cases c4 : (l0_0.length : Int) > 4
  ·
   rw [if_pos c4] at H
   have c4b0 : decide (4 < (l0_0.length : Int)) = true := decide_eq_true c4
   have c4b1 : decide (4 < l0_0.length) = true := decide_eq_true (by omega)
   clear c4;(first | rw [c4b0] | (simp only [i64_w, i32_w]; rw [c4b0]) | skip)
   have H' := Aside0.mk H
   clear H;have hcz5_0 := z12bc BK237 0;have hcz5_1 := z12bc BK237 1;have hcz5_2 := z12bc BK237 2;have hfz5_0 := blk_frozen BK237.out 0;have hfz5_1 := blk_frozen BK237.out 1;have hfz5_2 := blk_frozen BK237.out 2
   go_wp2
   go_meet
   case rel => exact ⟨_, (true), q12_5, H', ⟨by first | omega | exact Nat.le_refl _⟩, ⟨by (with_reducible repeat (first | refine blk_drewN ?_ _ | refine blk_drew ?_ | refine blk_alloc ?_ _)); exact BK237.out⟩, ⟨q12_0⟩⟩
  ·
   rw [if_neg c4] at H
   have c4b0 : decide (4 < (l0_0.length : Int)) = false := decide_eq_false c4
   have c4b1 : decide (4 < l0_0.length) = false := decide_eq_false (by omega)
   clear c4;(first | rw [c4b0] | (simp only [i64_w, i32_w]; rw [c4b0]) | skip)
   by_cases c6 : a0_1 < 0
   ·
    rw [if_pos c6] at H
    have c6b0 : decide (a0_1 < 0) = true := decide_eq_true c6
    clear c6
    have H' := Aside0.mk H
    clear H;have hcz7_0 := z12bc BK237 0;have hcz7_1 := z12bc BK237 1;have hcz7_2 := z12bc BK237 2;have hfz7_0 := blk_frozen BK237.out 0;have hfz7_1 := blk_frozen BK237.out 1;have hfz7_2 := blk_frozen BK237.out 2
    go_wp2
    go_meet
    case rel => exact ⟨_, (true), q12_5, H', ⟨by first | omega | exact Nat.le_refl _⟩, ⟨by (with_reducible repeat (first | refine blk_drewN ?_ _ | refine blk_drew ?_ | refine blk_alloc ?_ _)); exact BK237.out⟩, ⟨q12_0⟩⟩
   ·
    rw [if_neg c6] at H
    have c6b0 : decide (a0_1 < 0) = false := decide_eq_false c6
    clear c6
    by_cases c8 : a0_1 > 2000
    ·
     rw [if_pos c8] at H
     have c8b0 : decide (2000 < a0_1) = true := decide_eq_true c8
     clear c8
     have H' := Aside0.mk H
     clear H;have hcz9_0 := z12bc BK237 0;have hcz9_1 := z12bc BK237 1;have hcz9_2 := z12bc BK237 2;have hfz9_0 := blk_frozen BK237.out 0;have hfz9_1 := blk_frozen BK237.out 1;have hfz9_2 := blk_frozen BK237.out 2
     go_wp2
     go_meet
     case rel => exact ⟨_, (true), q12_5, H', ⟨by first | omega | exact Nat.le_refl _⟩, ⟨by (with_reducible repeat (first | refine blk_drewN ?_ _ | refine blk_drew ?_ | refine blk_alloc ?_ _)); exact BK237.out⟩, ⟨q12_0⟩⟩
    ·
     rw [if_neg c8] at H
     have c8b0 : decide (2000 < a0_1) = false := decide_eq_false c8
     clear c8
     by_cases c10 : a0_2 < 0
     ·
      rw [if_pos c10] at H
      have c10b0 : decide (a0_2 < 0) = true := decide_eq_true c10
      clear c10
      have H' := Aside0.mk H
      clear H;have hcz11_0 := z12bc BK237 0;have hcz11_1 := z12bc BK237 1;have hcz11_2 := z12bc BK237 2;have hfz11_0 := blk_frozen BK237.out 0;have hfz11_1 := blk_frozen BK237.out 1;have hfz11_2 := blk_frozen BK237.out 2
      go_wp2
      go_meet
      case rel => exact ⟨_, (true), q12_5, H', ⟨by first | omega | exact Nat.le_refl _⟩, ⟨by (with_reducible repeat (first | refine blk_drewN ?_ _ | refine blk_drew ?_ | refine blk_alloc ?_ _)); exact BK237.out⟩, ⟨q12_0⟩⟩
     ·
      rw [if_neg c10] at H
      have c10b0 : decide (a0_2 < 0) = false := decide_eq_false c10
      clear c10
      have H' := Aside0.mk H
      clear H;have hcz12_0 := z12bc BK237 0;have hcz12_1 := z12bc BK237 1;have hcz12_2 := z12bc BK237 2;have hfz12_0 := blk_frozen BK237.out 0;have hfz12_1 := blk_frozen BK237.out 1;have hfz12_2 := blk_frozen BK237.out 2
      go_wp2
      go_meet
      case rel => exact ⟨_, (decide (a0_2 > 2000)), q12_5, H', ⟨by first | omega | exact Nat.le_refl _⟩, ⟨by (with_reducible repeat (first | refine blk_drewN ?_ _ | refine blk_drew ?_ | refine blk_alloc ?_ _)); exact BK237.out⟩, ⟨q12_0⟩⟩
 case rest =>
  clear HC2
  try clear c1
  try clear p2
  try clear c4
  try clear c4b0
  try clear c4b1
  try clear c6
  try clear c6b0
  try clear c8
  try clear c8b0
  try clear c10
  try clear c10b0
  try clear c12
  try clear hcz11_0
  try clear hcz11_1
  try clear hcz11_2
  try clear hcz12_0
  try clear hcz12_1
  try clear hcz12_2
  try clear hcz5_0
  try clear hcz5_1
  try clear hcz5_2
  try clear hcz7_0
  try clear hcz7_1
  try clear hcz7_2
  try clear hcz9_0
  try clear hcz9_1
  try clear hcz9_2
  try clear hfz11_0
  try clear hfz11_1
  try clear hfz11_2
  try clear hfz12_0
  try clear hfz12_1
  try clear hfz12_2
  try clear hfz5_0
  try clear hfz5_1
  try clear hfz5_2
  try clear hfz7_0
  try clear hfz7_1
  try clear hfz7_2
  try clear hfz9_0
  try clear hfz9_1
  try clear hfz9_2
  obtain ⟨kq, x30_1, rfl, HA, HJ1, BK237, HB⟩ := hcut
  cases kq with
  | zero => exact absurd HA.out (by simp [impl_TopOk.j0])
  | succ kj1 =>
   have H := HA.out;clear HA
   simp only [impl_TopOk.j0] at H
   by_cases c13 : x30_1 = true
   ·
    subst c13
    have H1 : (some false) = some r := by rw [if_pos rfl] at H; exact H
    clear H;have H := H1;clear H1
    obtain rfl := Option.some.inj H
    go_wp2
    go_ret
    exact ⟨q12_4, q12_0⟩
   ·
    replace c13 := Bool.eq_false_iff.mpr c13
    subst c13
    have H1 : (impl_TopOk.l0 kj1 (wrap64 (a0_1 * 5)) (-1) l0_0 (l0_0.length : Int) 0 l0_0 a0_1 a0_2) = some r := by rw [if_neg (show ¬ (false = true) by decide)] at H; exact H
    clear H;have H := H1;clear H1
    have H' := Aside0.mk H
    clear H;have hcz14_0 := z12bc BK237 0;have hcz14_1 := z12bc BK237 1;have hcz14_2 := z12bc BK237 2;have hfz14_0 := blk_frozen BK237.out 0;have hfz14_1 := blk_frozen BK237.out 1;have hfz14_2 := blk_frozen BK237.out 2
    go_wp2
    go_loopg [3, 4, 37] kj1 (fun kq v3 v4 v37 w' => ∃ (x3_2 : Int) (x4_2 : Int) (x37_2 : Int), v3 = .int .i64 x3_2 ∧ v4 = .int .i64 x4_2 ∧ v37 = .int .i64 x37_2 ∧ Aside0 (impl_TopOk.l0 kq x3_2 x4_2 l0_0 (l0_0.length : Int) x37_2 l0_0 a0_1 a0_2 = some r) ∧ Aside0 (kq ≤ kj1) ∧ Aside0 (w'.heap[gb237]? = some (.cells #[(.slice A0_0 l0_0.length c0_0), .int .i64 a0_1, .int .i64 a0_2] 25 (0, 0))) ∧ Aside0 (Below w.heap.size w w'))
    case atStart => exact ⟨(wrap64 (a0_1 * 5)), ((-1)), (0), q12_5, q12_5, q12_5, H', ⟨Nat.le_refl _⟩, ⟨by (with_reducible repeat (first | refine blk_drewN ?_ _ | refine blk_drew ?_ | refine blk_alloc ?_ _)); exact BK237.out⟩, ⟨q12_0⟩⟩
    case round =>
     clear H'
     try clear c1
     try clear p2
     try clear c4
     try clear c4b0
     try clear c4b1
     try clear c6
     try clear c6b0
     try clear p6
     try clear c8
     try clear c8b0
     try clear c10
     try clear c10b0
     try clear c12
     try clear c13
     try clear hcz11_0
     try clear hcz11_1
     try clear hcz11_2
     try clear hcz12_0
     try clear hcz12_1
     try clear hcz12_2
     try clear hcz14_0
     try clear hcz14_1
     try clear hcz14_2
     try clear hcz5_0
     try clear hcz5_1
     try clear hcz5_2
     try clear hcz7_0
     try clear hcz7_1
     try clear hcz7_2
     try clear hcz9_0
     try clear hcz9_1
     try clear hcz9_2
     try clear hfz11_0
     try clear hfz11_1
     try clear hfz11_2
     try clear hfz12_0
     try clear hfz12_1
     try clear hfz12_2
     try clear hfz14_0
     try clear hfz14_1
     try clear hfz14_2
     try clear hfz5_0
     try clear hfz5_1
     try clear hfz5_2
     try clear hfz7_0
     try clear hfz7_1
     try clear hfz7_2
     try clear hfz9_0
     try clear hfz9_1
     try clear hfz9_2
     try clear p2
     obtain ⟨x3_2, x4_2, x37_2, rfl, rfl, rfl, HA, HK2, BK237, HB⟩ := hrel
     cases gk with
     | zero => exact absurd HA.out (by simp [impl_TopOk.l0])
     | succ k2 =>
      have H := HA.out;clear HA
      simp only [impl_TopOk.l0] at H
      by_cases c15 : x37_2 < (l0_0.length : Int)
      ·
       rw [if_pos c15] at H
       have c15b0 : decide (x37_2 < (l0_0.length : Int)) = true := decide_eq_true c15
       clear c15
       by_cases c16 : 0 ≤ x37_2
       ·
        rw [if_pos c16] at H
        have c16b0 : decide (0 ≤ x37_2) = true := decide_eq_true c16
        clear c16
        by_cases c17 : x37_2 < (l0_0.length : Int)
        ·
         rw [if_pos c17] at H
         have c17b0 : decide (x37_2 < (l0_0.length : Int)) = true := decide_eq_true c17
         clear c17
         by_cases c18 : ((rd_T54 l0_0 x37_2).f0) ≤ x4_2
         ·
          rw [if_pos c18] at H
          have c18b0 : decide (((rd_T54 l0_0 x37_2).f0) ≤ x4_2) = true := decide_eq_true c18
          clear c18
          obtain rfl := Option.some.inj H
          have p238 : 0 ≤ (x37_2 : Int) := of_decide_eq_true q12_6
          have q238 : x37_2 < (l0_0.length : Int) := of_decide_eq_true q12_6
          obtain ⟨ad238, e238, hx238_0, hx238_1⟩ := at_T54 HR0_0.out x37_2 p238 q238
          cases e238
          replace hx238_0 := (HB.out.cell (World.block_lt_of_cell? w _ hx238_0)).trans hx238_0
          replace hx238_1 := (HB.out.cell (World.block_lt_of_cell? w _ hx238_1)).trans hx238_1
          replace p238 := eq_true p238
          replace q238 := eq_true q238
          go_wp2_with (first | ((with_reducible refine gate_dst (N := 6) rfl ?_); refine box_event ?hg (N := 6) ?hd (cs := #[.int .i64 0, .int .i64 0]) (t := 54) ?hr ?_; (case hd => rfl); (case hg => rfl); (case hr => exact q12_9); intro gb239 hg w19 hbox hb; have n2_ := Aside0.mk (hbox); have n3_ := Aside0.mk ((q12_8 : w.heap.size ≤ gb239)); have n4_ := Aside0.mk ((q12_8 : w.heap.size ≤ gb239)); have n5_ := Aside0.mk ((q12_1 : gb237 ≠ gb239)); have n6_ := Aside0.mk ((q12_2 : gb239 ≠ gb237)); replace BK237 := z12bb BK237 hb; replace HB := Aside0.mk (below_step q12_0 hb); have BK239 := n2_; have GW239 := n3_; have GE239 := n4_; have NB237_239 := n5_; have NB239_237 := n6_; clear n2_ n3_ n4_ n5_ n6_; clear hb hbox hg; have hnb20 := NB239_237.out; have hnc20 := NB237_239.out; have hcz21_0 := z12bc BK239 0; have hcz21_1 := z12bc BK239 1; have hfz21_0 := blk_frozen BK239.out 0; have hfz21_1 := blk_frozen BK239.out 1))
          go_ret
          exact ⟨q12_4, q12_3⟩
         ·
          rw [if_neg c18] at H
          have c18b0 : decide (((rd_T54 l0_0 x37_2).f0) ≤ x4_2) = false := decide_eq_false c18
          clear c18
          by_cases c22 : ((rd_T54 l0_0 x37_2).f0) ≥ 64
          ·
           rw [if_pos c22] at H
           have c22b0 : decide (64 ≤ ((rd_T54 l0_0 x37_2).f0)) = true := decide_eq_true c22
           clear c22
           obtain rfl := Option.some.inj H
           have p238 : 0 ≤ (x37_2 : Int) := of_decide_eq_true q12_6
           have q238 : x37_2 < (l0_0.length : Int) := of_decide_eq_true q12_6
           obtain ⟨ad238, e238, hx238_0, hx238_1⟩ := at_T54 HR0_0.out x37_2 p238 q238
           cases e238
           replace hx238_0 := (HB.out.cell (World.block_lt_of_cell? w _ hx238_0)).trans hx238_0
           replace hx238_1 := (HB.out.cell (World.block_lt_of_cell? w _ hx238_1)).trans hx238_1
           replace p238 := eq_true p238
           replace q238 := eq_true q238
           go_wp2_with (first | ((with_reducible refine gate_dst (N := 6) rfl ?_); refine box_event ?hg (N := 6) ?hd (cs := #[.int .i64 0, .int .i64 0]) (t := 54) ?hr ?_; (case hd => rfl); (case hg => rfl); (case hr => exact q12_9); intro gb239 hg w23 hbox hb; have n2_ := Aside0.mk (hbox); have n3_ := Aside0.mk ((q12_8 : w.heap.size ≤ gb239)); have n4_ := Aside0.mk ((q12_8 : w.heap.size ≤ gb239)); have n5_ := Aside0.mk ((q12_1 : gb237 ≠ gb239)); have n6_ := Aside0.mk ((q12_2 : gb239 ≠ gb237)); replace BK237 := z12bb BK237 hb; replace HB := Aside0.mk (below_step q12_0 hb); have BK239 := n2_; have GW239 := n3_; have GE239 := n4_; have NB237_239 := n5_; have NB239_237 := n6_; clear n2_ n3_ n4_ n5_ n6_; clear hb hbox hg; have hnb24 := NB239_237.out; have hnc24 := NB237_239.out; have hcz25_0 := z12bc BK239 0; have hcz25_1 := z12bc BK239 1; have hfz25_0 := blk_frozen BK239.out 0; have hfz25_1 := blk_frozen BK239.out 1))
           go_ret
           exact ⟨q12_4, q12_3⟩
          ·
           rw [if_neg c22] at H
           have c22b0 : decide (64 ≤ ((rd_T54 l0_0 x37_2).f0)) = false := decide_eq_false c22
           clear c22
           by_cases c26 : ((rd_T54 l0_0 x37_2).f1) < 1
           ·
            rw [if_pos c26] at H
            have c26b0 : decide (((rd_T54 l0_0 x37_2).f1) < 1) = true := decide_eq_true c26
            clear c26
            obtain rfl := Option.some.inj H
            have p238 : 0 ≤ (x37_2 : Int) := of_decide_eq_true q12_6
            have q238 : x37_2 < (l0_0.length : Int) := of_decide_eq_true q12_6
            obtain ⟨ad238, e238, hx238_0, hx238_1⟩ := at_T54 HR0_0.out x37_2 p238 q238
            cases e238
            replace hx238_0 := (HB.out.cell (World.block_lt_of_cell? w _ hx238_0)).trans hx238_0
            replace hx238_1 := (HB.out.cell (World.block_lt_of_cell? w _ hx238_1)).trans hx238_1
            replace p238 := eq_true p238
            replace q238 := eq_true q238
            go_wp2_with (first | ((with_reducible refine gate_dst (N := 6) rfl ?_); refine box_event ?hg (N := 6) ?hd (cs := #[.int .i64 0, .int .i64 0]) (t := 54) ?hr ?_; (case hd => rfl); (case hg => rfl); (case hr => exact q12_9); intro gb239 hg w27 hbox hb; have n2_ := Aside0.mk (hbox); have n3_ := Aside0.mk ((q12_8 : w.heap.size ≤ gb239)); have n4_ := Aside0.mk ((q12_8 : w.heap.size ≤ gb239)); have n5_ := Aside0.mk ((q12_1 : gb237 ≠ gb239)); have n6_ := Aside0.mk ((q12_2 : gb239 ≠ gb237)); replace BK237 := z12bb BK237 hb; replace HB := Aside0.mk (below_step q12_0 hb); have BK239 := n2_; have GW239 := n3_; have GE239 := n4_; have NB237_239 := n5_; have NB239_237 := n6_; clear n2_ n3_ n4_ n5_ n6_; clear hb hbox hg; have hnb28 := NB239_237.out; have hnc28 := NB237_239.out; have hcz29_0 := z12bc BK239 0; have hcz29_1 := z12bc BK239 1; have hfz29_0 := blk_frozen BK239.out 0; have hfz29_1 := blk_frozen BK239.out 1))
            go_ret
            exact ⟨q12_4, q12_3⟩
           ·
            rw [if_neg c26] at H
            have c26b0 : decide (((rd_T54 l0_0 x37_2).f1) < 1) = false := decide_eq_false c26
            clear c26
            by_cases c30 : ((rd_T54 l0_0 x37_2).f1) > 2000
            ·
             rw [if_pos c30] at H
             have c30b0 : decide (2000 < ((rd_T54 l0_0 x37_2).f1)) = true := decide_eq_true c30
             clear c30
             obtain rfl := Option.some.inj H
             have p238 : 0 ≤ (x37_2 : Int) := of_decide_eq_true q12_6
             have q238 : x37_2 < (l0_0.length : Int) := of_decide_eq_true q12_6
             obtain ⟨ad238, e238, hx238_0, hx238_1⟩ := at_T54 HR0_0.out x37_2 p238 q238
             cases e238
             replace hx238_0 := (HB.out.cell (World.block_lt_of_cell? w _ hx238_0)).trans hx238_0
             replace hx238_1 := (HB.out.cell (World.block_lt_of_cell? w _ hx238_1)).trans hx238_1
             replace p238 := eq_true p238
             replace q238 := eq_true q238
             go_wp2_with (first | ((with_reducible refine gate_dst (N := 6) rfl ?_); refine box_event ?hg (N := 6) ?hd (cs := #[.int .i64 0, .int .i64 0]) (t := 54) ?hr ?_; (case hd => rfl); (case hg => rfl); (case hr => exact q12_9); intro gb239 hg w31 hbox hb; have n2_ := Aside0.mk (hbox); have n3_ := Aside0.mk ((q12_8 : w.heap.size ≤ gb239)); have n4_ := Aside0.mk ((q12_8 : w.heap.size ≤ gb239)); have n5_ := Aside0.mk ((q12_1 : gb237 ≠ gb239)); have n6_ := Aside0.mk ((q12_2 : gb239 ≠ gb237)); replace BK237 := z12bb BK237 hb; replace HB := Aside0.mk (below_step q12_0 hb); have BK239 := n2_; have GW239 := n3_; have GE239 := n4_; have NB237_239 := n5_; have NB239_237 := n6_; clear n2_ n3_ n4_ n5_ n6_; clear hb hbox hg; have hnb32 := NB239_237.out; have hnc32 := NB237_239.out; have hcz33_0 := z12bc BK239 0; have hcz33_1 := z12bc BK239 1; have hfz33_0 := blk_frozen BK239.out 0; have hfz33_1 := blk_frozen BK239.out 1))
             go_ret
             exact ⟨q12_4, q12_3⟩
            ·
             rw [if_neg c30] at H
             have c30b0 : decide (2000 < ((rd_T54 l0_0 x37_2).f1)) = false := decide_eq_false c30
             clear c30
             have H' := Aside0.mk H
             clear H
             have p238 : 0 ≤ (x37_2 : Int) := of_decide_eq_true q12_6
             have q238 : x37_2 < (l0_0.length : Int) := of_decide_eq_true q12_6
             obtain ⟨ad238, e238, hx238_0, hx238_1⟩ := at_T54 HR0_0.out x37_2 p238 q238
             cases e238
             replace hx238_0 := (HB.out.cell (World.block_lt_of_cell? w _ hx238_0)).trans hx238_0
             replace hx238_1 := (HB.out.cell (World.block_lt_of_cell? w _ hx238_1)).trans hx238_1
             replace p238 := eq_true p238
             replace q238 := eq_true q238
             go_wp2_with (first | ((with_reducible refine gate_dst (N := 6) rfl ?_); refine box_event ?hg (N := 6) ?hd (cs := #[.int .i64 0, .int .i64 0]) (t := 54) ?hr ?_; (case hd => rfl); (case hg => rfl); (case hr => exact q12_9); intro gb239 hg w34 hbox hb; have n2_ := Aside0.mk (hbox); have n3_ := Aside0.mk ((q12_8 : w.heap.size ≤ gb239)); have n4_ := Aside0.mk ((q12_8 : w.heap.size ≤ gb239)); have n5_ := Aside0.mk ((q12_1 : gb237 ≠ gb239)); have n6_ := Aside0.mk ((q12_2 : gb239 ≠ gb237)); replace BK237 := z12bb BK237 hb; replace HB := Aside0.mk (below_step q12_0 hb); have BK239 := n2_; have GW239 := n3_; have GE239 := n4_; have NB237_239 := n5_; have NB239_237 := n6_; clear n2_ n3_ n4_ n5_ n6_; clear hb hbox hg; have hnb35 := NB239_237.out; have hnc35 := NB237_239.out; have hcz36_0 := z12bc BK239 0; have hcz36_1 := z12bc BK239 1; have hfz36_0 := blk_frozen BK239.out 0; have hfz36_1 := blk_frozen BK239.out 1))
             go_roundg k2
             case measure => have := HJ1.out; have := HK2.out; omega
             case rel => exact ⟨(wrap64 (x3_2 + ((rd_T54 l0_0 x37_2).f1))), ((rd_T54 l0_0 x37_2).f0), (wrap64 (x37_2 + 1)), q12_5, q12_5, q12_5, H', ⟨by have := HJ1.out; have := HK2.out; omega⟩, ⟨by (with_reducible repeat (first | refine blk_drewN ?_ _ | refine blk_drew ?_ | refine blk_alloc ?_ _)); refine blk_far ?_ NB237_239.out _; (with_reducible repeat (first | refine blk_drewN ?_ _ | refine blk_drew ?_ | refine blk_alloc ?_ _)); refine blk_far ?_ NB237_239.out _; (with_reducible repeat (first | refine blk_drewN ?_ _ | refine blk_drew ?_ | refine blk_alloc ?_ _)); exact BK237.out⟩, ⟨q12_3⟩⟩
        ·
         rw [if_neg c17] at H
         exact absurd H (by simp)
       ·
        rw [if_neg c16] at H
        exact absurd H (by simp)
      ·
       rw [if_neg c15] at H
       have c15b0 : decide (x37_2 < (l0_0.length : Int)) = false := decide_eq_false c15
       clear c15
       obtain rfl := Option.some.inj H
       have hcz37_0 := z12bc BK237 0;have hcz37_1 := z12bc BK237 1;have hcz37_2 := z12bc BK237 2;have hfz37_0 := blk_frozen BK237.out 0;have hfz37_1 := blk_frozen BK237.out 1;have hfz37_2 := blk_frozen BK237.out 2
       go_wp2
       go_ret
       exact ⟨q12_4, q12_0⟩

end Go.Proofs.Ytlobnnakikgcnaa.PA
