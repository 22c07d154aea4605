/- The walk of leastOf: the first six of both lists merged, in a new slice; nothing that lay there turns. Conditions: at most six marks each, none above 63. -/
import Derived.RangeFuncNested
import Derived.Test.YtnolipncjjclcaaHFew
namespace Go.Proofs.Ytnolipncjjclcaa.H
open Go.RowKit Go.Shelf Go.Proofs.YtnolipncjjclcaaW.PrintWords Go.Proofs.YtnolipncjjclcaaW.PrintLast Go.Proofs.YtnolipncjjclcaaW.PrintMore Go.Proofs.Ytnolipncjjclcaa.Ev

attribute [local go_sem] Oper.semAt_some
attribute [local go_sem] max2_int min2_int max_two min_two

set_option maxRecDepth 100000 in
set_option maxHeartbeats 4000000 in
theorem least_in (F : Fence) (n : Nat) (h31 : F.fn 31) (h42 : F.fn 42) (h43 : F.fn 43) (hro : F.round = none) (hn : 3 ≤ n) (A1 A2 : Option Addr) (c1 c2 : Nat) (a b : List Int) (w : World) (ha : Lies w A1 c1 a) (hb : Lies w A2 c2 b) :
    CallsIn F n Try.prog 31 #[.slice A1 a.length c1, .slice A2 b.length c2] w fun e W' => ∃ v, e = .returned (.agg #[v]) ∧ W'.ownsRow w.heap.size 3 1 v ((mrg a b).take 6).length (((mrg a b).take 6).map (Value.int .i64)) ∧ Below w.heap.size w W' := by
  have h1 : 1 ≤ n := by omega
  obtain ⟨i0, hi, hz0, hz1, hz2⟩ := info_parts info3
  have hmk : ∀ w, (Instr.makeSlice 23 (.int .i64 0) (.int .i64 6)).run Try.prog w = .ok (.slice (some ⟨w.heap.size, 0, none⟩) 0 6) (w.alloc (.cells #[.int .i64 0, .int .i64 0, .int .i64 0, .int .i64 0, .int .i64 0, .int .i64 0] 3)) := fun _ => by kernel_rfl
  refine callsIn_of_wp_marks Try.func31 rfl h31 ?_ hro
  simp only [Try.ntmps31, List.size_toArray, List.length_cons, List.length_nil, Nat.reduceAdd, Nat.reduceSub, Array.replicate_succ, Array.replicate_zero, List.push_toArray, List.append_toArray, List.nil_append, List.cons_append]
  gi_wp2_with (gi_at_call 42; refine (marks_in F (n - 1) h42 hro _ _ _ _ _ _ _).mono ?_; rintro e w' ⟨rfl, rfl⟩)
  have bR := ((((Boxed.new w 25 (.slice none 0 0)).alloc (.cells #[.int .i64 0, .int .i64 0, .int .i64 0, .int .i64 0, .int .i64 0, .int .i64 0] 3)).alloc (.cells #[.slice (some ⟨w.heap.size + 1, 0, none⟩) 0 6] 23)).alloc (.cells #[.slice A1 a.length c1] 23)).alloc (.cells #[.slice A2 b.length c2] 23)
  have bK := ((Boxed.new ((w.alloc (.cells #[.slice none 0 0] 25)).alloc (.cells #[.int .i64 0, .int .i64 0, .int .i64 0, .int .i64 0, .int .i64 0, .int .i64 0] 3)) 23 (.slice (some ⟨w.heap.size + 1, 0, none⟩) 0 6)).alloc (.cells #[.slice A1 a.length c1] 23)).alloc (.cells #[.slice A2 b.length c2] 23)
  rw [World.size_alloc, World.size_alloc] at bK
  have bA := (Boxed.new (((w.alloc (.cells #[.slice none 0 0] 25)).alloc (.cells #[.int .i64 0, .int .i64 0, .int .i64 0, .int .i64 0, .int .i64 0, .int .i64 0] 3)).alloc (.cells #[.slice (some ⟨w.heap.size + 1, 0, none⟩) 0 6] 23)) 23 (.slice A1 a.length c1)).alloc (.cells #[.slice A2 b.length c2] 23)
  rw [World.size_alloc, World.size_alloc, World.size_alloc] at bA
  have bB := Boxed.new ((((w.alloc (.cells #[.slice none 0 0] 25)).alloc (.cells #[.int .i64 0, .int .i64 0, .int .i64 0, .int .i64 0, .int .i64 0, .int .i64 0] 3)).alloc (.cells #[.slice (some ⟨w.heap.size + 1, 0, none⟩) 0 6] 23)).alloc (.cells #[.slice A1 a.length c1] 23)) 23 (.slice A2 b.length c2)
  rw [World.size_alloc, World.size_alloc, World.size_alloc, World.size_alloc] at bB
  have row0 := (((World.ownsRow_made (base := w.heap.size) (e := 3) (size := 1) (w.alloc (.cells #[.slice none 0 0] 25)) #[.int .i64 0, .int .i64 0, .int .i64 0, .int .i64 0, .int .i64 0, .int .i64 0] 6 (by simp) (by unfold maxLen; omega) rfl).alloc (.cells #[.slice (some ⟨w.heap.size + 1, 0, none⟩) 0 6] 23)).alloc (.cells #[.slice A1 a.length c1] 23)).alloc (.cells #[.slice A2 b.length c2] 23)
  rw [World.size_alloc] at row0
  have hB0 : Below w.heap.size w (((((w.alloc (.cells #[.slice none 0 0] 25)).alloc (.cells #[.int .i64 0, .int .i64 0, .int .i64 0, .int .i64 0, .int .i64 0, .int .i64 0] 3)).alloc (.cells #[.slice (some ⟨w.heap.size + 1, 0, none⟩) 0 6] 23)).alloc (.cells #[.slice A1 a.length c1] 23)).alloc (.cells #[.slice A2 b.length c2] 23)) :=
    (((((Below.refl _ w).alloc (Nat.le_refl _) _).alloc (by simp) _).alloc (by simp; omega) _).alloc (by simp; omega) _).alloc (by simp; omega) _
  refine wpIn_rangeFunc_ownG hro h1 (gf := 43) (lb := #[.pointer (some ⟨w.heap.size + 1 + 1 + 1, 0, none⟩), .pointer (some ⟨w.heap.size + 1 + 1 + 1 + 1, 0, none⟩)]) rfl h43 (enters_of Try.func43 (by kernel_rfl) rfl)
    (marks_stops F (n - 1) h43 hro (by omega) (w.heap.size + 1 + 1 + 1) (w.heap.size + 1 + 1 + 1 + 1) w a b A1 A2 c1 c2 _ (by simp) (by simp) bA.cell bB.cell ha hb hB0) belowK_t (belowK_b (by simp; omega)) (Below.refl _ _) (fun _ => rfl)
    (fun pre W => pre.length ≤ 6 ∧ (∃ v, Boxed W (w.heap.size + 1 + 1) 23 v ∧ W.ownsRow w.heap.size 3 1 v pre.length (pre.map (Value.int .i64)) ∧ True) ∧ Boxed W w.heap.size 25 (.slice none 0 0) ∧ Below w.heap.size w W)
    (fun c pre W => (c = .exit 0 ∧ pre.length = 7) ∧ (∃ v, Boxed W (w.heap.size + 1 + 1) 23 v ∧ W.ownsRow w.heap.size 3 1 v (pre.take 6).length ((pre.take 6).map (Value.int .i64)) ∧ True) ∧ Boxed W w.heap.size 25 (.slice none 0 0) ∧ Below w.heap.size w W)
    (OwnFrom.and (ownFrom_pure _ _) (OwnFrom.and (Own.from (holdsRow_own w.heap.size (w.heap.size + 1 + 1) 23 3 1 (fun pre : List Int => pre.length) (fun pre => pre.map (Value.int .i64)) (fun _ _ => True)) _) (OwnFrom.and (Own.from (boxed_own w.heap.size 25 (fun _ => .slice none 0 0)) _) (ownFrom_below (Nat.le_refl _) (by simp; omega)))))
    (fun c => OwnFrom.and (ownFrom_pure _ _) (OwnFrom.and (Own.from (holdsRow_own w.heap.size (w.heap.size + 1 + 1) 23 3 1 (fun pre : List Int => (pre.take 6).length) (fun pre => (pre.take 6).map (Value.int .i64)) (fun _ _ => True)) _) (OwnFrom.and (Own.from (boxed_own w.heap.size 25 (fun _ => .slice none 0 0)) _) (ownFrom_below (Nat.le_refl _) (by simp; omega)))))
    ⟨by simp, ⟨_, bK, row0, trivial⟩, bR, hB0⟩
    (fun x => { tmps := #[.slice A1 a.length c1, .slice A2 b.length c2, undef, undef, .pointer (some ⟨w.heap.size, 0, none⟩), .pointer (some ⟨w.heap.size + 1 + 1, 0, none⟩), .int .i64 x, .slice (some ⟨w.heap.size + 1, 0, none⟩) 0 6, .slice A1 a.length c1, .slice A2 b.length c2,
      .func (.func 43) #[] #[.pointer (some ⟨w.heap.size + 1 + 1 + 1, 0, none⟩), .pointer (some ⟨w.heap.size + 1 + 1 + 1 + 1, 0, none⟩)], .int .i64 x, undef, undef, undef, undef, undef, undef, undef, undef, undef], defers := [] }) ?assign ?body ?done ?stop
  case assign =>
    intro l x W K hK
    gi_wp2
    exact hK
  case body =>
    rintro l pre x W ⟨h6, ⟨v, hv, hrow, _⟩, hR, hB⟩ hlt
    have hc := hv.cell
    obtain ⟨A, cap, rfl, _⟩ := own_reads (k := .i64) hrow
    by_cases c : pre.length = 6
    · have c0 : ((pre.length : Int) == 6) = true := by simp; omega
      clear hlt
      gi_wp2
      exact ⟨KeepsFrom.refl _ _, ⟨rfl, by simp [c]⟩, ⟨_, hv, by rw [List.take_append_of_le_length (by omega), List.take_of_length_le (by omega)]; exact hrow, trivial⟩, hR, hB⟩
    · have c0 : ((pre.length : Int) == 6) = false := by simp; omega
      gi_wp2_with (gi_at_builtin; refine wpListIn_append_own _ rfl _ _ 23 rfl w.heap.size 3 i0 (.int .i64 0) 1 8 Try.underlying23 hi hz0 hz1 hz2 rfl (by decide) _ _ _ rfl (hrow.alloc _) ⟨W.heap.size, 0, none⟩ 1 1 [.int .i64 x] rfl rfl (cell_one_new _ _ _) (by simp [Value.oneCell']) (by unfold maxLen; omega) (by omega) (by have := hB.size; simp; omega) ?_; intro v' w1 hown' hgrow _; obtain ⟨g', cap', rfl⟩ := ownsRow_succ hown'; obtain ⟨hv1, hv2, hr2, hk2, hb2⟩ := hv.appended (by decide) hrow hB.size (by omega) hown' hgrow; have hc1 := hv1.cell; have hf1 := hv1.frozen)
      exact ⟨hk2.from _, hb2, by simp; omega, ⟨_, hv2, by simpa using hr2, trivial⟩, ((hR.alloc _).kept hgrow (hR.not_row (by decide) hrow)).other (by omega) _, hB.trans hb2⟩
  case done =>
    rintro D ys W hD rfl ⟨h6, ⟨v, hv, hrow, _⟩, hR, hB⟩ hK
    have hc := hv.cell
    have hcR := hR.cell
    have hfR := hR.frozen
    obtain ⟨A, cap, rfl, _⟩ := own_reads (k := .i64) hrow
    gi_wp2
    have hlt : w.heap.size < D := by simp at hD; omega
    have hK' : (W.setCell ⟨w.heap.size, 0, none⟩ (.slice A (mrg a b).length cap)).heap[D]? = some (.deferred (some [])) := (KeepsOthers.setCell _ _ _).same D _ hK rfl
    refine ⟨by simp, .inl ⟨_, _, rfl, run_takeDeferred hK', ?_⟩⟩
    exact ⟨_, results_cell_row rfl _ _ w.heap.size 25 #[.slice A (mrg a b).length cap] (0, 0) _ rfl ((hR.set _).kept (grownBy_putObj' _ D _) (by intro e; injection e with e; omega)) Try.underlying25 rfl (by kernel_rfl), _, rfl,
      by rw [List.take_of_length_le h6]; exact ownsRow_putObj (hrow.kept (grownBy_setCell' W w.heap.size _) (.inr (hR.not_row (by decide) hrow).symm)) _ hK' rfl,
      (hB.setCell (p := ⟨w.heap.size, 0, none⟩) (Nat.le_refl _) _).trans (belowK_b (w := w) (Nat.le_refl _) _ D _ _ (by omega) hK' rfl rfl)⟩
  case stop =>
    rintro D c pre W hD hp ⟨⟨rfl, h7⟩, ⟨v, hv, hrow, _⟩, hR, hB⟩ hK
    have hc := hv.cell
    have hcR := hR.cell
    have hfR := hR.frozen
    obtain ⟨A, cap, rfl, _⟩ := own_reads (k := .i64) hrow
    have e6l : (pre.take 6).length = 6 := by simp; omega
    rw [e6l] at hv hrow hc
    have HL := Lib.hid e6l
    clear e6l
    gi_wp2
    have hlt : w.heap.size < D := by simp at hD; omega
    have hK' : (W.setCell ⟨w.heap.size, 0, none⟩ (.slice A 6 cap)).heap[D]? = some (.deferred (some [])) := (KeepsOthers.setCell _ _ _).same D _ hK rfl
    have e6 : (mrg a b).take 6 = pre.take 6 := by
      obtain ⟨rest, e⟩ := hp
      rw [← e, List.take_append_of_le_length (by omega)]
    refine ⟨by simp, .inl ⟨_, _, rfl, run_takeDeferred hK', ?_⟩⟩
    exact ⟨_, results_cell_row rfl _ _ w.heap.size 25 #[.slice A 6 cap] (0, 0) _ rfl ((hR.set _).kept (grownBy_putObj' _ D _) (by intro e; injection e with e; omega)) Try.underlying25 rfl (by kernel_rfl), _, rfl,
      by rw [e6, HL.out]; exact ownsRow_putObj (hrow.kept (grownBy_setCell' W w.heap.size _) (.inr (hR.not_row (by decide) hrow).symm)) _ hK' rfl,
      (hB.setCell (p := ⟨w.heap.size, 0, none⟩) (Nat.le_refl _) _).trans (belowK_b (w := w) (Nat.le_refl _) _ D _ _ (by omega) hK' rfl rfl)⟩

theorem least_calls (A0 : Option Addr) (c0 : Nat) (l0 : List Int) (A1 : Option Addr) (c1 : Nat) (l1 : List Int) (r : List Int) (w : World) (hr0 : Kd.C (Kd.int .i64) w A0 l0.length l0) (hc0 : l0.length ≤ c0) (hr1 : Kd.C (Kd.int .i64) w A1 l1.length l1) (hc1 : l1.length ≤ c1) (h : leastF l0 l1 = some r) :
    Calls Try.prog 31 #[.slice A0 l0.length c0, .slice A1 l1.length c1] w fun e w' => ∃ v0_ : Value, e = .returned (.agg #[v0_]) ∧ Kd.R (Kd.int .i64) 3 w' w.heap.size (fun _ => True) v0_ r ∧ Below w.heap.size w w' := by
  unfold leastF at h
  by_cases c : (fits l0 && fits l1) = true
  · rw [if_pos c] at h
    injection h with h
    subst h
    unfold fits at c
    simp only [Bool.and_eq_true, decide_eq_true_eq] at c
    refine callsIn_wide.1 ((least_in Fence.wide 3 trivial trivial trivial rfl (by omega) A0 A1 c0 c1 l0 l1 w ⟨readsInt_of.2 (Kd.reads_of_C (enc := Value.int .i64) (d := (0 : Int)) (h1 := fun _ => rfl) hr0), hc0, c.1.1, c.1.2⟩ ⟨readsInt_of.2 (Kd.reads_of_C (enc := Value.int .i64) (d := (0 : Int)) (h1 := fun _ => rfl) hr1), hc1, c.2.1, c.2.2⟩).mono ?_)
    rintro e W' ⟨v, rfl, hown, hb⟩
    exact ⟨v, rfl, Kd.R_of_own (enc := Value.int .i64) (h1 := fun _ => rfl) hown (fun _ _ => trivial), hb⟩
  · rw [if_neg c] at h
    cases h

end Go.Proofs.Ytnolipncjjclcaa.H
