/- Walks by hand of slices.Concat (func 46), slices.Clone (44), sortPairs (45): slices.Grow, slices.SortFunc, cmp.Compare, bits.Len by the shelf's contracts (laid plain). Conditions: at most 4 pairs a row joined, 8 cloned, 12 sorted. -/
import Derived.Test.YtlobnnakikgcnaaPAx0
import Derived.Test.YtlobnnakikgcnaaPlain
import Derived.Lib.SliceRun
import Derived.Shelf.SlSortCmp.NoneTotal
namespace Go.Proofs.Ytlobnnakikgcnaa.H
open Go.RowKit Go.Proofs.YtlobnnakikgcnaaW.PrintWords Go.Proofs.YtlobnnakikgcnaaW.PrintLast Go.Proofs.YtlobnnakikgcnaaW.PrintMore Go.Proofs.Ytlobnnakikgcnaa.PA
attribute [local go_sem] max2_int min2_int max_two min_two max_three min_three max_four min_four
set_option linter.unusedVariables false
set_option linter.unusedSimpArgs false

theorem grow_calls (m : Int) (hm0 : 0 ≤ m) (hm1 : m ≤ 1000) (w : World) : Calls Try.prog 50 #[.slice none 0 0, .int .i64 m] w fun e w' => ∃ v0_ : Value, e = .returned v0_ ∧ Kd.R k54 54 w' w.heap.size (fun _ => True) v0_ [] ∧ Below w.heap.size w w' := by
  obtain ⟨n, rfl⟩ := Int.eq_ofNat_of_zero_le hm0
  have hn : n ≤ 1000 := by omega
  clear hm0 hm1
  by_cases h0 : n = 0
  · subst h0
    refine (Any8.slices_Grow_room Try.growP none 0 0 0 w (Nat.le_refl _) (by omega) (by omega) (Nat.le_refl _)).mono ?_
    rintro e w' ⟨rfl, rfl⟩
    exact ⟨_, rfl, Kd.R_nil _ _ _ _ _, Below.refl _ _⟩
  · obtain ⟨i0, hi, hzz⟩ := Option.map_eq_some_iff.1 info54
    simp only [Prod.mk.injEq] at hzz
    obtain ⟨hz0, hz1, hz2⟩ := hzz
    refine (Any8.slices_Grow_grow Try.growP i0 _ hi hz0 (by omega) none 0 0 n [] w (Nat.le_refl _) (by omega) (by rw [hz2]; omega) (by omega) (by simp) (fun _ => rfl) (fun a ha => by cases ha)).mono ?_
    rintro e w' ⟨rfl, rfl⟩
    have hge := grownCap_ge w (0 + n) 0 54
    have hle := grownCap_le_maxLen w (0 + n) 0 54 (by unfold maxLen; omega)
    refine ⟨_, rfl, ⟨fun _ _ => trivial, [], ⟨rfl, .inr ⟨w.heap.size, _, _, rfl, Nat.le_refl _, heap_alloc_new w.drew _, Nat.zero_le _, hle, ?_, rfl⟩⟩, Reps.none _ _⟩, below_alloc (below_drew (Below.refl _ _)) _⟩
    have hz : (Value.agg #[Value.int IntKind.i64 0, Value.int IntKind.i64 0]).cells.size = 2 := rfl
    show ((([] : List Value).toArray ++ Builtin.zeroCells (Value.agg #[Value.int IntKind.i64 0, Value.int IntKind.i64 0]).cells (0 + n - 0) ++ Builtin.zeroCells (Value.agg #[Value.int IntKind.i64 0, Value.int IntKind.i64 0]).cells (grownCap w (0 + n) 0 54 - (0 + n))) : Array Value).size = grownCap w (0 + n) 0 54 * 2
    simp only [Array.size_append, size_zeroCells, hz, List.size_toArray, List.length_nil]
    omega

def concatP (l0 l1 : List S54) : Option (List S54) := if l0.length ≤ 4 ∧ l1.length ≤ 4 then some (l0 ++ l1) else none
theorem concat_len {l0 l1 t : List S54} (h : concatP l0 l1 = some t) : t.length ≤ 8 := by
  unfold concatP at h
  split at h
  · obtain rfl := Option.some.inj h
    rw [List.length_append]
    omega
  · cases h
set_option maxHeartbeats 8000000 in
set_option maxRecDepth 100000 in
theorem concat_calls (g : Nat) (A0 : Option Addr) (c0 : Nat) (l0 : List S54) (A1 : Option Addr) (c1 : Nat) (l1 : List S54) (r : List S54) (w : World) (hg : w.heap[g]? = some (.cells #[.slice A0 l0.length c0, .slice A1 l1.length c1] 23 (0, 0)))
    (hr0 : Kd.C k54 w A0 l0.length l0) (hc0 : l0.length ≤ c0) (hr1 : Kd.C k54 w A1 l1.length l1) (hc1 : l1.length ≤ c1) (h : concatP l0 l1 = some r) :
    Calls Try.prog 46 #[.slice (some ⟨g, 0, none⟩) 2 2] w fun e w' => ∃ v0_ : Value, e = .returned (v0_) ∧ Kd.R k54 54 w' w.heap.size (fun _ => True) v0_ r ∧ Below w.heap.size w w' := by
  unfold concatP at h
  by_cases hl : l0.length ≤ 4 ∧ l1.length ≤ 4
  case neg => rw [if_neg hl] at h; cases h
  rw [if_pos hl] at h
  obtain rfl := Option.some.inj h
  clear h
  obtain ⟨n0, n1⟩ := hl
  have hcz0 : w.cell? ⟨g, 0, none⟩ = some (.slice A0 l0.length c0) := (blk_cell hg 0).trans rfl
  have hcz1 : w.cell? ⟨g, 1, none⟩ = some (.slice A1 l1.length c1) := (blk_cell hg 1).trans rfl
  have e0 : wrap64 (0 + (l0.length : Int)) = (l0.length : Int) := by unfold wrap64; omega
  have e1 : wrap64 ((l0.length : Int) + (l1.length : Int)) = (l0.length : Int) + (l1.length : Int) := by unfold wrap64; omega
  have f0 : decide ((l0.length : Int) < 0) = false := decide_eq_false (by omega)
  have f1 : decide ((l0.length : Int) + (l1.length : Int) < 0) = false := decide_eq_false (by omega)
  have HG := Aside0.mk hg
  have HR0 := Aside0.mk hr0
  have HR1 := Aside0.mk hr1
  clear hg hr0 hr1
  go_enter Try.func46, Try.ntmps46
  go_wp2
  refine wp_loop_rounds 3 ?_
  rw [rounds_succ]
  go_wp2
  rw [rounds_succ]
  go_wp2
  rw [rounds_succ]
  go_wp2_with (first | ((with_reducible refine gate_callee (f := 50) rfl ?_); refine goesL_ (some 24) rfl rfl Try.func50 (by kernel_rfl) rfl #[.slice none 0 0, .int .i64 ((l0.length : Int) + (l1.length : Int))] rfl (by (try simp only [List.map_toArray, List.map_cons, List.map_nil]); first | done | rfl) ?_; (with_reducible refine (grow_calls ((l0.length : Int) + (l1.length : Int)) (by omega) (by omega) _).mono ?_); rintro e w5 ⟨v5, rfl, ho5, hb⟩; refine ⟨_, rfl, ?_⟩; have HO1 := Aside0.mk ho5; have HB := Aside0.mk hb; clear ho5 hb; have hd0 := (HB.out.cell (World.block_lt_of_cell? w _ hcz0)).trans hcz0; have hd1 := (HB.out.cell (World.block_lt_of_cell? w _ hcz1)).trans hcz1))
  refine wp_loop_rounds 3 ?_
  rw [rounds_succ]
  go_wp2_with (first | ((with_reducible refine gate_builtin (b := .append) (xs := #[.tmp 31, .tmp 32]) rfl ?_); at_builtin; refine Kd.R_append_rows k54 (w0 := w) w.heap.size rfl (.tmp 31) (.tmp 32) 23 54 (.agg #[(.int .i64 0), (.int .i64 0)]) 16 rfl Try.underlying23 info54 rfl (by decide) (by omega) v5 ([] : List S54) l0 _ _ _ (fun _ => True) (fun _ => False) rfl rfl ?aO ?aR (fun _ _ h => h) (fun _ h => h.elim) ?aF ?aB ?aS ?aL ?_; (case aR => exact Kd.C_below HR0.out HB.out); (case aB => exact HB.out); (case aF => exact (fun _ _ => trivial)); (case aO => exact HO1.out); (case aS => exact below_size HB.out); (case aL => (first | (simp only [List.length_nil]; omega) | (simp only [List.nil_append]; omega) | omega)); intro v6 w6 ho hb hg hat; have HO2 := Aside0.mk ho; clear HB; have HB := Aside0.mk hb; clear ho hb hg hat; have hd0 := (HB.out.cell (World.block_lt_of_cell? w _ hcz0)).trans hcz0; have hd1 := (HB.out.cell (World.block_lt_of_cell? w _ hcz1)).trans hcz1))
  rw [rounds_succ]
  go_wp2_with (first | ((with_reducible refine gate_builtin (b := .append) (xs := #[.tmp 31, .tmp 32]) rfl ?_); at_builtin; refine Kd.R_append_rows k54 (w0 := w) w.heap.size rfl (.tmp 31) (.tmp 32) 23 54 (.agg #[(.int .i64 0), (.int .i64 0)]) 16 rfl Try.underlying23 info54 rfl (by decide) (by omega) v6 ([] ++ l0 : List S54) l1 _ _ _ (fun _ => True) (fun _ => False) rfl rfl ?aO ?aR (fun _ _ h => h) (fun _ h => h.elim) ?aF ?aB ?aS ?aL ?_; (case aR => exact Kd.C_below HR1.out HB.out); (case aB => exact HB.out); (case aF => exact (fun _ _ => trivial)); (case aO => exact HO2.out); (case aS => exact below_size HB.out); (case aL => (first | (simp only [List.length_nil]; omega) | (simp only [List.nil_append]; omega) | omega)); intro v7 w7 ho hb hg hat; have HO2 := Aside0.mk ho; clear HB; have HB := Aside0.mk hb; clear ho hb hg hat; have hd0 := (HB.out.cell (World.block_lt_of_cell? w _ hcz0)).trans hcz0; have hd1 := (HB.out.cell (World.block_lt_of_cell? w _ hcz1)).trans hcz1))
  rw [rounds_succ]
  go_wp2
  go_ret
  exact ⟨_, rfl, HO2.out, HB.out⟩

def cloneP (l : List S54) : Option (List S54) := if l.length ≤ 8 then some l else none
theorem clone_len {l t : List S54} (h : cloneP l = some t) : t = l ∧ t.length ≤ 8 := by
  unfold cloneP at h
  split at h
  · obtain rfl := Option.some.inj h
    exact ⟨rfl, by assumption⟩
  · cases h
set_option maxHeartbeats 8000000 in
set_option maxRecDepth 100000 in
theorem clone_calls (A0 : Option Addr) (c0 : Nat) (l0 : List S54) (r : List S54) (w : World) (hr0 : Kd.C k54 w A0 l0.length l0) (hc0 : l0.length ≤ c0) (h : cloneP l0 = some r) :
    Calls Try.prog 44 #[.slice A0 l0.length c0] w fun e w' => ∃ v0_ : Value, e = .returned (v0_) ∧ Kd.R k54 54 w' w.heap.size (fun _ => True) v0_ r ∧ Below w.heap.size w w' := by
  obtain ⟨rfl, hl⟩ := clone_len h
  clear h
  have HR0 := Aside0.mk hr0
  have HB := Aside0.mk (Below.refl w.heap.size w)
  clear hr0
  have q23 : ∀ (w : World) (a : Option Addr) (n c n' c' : Nat), (binOp .eql 23 (.slice a n c) (.slice none n' c')).run Try.prog w = .ok (.bool a.isNone) w := fun w a n c n' c' => Lib.run_eql_slice_nil w _ _ a n c n' c' Try.underlying23
  cases A0 with
  | none =>
    have hn : r = [] := by
      rcases r with _ | ⟨x, r⟩
      · rfl
      · obtain ⟨_, _, h⟩ := HR0.out
        obtain ⟨ad, ha, _⟩ := h (by simp)
        cases ha
    subst hn
    go_enter Try.func44, Try.ntmps44
    go_wp2
    go_ret
    exact ⟨_, rfl, Kd.R_nil _ _ _ _ _, HB.out⟩
  | some a0 =>
    go_enter Try.func44, Try.ntmps44
    go_wp2_with (first | ((with_reducible refine gate_dst (N := 5) rfl ?_); refine Kd.R_lit k54 (w0 := w) w.heap.size 54 ?hg (N := 5) ?hd (xs := ([] : List (S54))) (inner := []) (ok := fun _ => True) (okp := fun _ => True) ?hr ?hp (fun _ hk => hk) trivial (Below.refl _ _) (Nat.le_refl _) (by simp) ?_; (case hd => rfl); (case hg => rfl); (case hr => first | (go_simp; done) | (go_simp; rfl)); (case hp => exact (Reps.none _ _)); intro v5 w5 ho hb hg_ hnew_; clear hg_ hnew_; have HO1 := Aside0.mk ho; clear HB; have HB := Aside0.mk hb; clear ho hb) | ((with_reducible refine gate_builtin (b := .append) (xs := #[.tmp 5, .tmp 6]) rfl ?_); at_builtin; refine Kd.R_append_rows k54 (w0 := w) w.heap.size rfl (.tmp 5) (.tmp 6) 23 54 (.agg #[(.int .i64 0), (.int .i64 0)]) 16 rfl Try.underlying23 info54 rfl (by decide) (by omega) v5 ([] : List S54) r _ _ _ (fun _ => True) (fun _ => False) rfl rfl ?aO ?aR (fun _ _ h => h) (fun _ h => h.elim) ?aF ?aB ?aS ?aL ?_; (case aR => exact Kd.C_below HR0.out HB.out); (case aB => exact HB.out); (case aF => exact (fun _ _ => trivial)); (case aO => exact HO1.out); (case aS => exact below_size HB.out); (case aL => (first | (simp only [List.length_nil]; omega) | omega)); intro v6 w6 ho hb hg hat; have HO2 := Aside0.mk ho; clear HB; have HB := Aside0.mk hb; clear ho hb hg hat))
    go_ret
    exact ⟨_, rfl, HO2.out, HB.out⟩

section
variable {P : Program} {ops : Array Oper} {rest : List Oper} {o : Oper} {a : Act} {Q : Exit → Act → World → Prop} {α : Type}
/-- make([]T, 0, n): no element yet. -/
theorem R_make0 (d : Kd α) {w0 W : World} (base e : Nat) (hgd : o.guard = none) (t : TypeId) (x y : Operand) (ho : o.op = .makeSlice t x y) (n : Nat) (hx : a.eval x = .int .i64 0) (hy : a.eval y = .int .i64 n)
    (ht : P.underlying t = some (.slice e)) (z : Value) (bytes : Nat) (hinfo : (P.info? e).map (fun i => (i.zero, i.size, i.bytes)) = some (some z, d.sz, bytes)) (hz : z.cells.size = d.sz) (hs0 : 0 < d.sz) (hb0 : 0 < bytes)
    {ok : Nat → Prop} (hfresh : ok W.heap.size) (hl : n * bytes ≤ 281474976710656) (HB : Below base w0 W) (hbase : base ≤ W.heap.size)
    (h : ∀ v1 w1, d.R e w1 base ok v1 [] → Below base w0 w1 → W.grownBy w1 none → (∃ b, v1.ownBlock = some b ∧ W.heap.size ≤ b) → wpList P ops Q rest (a.put o.dst v1) w1) : wpList P ops Q (o :: rest) a W := by
  obtain ⟨i0, hi, hzz⟩ := Option.map_eq_some_iff.1 hinfo
  simp only [Prod.mk.injEq] at hzz
  obtain ⟨hz0, hz1, hz2⟩ := hzz
  have hm : n ≤ 281474976710656 := Nat.le_trans (Nat.le_mul_of_pos_right _ hb0) hl
  have hr := run_make (P := P) W t e i0 z ht hi hz0 .i64 .i64 0 (n : Int) (by omega) (by omega)
    (by
      have h3 : ((i0.bytes * n : Nat) : Int) ≤ 281474976710656 := by rw [hz2, Nat.mul_comm]; omega
      rwa [Int.natCast_mul] at h3) (by omega)
  simp only [Int.toNat_natCast] at hr
  rw [hz1] at hr
  refine Kd.event_run hgd (v := .slice (some ⟨W.heap.size, 0, none⟩) 0 n) (w1 := W.alloc (.cells (madeCells z.cells (n * d.sz)) e)) ?_ (h _ _ ⟨fun k hk => ?_, [], ⟨by simp, .inr ⟨W.heap.size, n, madeCells z.cells (n * d.sz), rfl, hbase, heap_alloc_new W _, Nat.zero_le _, by unfold maxLen; omega, by rw [size_madeCells], by simp⟩⟩, Reps.none _ _⟩ (HB.alloc hbase _) (World.grownBy_alloc W _ none) ⟨W.heap.size, by simp [Value.ownBlock], Nat.le_refl _⟩)
  · simp [execOp, ho, hx, hy, hr]
  · have : W.heap.size = k := by simpa [Value.ownBlock] using hk
    subst this
    exact hfresh
end

section
variable {P : Program} {ops : Array Oper} {rest : List Oper} {o : Oper} {a : Act} {Q : Exit → Act → World → Prop}
/-- A literal of rows: its block. -/
theorem lit_event {W : World} (hgd : o.guard = none) {cs : Array Value} {t : TypeId} {n : Nat} (hrun : (execOp a.eval o).run P W = .ok (.value (.slice (some ⟨W.heap.size, 0, none⟩) n n)) (W.alloc (.cells cs t (0, 0))))
    (h : ∀ g, g = W.heap.size → ∀ w1, w1.heap[g]? = some (.cells cs t (0, 0)) → Below W.heap.size W w1 → wpList P ops Q rest (a.put o.dst (.slice (some ⟨g, 0, none⟩) n n)) w1) : wpList P ops Q (o :: rest) a W :=
  Kd.event_run hgd hrun (h _ rfl _ (blk_new W _) (below_alloc (Below.refl _ _) _))
end

instance inhP : Inhabited S54 := ⟨z54⟩
def encP (x : S54) : List Value := [.int .i64 x.f0, .int .i64 x.f1]
def cmpT (x y : S54) : Int := Lib.compareInt x.f0 y.f0
def cmpN (x y : S54) : Int := Lib.compareInt y.f1 x.f1
def sortL (cf : S54 → S54 → Int) (l : List S54) : List S54 := (Go.Sort.insertionSort (ltOf cf) l.toArray 0 l.length).toList
def sortP (l : List S54) (o : Int) : Option (List S54) := if l.length ≤ 12 then (if o = 0 then some (sortL cmpT l) else if o = 1 then some (sortL cmpN l) else none) else none

set_option maxHeartbeats 1000000 in
theorem calls47 (x y : S54) (W : World) : Calls Try.prog 47 #[.agg #[.int .i64 x.f0, .int .i64 x.f1], .agg #[.int .i64 y.f0, .int .i64 y.f1]] W fun e w' => e = .returned (.int .i64 (cmpT x y)) ∧ ∃ q os', w' = Go.Sort.grow (W.drewN q) os' := by
  have hcon := fun W' => AnyG.cmp_Compare_int Try.cmpInt x.f0 y.f0 W'
  change ∀ W', Calls Try.prog 51 _ _ _ at hcon
  unfold cmpT
  generalize Lib.compareInt x.f0 y.f0 = r at hcon ⊢
  go_enter Try.func47, Try.ntmps47
  go_wp2_with (go_at_call 51; refine (hcon _).mono ?_; rintro e w' ⟨rfl, rfl⟩)
  go_ret
  exact ⟨rfl, 0, _, by rw [Go.Sort.alloc_eq_grow, Go.Sort.alloc_eq_grow, Go.Sort.grow_grow]; rfl⟩
set_option maxHeartbeats 1000000 in
theorem calls48 (x y : S54) (W : World) : Calls Try.prog 48 #[.agg #[.int .i64 x.f0, .int .i64 x.f1], .agg #[.int .i64 y.f0, .int .i64 y.f1]] W fun e w' => e = .returned (.int .i64 (cmpN x y)) ∧ ∃ q os', w' = Go.Sort.grow (W.drewN q) os' := by
  have hcon := fun W' => AnyG.cmp_Compare_int Try.cmpInt y.f1 x.f1 W'
  change ∀ W', Calls Try.prog 51 _ _ _ at hcon
  unfold cmpN
  generalize Lib.compareInt y.f1 x.f1 = r at hcon ⊢
  go_enter Try.func48, Try.ntmps48
  go_wp2_with (go_at_call 51; refine (hcon _).mono ?_; rintro e w' ⟨rfl, rfl⟩)
  go_ret
  exact ⟨rfl, 0, _, by rw [Go.Sort.alloc_eq_grow, Go.Sort.alloc_eq_grow, Go.Sort.grow_grow]; rfl⟩
theorem hlen (n : Nat) (W : World) (h : n ≤ 12) : Calls Try.prog 53 #[.int .u64 n] W fun e w' => (∃ l : Int, e = .returned (.int .i64 l)) ∧ w' = W :=
  (Any.bits_Len Try.bitsLen n W (by omega) (by omega)).mono fun _ _ ⟨he, hw⟩ => ⟨⟨_, he⟩, hw⟩

theorem lt_T (x y : S54) : ltOf cmpT x y = decide (x.f0 < y.f0) := by
  unfold ltOf cmpT Lib.compareInt
  by_cases h1 : x.f0 < y.f0
  · simp [h1]
  · by_cases h2 : y.f0 < x.f0 <;> simp [h1, h2]
theorem lt_N (x y : S54) : ltOf cmpN x y = decide (y.f1 < x.f1) := by
  unfold ltOf cmpN Lib.compareInt
  by_cases h1 : y.f1 < x.f1
  · simp [h1]
  · by_cases h2 : x.f1 < y.f1 <;> simp [h1, h2]
theorem swo_T : Go.Sort.SWO (ltOf cmpT) where
  irrefl x := by rw [lt_T]; simp
  trans x y z h1 h2 := by rw [lt_T] at *; simp at *; omega
  ntrans x y z h1 h2 := by rw [lt_T] at *; simp at *; omega
theorem swo_N : Go.Sort.SWO (ltOf cmpN) where
  irrefl x := by rw [lt_N]; simp
  trans x y z h1 h2 := by rw [lt_N] at *; simp at *; omega
  ntrans x y z h1 h2 := by rw [lt_N] at *; simp at *; omega
theorem sort_size {cf : S54 → S54 → Int} (hS : Go.Sort.SWO (ltOf cf)) (d : Array S54) : (Go.Sort.insertionSort (ltOf cf) d 0 d.size).size = d.size :=
  (Go.Sort.insertionSort_holds hS d 0 d.size (Nat.zero_le _) (Nat.le_refl _)).1.1
theorem sortL_len {cf : S54 → S54 → Int} (hS : Go.Sort.SWO (ltOf cf)) (l : List S54) : (sortL cf l).length = l.length := by
  have := sort_size hS l.toArray
  unfold sortL
  simpa using this

/-- The row as the sort's contract has it. -/
theorem holds_of_R {w : World} {base g cap : Nat} {ok : Nat → Prop} {l : List S54} (h : Kd.R k54 54 w base ok (.slice (some ⟨g, 0, none⟩) l.length cap) l) : Go.Sort.HoldsK encP 2 w g 0 l.toArray := by
  intro j hj
  have hj' : j < l.length * 2 := by simpa using hj
  obtain ⟨c, hcl, hM, hcc, hfr⟩ := Kd.R_elem h z54 ((j / 2 : Nat) : Int) (by omega) (by omega)
  have hc := k54_openM hM
  have hd : l.getD ((j / 2 : Nat) : Int).toNat z54 = l.toArray[j / 2]! := by
    rw [Int.toNat_natCast, List.getD_eq_getElem?_getD]
    simp [inhP, default]
  rw [hd] at hc
  have ha : ((j / 2 : Nat) : Int).toNat * k54.sz + j % 2 = 0 + j := by
    rw [Int.toNat_natCast]
    show j / 2 * 2 + j % 2 = 0 + j
    omega
  refine ⟨?_, by rw [← ha]; exact hfr (j % 2)⟩
  have := hcc (j % 2) ((encP l.toArray[j / 2]!)[j % 2]!) ?_
  · rw [ha] at this
    rw [this, Go.Sort.get_flatK _ _ _ _ (by simpa using hj')]
    rfl
  · rw [hc]
    rcases Nat.mod_two_eq_zero_or_one j with h2 | h2 <;> rw [h2] <;> rfl

/-- The cells of a row that were put anew: as they are told. -/
theorem put_take (cur : Array Value) (d : Array S54) (hs : d.size * 2 ≤ cur.size) : ∀ j p, d.toList[j]? = some p → (((Go.Sort.putCells id 0 (Go.Sort.flatK encP 2 d) cur).toList.take (d.size * 2)).drop (j * 2)).take 2 = [.int .i64 p.f0, .int .i64 p.f1] := by
  intro j p hj
  have hjl : j < d.size := by
    have := (List.getElem?_eq_some_iff.1 hj).1
    simpa using this
  have hp : d[j]! = p := by
    have := (List.getElem?_eq_some_iff.1 hj).2
    rw [getElem!_pos d j hjl]
    simpa using this
  have hcell : ∀ t, t < d.size * 2 → (Go.Sort.putCells id 0 (Go.Sort.flatK encP 2 d) cur)[t]? = some ((encP d[t / 2]!)[t % 2]!) := by
    intro t ht
    simp only [Go.Sort.putCells, Array.getElem?_mapIdx]
    rw [Array.getElem?_eq_getElem (show t < cur.size by omega)]
    simp only [Option.map_some, Go.Sort.size_flatK]
    rw [if_pos ⟨by omega, by omega⟩, Nat.sub_zero, Go.Sort.get_flatK _ _ _ _ ht]
    rfl
  apply List.ext_getElem?
  intro i
  rw [List.getElem?_take]
  by_cases hi : i < 2
  · rw [if_pos hi, List.getElem?_drop, List.getElem?_take, if_pos (by omega), Array.getElem?_toList, hcell _ (by omega)]
    have h1 : (j * 2 + i) / 2 = j := by omega
    have h2 : (j * 2 + i) % 2 = i := by omega
    rw [h1, h2, hp]
    rcases (show i = 0 ∨ i = 1 by omega) with rfl | rfl <;> rfl
  · rw [if_neg hi, List.getElem?_eq_none (by simp; omega)]
theorem heap_sorted (w : World) (g n : Nat) (d : Array S54) (os : Array Obj) {cur : Array Value} (hg : w.heap[g]? = some (.cells cur 54 (0, 0))) :
    (sortWorldK encP 2 w g 0 n d os).heap[g]? = some (.cells (Go.Sort.putCells id 0 (Go.Sort.flatK encP 2 d) cur) 54 (0, 0)) := by
  have hlt := blk_lt hg
  unfold sortWorldK
  rw [Go.Sort.heap_grow_old _ _ (by simpa [Go.Sort.putRowK, Go.Sort.putRow, Go.Sort.mapBlock, Go.Sort.ahead] using hlt)]
  show (w.heap.modify g _)[g]? = _
  rw [Array.getElem?_modify, if_pos rfl, hg]
  rfl
theorem grown_sorted (w : World) (g n : Nat) (d : Array S54) (os : Array Obj) : w.grownBy (sortWorldK encP 2 w g 0 n d os) (some g) := by
  refine ⟨rfl, rfl, rfl, ?_, fun k hk hne => ?_⟩
  · unfold sortWorldK
    rw [Go.Sort.size_grow]
    show w.heap.size ≤ (w.heap.modify g _).size + _
    rw [Array.size_modify]
    omega
  · unfold sortWorldK
    rw [Go.Sort.heap_grow_old _ _ (by simpa [Go.Sort.putRowK, Go.Sort.putRow, Go.Sort.mapBlock, Go.Sort.ahead] using hk)]
    show (w.heap.modify g _)[k]? = _
    rw [Array.getElem?_modify, if_neg (fun e => hne (by rw [e]))]
theorem R_sorted {w : World} {base g cap n : Nat} {ok : Nat → Prop} {l : List S54} {d : Array S54} {os : Array Obj} (h : Kd.R k54 54 w base ok (.slice (some ⟨g, 0, none⟩) l.length cap) l) (hd : d.size = l.length) :
    Kd.R k54 54 (sortWorldK encP 2 w g 0 n d os) base ok (.slice (some ⟨g, 0, none⟩) l.length cap) d.toList := by
  obtain ⟨h0, inner, ⟨hl, ho⟩, hr⟩ := h
  rcases ho with ⟨hv, _⟩ | ⟨g', cap', cur, hv, hb, hh, hnc, hcm, hcs, ht⟩
  · cases hv
  injection hv with ha _ hc
  injection ha with ha
  injection ha with ha
  subst ha; subst hc
  have hcs' : cur.size = cap * 2 := hcs
  have hn : d.toList.length = l.length := by simpa using hd
  refine ⟨h0, (Go.Sort.putCells id 0 (Go.Sort.flatK encP 2 d) cur).toList.take (d.size * 2), ⟨?_, .inr ⟨g, cap, _, by rw [hn], hb, heap_sorted w g n d os hh, by omega, hcm, ?_, ?_⟩⟩, ?_, fun j p hj => ?_⟩
  · rw [List.length_take, hn]
    show min _ _ = l.length * 2
    simp [Go.Sort.putCells]
    omega
  · simp [Go.Sort.putCells]
    exact hcs
  · rw [hn, hd]
    rfl
  · rw [List.length_take, hn]
    show min _ _ = l.length * 2
    simp [Go.Sort.putCells]
    omega
  · have := put_take cur d (by omega) j p hj
    show k54.M _ _ _ p ((((Go.Sort.putCells id 0 (Go.Sort.flatK encP 2 d) cur).toList.take (d.size * 2)).drop (j * 2)).take 2)
    rw [this]
    exact k54_mkM _ _ _ p
theorem sort_row {cf : S54 → S54 → Int} (hS : Go.Sort.SWO (ltOf cf)) (f : FuncId) (eg : ∀ args w, (callFunc f args).run Try.prog w = .ok (.enter f args) w)
    (hcmp : ∀ (x y : S54) (W : World), Calls Try.prog f #[.agg #[.int .i64 x.f0, .int .i64 x.f1], .agg #[.int .i64 y.f0, .int .i64 y.f1]] W fun e w' => e = .returned (.int .i64 (cf x y)) ∧ ∃ q os', w' = Go.Sort.grow (W.drewN q) os')
    {w : World} {base : Nat} {ok : Nat → Prop} {A : Option Addr} {cap : Nat} {l : List S54} (h12 : l.length ≤ 12) (h : Kd.R k54 54 w base ok (.slice A l.length cap) l) :
    Calls Try.prog 49 #[.slice A l.length cap, .func (.func f) #[] #[]] w fun e w' => e = .returned (.tuple #[]) ∧ Kd.R k54 54 w' base ok (.slice A l.length cap) (sortL cf l) ∧ w.grownBy w' (Value.slice A l.length cap).ownBlock := by
  by_cases hz : l = []
  · subst hz
    refine (AnyF.slices_SortFunc_none Try.sortPair A cap (.func (.func f) #[] #[]) w).mono ?_
    rintro e w' ⟨rfl, rfl⟩
    have hs : sortL cf [] = [] := List.length_eq_zero_iff.1 (sortL_len hS [])
    rw [hs]
    exact ⟨rfl, h, World.grownBy.refl _ _⟩
  · have hp : 0 < l.length := List.length_pos_iff.2 hz
    obtain ⟨g, c', hv, hb, hlt, _⟩ := Kd.R_form h hp
    injection hv with ha _ hc
    subst ha; subst hc
    have hcon := AnyQ.slices_SortFunc_small Try.sortPair 2 Try.isAgg54 Try.sizeOf54 encP (fun _ => rfl) (fun x v hv => by simp [encP] at hv; rcases hv with rfl | rfl <;> rfl) cf f #[] g 0 cap l.toArray w eg (fun _ _ _ _ x y => hcmp x y _) (holds_of_R h) hlt (by simpa using h12) hlen
    refine hcon.mono ?_
    rintro e w' ⟨rfl, n, os, rfl⟩
    refine ⟨rfl, ?_, grown_sorted _ _ _ _ _⟩
    have hs := sort_size hS l.toArray
    exact R_sorted h (by simpa using hs)

set_option maxHeartbeats 8000000 in
set_option maxRecDepth 100000 in
theorem sort_calls (k : Nat) (P0_ : Nat → Prop) (u9000_ : Value) (l0 : List (S54)) (a1 : Int) (r : List (S54)) (w0 w : World) (hB : Below w0.heap.size w0 w) (ho0 : Kd.R k54 54 w w0.heap.size P0_ u9000_ l0) (h : sortP l0 a1 = some r) :
    Calls Try.prog 45 #[u9000_, .int .i64 a1] w fun e w' => e = .returned (.tuple #[]) ∧ Kd.R k54 54 w' w0.heap.size P0_ u9000_ r ∧ Below w0.heap.size w0 w' ∧ Kept w w' (fun k_ => P0_ k_) := by
  have e47 : ∀ args w, (callFunc 47 args).run Try.prog w = .ok (.enter 47 args) w := enters_of Try.func47 (by kernel_rfl) rfl
  have e48 : ∀ args w, (callFunc 48 args).run Try.prog w = .ok (.enter 48 args) w := enters_of Try.func48 (by kernel_rfl) rfl
  have qs47 : ∀ (W : World) (a : Addr) (m : Mode), (store a (.func (.func 47) #[] #[]) m).run Try.prog W = stored Try.prog W a (.func (.func 47) #[] #[]) m := fun W a m => run_store Try.prog W a _ m rfl
  have qs48 : ∀ (W : World) (a : Addr) (m : Mode), (store a (.func (.func 48) #[] #[]) m).run Try.prog W = stored Try.prog W a (.func (.func 48) #[] #[]) m := fun W a m => run_store Try.prog W a _ m rfl
  obtain ⟨A0, c0, e0⟩ := Kd.R_slice ho0
  subst e0
  unfold sortP at h
  by_cases h12 : l0.length ≤ 12
  case neg => rw [if_neg h12] at h; cases h
  rw [if_pos h12] at h
  have HO := Aside0.mk ho0
  have HB := Aside0.mk hB
  clear ho0 hB
  by_cases c0 : a1 = 0
  · rw [if_pos c0] at h
    obtain rfl := Option.some.inj h
    subst c0
    clear h
    go_enter Try.func45, Try.ntmps45
    go_wp2_with (first | ((with_reducible refine gate_dst (N := 4) rfl ?_); refine box_event ?hg (N := 4) ?hd (cs := #[.nilFunc, .nilFunc]) (t := 77) ?hr ?_; (case hd => rfl); (case hg => rfl); (case hr => first | (go_simp; done) | (go_simp; rfl)); intro gb hg w1 hbox hb; have b1 : (w1.setCell ⟨gb, 0, none⟩ (.func (.func 47) #[] #[])).heap[gb]? = some (.cells #[.func (.func 47) #[] #[], .nilFunc] 77 (0, 0)) := (by simpa using blk_set hbox 0 (.func (.func 47) #[] #[])); have b2 : ((w1.setCell ⟨gb, 0, none⟩ (.func (.func 47) #[] #[])).setCell ⟨gb, 1, none⟩ (.func (.func 48) #[] #[])).heap[gb]? = some (.cells #[.func (.func 47) #[] #[], .func (.func 48) #[] #[]] 77 (0, 0)) := (by simpa using blk_set b1 1 (.func (.func 48) #[] #[])); have hO1 := Kd.R_set (Kd.R_set (Kd.R_below HO.out hb) hbox (by decide) 0 (.func (.func 47) #[] #[])) b1 (by decide) 1 (.func (.func 48) #[] #[]); have hg1 := Nat.le_of_eq hg.symm; have hB1 := below_set (j := 1) (v := .func (.func 48) #[] #[]) (below_set (j := 0) (v := .func (.func 47) #[] #[]) (below_step HB.out hb) (Nat.le_trans HB.out.size hg1)) (Nat.le_trans HB.out.size hg1); have hK1 := Kept.setCell (Kept.setCell (Kept.of_below hb (fun k_ => P0_ k_)) (p := ⟨gb, 0, none⟩) (.inr hg1) (.func (.func 47) #[] #[])) (p := ⟨gb, 1, none⟩) (.inr hg1) (.func (.func 48) #[] #[]); have hc0 : w1.cell? ⟨gb, 0, none⟩ = some .nilFunc := (blk_cell hbox 0).trans rfl; have hf0 := blk_frozen hbox 0; have hc1 : (w1.setCell ⟨gb, 0, none⟩ (.func (.func 47) #[] #[])).cell? ⟨gb, 1, none⟩ = some .nilFunc := (blk_cell b1 1).trans rfl; have hf1 := blk_frozen b1 1; have hc2 : ((w1.setCell ⟨gb, 0, none⟩ (.func (.func 47) #[] #[])).setCell ⟨gb, 1, none⟩ (.func (.func 48) #[] #[])).cell? ⟨gb, 0, none⟩ = some (.func (.func 47) #[] #[]) := (blk_cell b2 0).trans rfl; clear hbox b1 b2 hg) | ((with_reducible refine gate_store (t := 77) (p := 4) rfl ?_); refine store_event (t := 77) (p := 4) (v := ?vo_w8) (w1 := ((w1.setCell ⟨gb, 0, none⟩ (.func (.func 47) #[] #[])).setCell ⟨gb, 1, none⟩ (.func (.func 48) #[] #[]))) ?hg ?ho ?hn ?hr ?_; (case ho => rfl); (case hg => rfl); (case hn => rfl); (case hr => first | (go_simp; done) | (go_simp; rfl)); intro w2 hw; subst hw) | (go_at_call 49; refine (sort_row swo_T 47 e47 calls47 h12 hO1).mono ?_; rintro e w' ⟨rfl, hr, hg⟩))
    go_end0
    exact ⟨rfl, hr, Below.grown hB1 hg hB1.size (fun k e => Kd.R_base hO1 k e), Kept.of_grown hg hK1 (fun k e => .inl (hO1.1 k e))⟩
  · rw [if_neg c0] at h
    by_cases c1 : a1 = 1
    case neg => rw [if_neg c1] at h; cases h
    rw [if_pos c1] at h
    obtain rfl := Option.some.inj h
    subst c1
    clear h c0
    go_enter Try.func45, Try.ntmps45
    go_wp2_with (first | ((with_reducible refine gate_dst (N := 4) rfl ?_); refine box_event ?hg (N := 4) ?hd (cs := #[.nilFunc, .nilFunc]) (t := 77) ?hr ?_; (case hd => rfl); (case hg => rfl); (case hr => first | (go_simp; done) | (go_simp; rfl)); intro gb hg w1 hbox hb; have b1 : (w1.setCell ⟨gb, 0, none⟩ (.func (.func 47) #[] #[])).heap[gb]? = some (.cells #[.func (.func 47) #[] #[], .nilFunc] 77 (0, 0)) := (by simpa using blk_set hbox 0 (.func (.func 47) #[] #[])); have b2 : ((w1.setCell ⟨gb, 0, none⟩ (.func (.func 47) #[] #[])).setCell ⟨gb, 1, none⟩ (.func (.func 48) #[] #[])).heap[gb]? = some (.cells #[.func (.func 47) #[] #[], .func (.func 48) #[] #[]] 77 (0, 0)) := (by simpa using blk_set b1 1 (.func (.func 48) #[] #[])); have hO1 := Kd.R_set (Kd.R_set (Kd.R_below HO.out hb) hbox (by decide) 0 (.func (.func 47) #[] #[])) b1 (by decide) 1 (.func (.func 48) #[] #[]); have hg1 := Nat.le_of_eq hg.symm; have hB1 := below_set (j := 1) (v := .func (.func 48) #[] #[]) (below_set (j := 0) (v := .func (.func 47) #[] #[]) (below_step HB.out hb) (Nat.le_trans HB.out.size hg1)) (Nat.le_trans HB.out.size hg1); have hK1 := Kept.setCell (Kept.setCell (Kept.of_below hb (fun k_ => P0_ k_)) (p := ⟨gb, 0, none⟩) (.inr hg1) (.func (.func 47) #[] #[])) (p := ⟨gb, 1, none⟩) (.inr hg1) (.func (.func 48) #[] #[]); have hc0 : w1.cell? ⟨gb, 0, none⟩ = some .nilFunc := (blk_cell hbox 0).trans rfl; have hf0 := blk_frozen hbox 0; have hc1 : (w1.setCell ⟨gb, 0, none⟩ (.func (.func 47) #[] #[])).cell? ⟨gb, 1, none⟩ = some .nilFunc := (blk_cell b1 1).trans rfl; have hf1 := blk_frozen b1 1; have hc2 : ((w1.setCell ⟨gb, 0, none⟩ (.func (.func 47) #[] #[])).setCell ⟨gb, 1, none⟩ (.func (.func 48) #[] #[])).cell? ⟨gb, 1, none⟩ = some (.func (.func 48) #[] #[]) := (blk_cell b2 1).trans rfl; clear hbox b1 b2 hg) | ((with_reducible refine gate_store (t := 77) (p := 4) rfl ?_); refine store_event (t := 77) (p := 4) (v := ?vo_w8) (w1 := ((w1.setCell ⟨gb, 0, none⟩ (.func (.func 47) #[] #[])).setCell ⟨gb, 1, none⟩ (.func (.func 48) #[] #[]))) ?hg ?ho ?hn ?hr ?_; (case ho => rfl); (case hg => rfl); (case hn => rfl); (case hr => first | (go_simp; done) | (go_simp; rfl)); intro w2 hw; subst hw) | (go_at_call 49; refine (sort_row swo_N 48 e48 calls48 h12 hO1).mono ?_; rintro e w' ⟨rfl, hr, hg⟩))
    go_end0
    exact ⟨rfl, hr, Below.grown hB1 hg hB1.size (fun k e => Kd.R_base hO1 k e), Kept.of_grown hg hK1 (fun k e => .inl (hO1.1 k e))⟩

end Go.Proofs.Ytlobnnakikgcnaa.H
