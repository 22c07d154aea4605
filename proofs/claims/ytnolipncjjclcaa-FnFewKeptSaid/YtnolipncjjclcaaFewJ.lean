/- Merged marks: what of them is kept is the same whatever the order. No condition. -/
import Derived.Test.YtnolipncjjclcaaFewM
import Derived.Test.YtnolipncjjclcaaFewB
import Derived.Test.YtnolipncjjclcaaPAx13
namespace Go.Proofs.Ytnolipncjjclcaa.Ev
open Go.RowKit Go.Proofs.YtnolipncjjclcaaW.PrintWords Go.Proofs.YtnolipncjjclcaaW.PrintLast Go.Proofs.Ytnolipncjjclcaa.PA

theorem mem_mrg (x y : List Int) (z : Int) : z ∈ mrg x y ↔ z ∈ x ∨ z ∈ y := by
  induction x, y using mrg.induct with
  | case1 => simp [mrg]
  | case2 y l2 ih => simp [mrg_nil_l]
  | case3 x l1 ih => simp [mrg_nil_r]
  | case4 x l1 y l2 h ih =>
    rw [mrg_lt h]
    simp only [List.mem_cons, ih]
    constructor
    · rintro (h | h | h | h) <;> simp [h]
    · rintro ((h | h) | h | h) <;> simp [h]
  | case5 x l1 y l2 h h' ih =>
    rw [mrg_gt h']
    simp only [List.mem_cons, ih]
    constructor
    · rintro (h | (h | h) | h) <;> simp [h]
    · rintro ((h | h) | h | h) <;> simp [h]
  | case6 x l1 y l2 h h' ih =>
    obtain rfl : x = y := by omega
    rw [mrg_eq]
    simp only [List.mem_cons, ih]
    constructor
    · rintro (h | h | h) <;> simp [h]
    · rintro ((h | h) | h | h) <;> simp [h]
theorem asc_mrg (x y : List Int) : ∀ b, asc b x = true → asc b y = true → asc b (mrg x y) = true := by
  induction x, y using mrg.induct with
  | case1 => intro b _ _; simp [mrg, asc]
  | case2 y l2 ih => intro b _ h; rw [mrg_nil_l]; exact h
  | case3 x l1 ih => intro b h _; rw [mrg_nil_r]; exact h
  | case4 x l1 y l2 h ih =>
    intro b hx hy
    obtain ⟨h1, h2⟩ := asc_cons.1 hx
    obtain ⟨h3, h4⟩ := asc_cons.1 hy
    rw [mrg_lt h]
    exact asc_cons.2 ⟨h1, ih x h2 (asc_cons.2 ⟨by omega, h4⟩)⟩
  | case5 x l1 y l2 h h' ih =>
    intro b hx hy
    obtain ⟨h1, h2⟩ := asc_cons.1 hx
    obtain ⟨h3, h4⟩ := asc_cons.1 hy
    rw [mrg_gt h']
    exact asc_cons.2 ⟨h3, ih y (asc_cons.2 ⟨by omega, h2⟩) h4⟩
  | case6 x l1 y l2 h h' ih =>
    obtain rfl : x = y := by omega
    intro b hx hy
    obtain ⟨h1, h2⟩ := asc_cons.1 hx
    obtain ⟨h3, h4⟩ := asc_cons.1 hy
    rw [mrg_eq]
    exact asc_cons.2 ⟨h1, ih x h2 h4⟩
theorem mrg_len (x y : List Int) : x.length ≤ (mrg x y).length ∧ (mrg x y).length ≤ x.length + y.length := by
  induction x, y using mrg.induct with
  | case1 => simp [mrg]
  | case2 y l2 ih => simp [mrg_nil_l]
  | case3 x l1 ih => simp [mrg_nil_r]
  | case4 x l1 y l2 h ih => rw [mrg_lt h]; simp only [List.length_cons] at ih ⊢; omega
  | case5 x l1 y l2 h h' ih => rw [mrg_gt h']; simp only [List.length_cons] at ih ⊢; omega
  | case6 x l1 y l2 h h' ih =>
    obtain rfl : x = y := by omega
    rw [mrg_eq]
    simp only [List.length_cons] at ih ⊢
    omega
theorem mrg_comm (x y : List Int) : mrg x y = mrg y x := by
  induction x, y using mrg.induct with
  | case1 => rfl
  | case2 y l2 ih => rw [mrg_nil_l, mrg_nil_r]
  | case3 x l1 ih => rw [mrg_nil_l, mrg_nil_r]
  | case4 x l1 y l2 h ih => rw [mrg_lt h, mrg_gt h, ih]
  | case5 x l1 y l2 h h' ih => rw [mrg_gt h', mrg_lt h', ih]
  | case6 x l1 y l2 h h' ih =>
    obtain rfl : x = y := by omega
    rw [mrg_eq, mrg_eq, ih]
theorem take_mrg (x y : List Int) : ∀ n m, n ≤ m → (mrg (x.take m) y).take n = (mrg x y).take n := by
  induction x, y using mrg.induct with
  | case1 => intro n m _; simp
  | case2 y l2 ih => intro n m _; simp
  | case3 x l1 ih =>
    intro n m h
    rw [mrg_nil_r, mrg_nil_r, List.take_take]
    congr 1
    omega
  | case4 x l1 y l2 h ih =>
    intro n m hm
    cases n with
    | zero => simp
    | succ n =>
      obtain ⟨m, rfl⟩ : ∃ k, m = k + 1 := ⟨m - 1, by omega⟩
      rw [List.take_succ_cons, mrg_lt h, mrg_lt h, List.take_succ_cons, List.take_succ_cons, ih n m (by omega)]
  | case5 x l1 y l2 h h' ih =>
    intro n m hm
    cases n with
    | zero => simp
    | succ n =>
      obtain ⟨m, rfl⟩ : ∃ k, m = k + 1 := ⟨m - 1, by omega⟩
      have := ih n (m + 1) (by omega)
      rw [List.take_succ_cons] at this
      rw [List.take_succ_cons, mrg_gt h', mrg_gt h', List.take_succ_cons, List.take_succ_cons, this]
  | case6 x l1 y l2 h h' ih =>
    obtain rfl : x = y := by omega
    intro n m hm
    cases n with
    | zero => simp
    | succ n =>
      obtain ⟨m, rfl⟩ : ∃ k, m = k + 1 := ⟨m - 1, by omega⟩
      rw [List.take_succ_cons, mrg_eq, mrg_eq, List.take_succ_cons, List.take_succ_cons, ih n m (by omega)]
/-- Ascending marks are told by what stands in them. -/
theorem asc_ext : ∀ (l l' : List Int) (b b' : Int), asc b l = true → asc b' l' = true → (∀ z, z ∈ l ↔ z ∈ l') → l = l'
  | [], [], _, _, _, _, _ => rfl
  | [], y :: l', _, _, _, _, h => by
    have := (h y).2 (by simp)
    cases this
  | x :: l, [], _, _, _, _, h => by
    have := (h x).1 (by simp)
    cases this
  | x :: l, y :: l', b, b', g, g', h => by
    obtain ⟨g1, g2⟩ := asc_cons.1 g
    obtain ⟨g1', g2'⟩ := asc_cons.1 g'
    have hx := (h x).1 (by simp)
    have hy := (h y).2 (by simp)
    have e : x = y := by
      rcases List.mem_cons.1 hx with e | hx
      · exact e
      rcases List.mem_cons.1 hy with e | hy
      · exact e.symm
      have a1 := asc_mem g2' x hx
      have a2 := asc_mem g2 y hy
      omega
    subst e
    rw [asc_ext l l' x x g2 g2' (fun z => ?_)]
    constructor
    · intro hz
      have a := asc_mem g2 z hz
      rcases List.mem_cons.1 ((h z).1 (List.mem_cons_of_mem _ hz)) with e | hz'
      · omega
      · exact hz'
    · intro hz
      have a := asc_mem g2' z hz
      rcases List.mem_cons.1 ((h z).2 (List.mem_cons_of_mem _ hz)) with e | hz'
      · omega
      · exact hz'
theorem mrg_assoc {x y z : List Int} {b : Int} (hx : asc b x = true) (hy : asc b y = true) (hz : asc b z = true) : mrg (mrg x y) z = mrg x (mrg y z) :=
  asc_ext _ _ b b (asc_mrg _ _ b (asc_mrg _ _ b hx hy) hz) (asc_mrg _ _ b hx (asc_mrg _ _ b hy hz)) (fun w => by simp only [mem_mrg, or_assoc])
theorem mrg_self {x : List Int} {b : Int} (hx : asc b x = true) : mrg x x = x :=
  asc_ext _ _ b b (asc_mrg _ _ b hx hx) hx (fun w => by simp only [mem_mrg, or_self])
/-- What is kept of both. -/
def kept (a b : List Int) : List Int := (mrg a b).take 6
theorem kept_len (a b : List Int) : (kept a b).length ≤ 6 := by
  unfold kept
  rw [List.length_take]
  omega
theorem kept_asc {a b : List Int} {c : Int} (ha : asc c a = true) (hb : asc c b = true) : asc c (kept a b) = true := asc_take 6 (asc_mrg _ _ c ha hb)
theorem kept_comm (a b : List Int) : kept a b = kept b a := by
  unfold kept
  rw [mrg_comm]
theorem kept_self {a : List Int} (ha : fewB a = true) : kept a a = a := by
  obtain ⟨h1, h2⟩ := fewB_iff.1 ha
  unfold kept
  rw [mrg_self h2, List.take_of_length_le h1]
theorem kept_l (a b : List Int) : kept (kept a b) = kept (mrg a b) := by
  funext c
  exact take_mrg (mrg a b) c 6 6 (Nat.le_refl _)
theorem kept_r (a b c : List Int) : kept a (kept b c) = kept a (mrg b c) := by rw [kept_comm, kept_l, kept_comm]
theorem kept_assoc {a b c : List Int} {d : Int} (ha : asc d a = true) (hb : asc d b = true) (hc : asc d c = true) : kept (kept a b) c = kept a (kept b c) := by
  rw [kept_l, kept_r]
  unfold kept
  rw [mrg_assoc ha hb hc]
theorem kept_again {a b : List Int} {d : Int} (ha : asc d a = true) (hb : asc d b = true) : kept (kept a b) b = kept a b := by
  rw [kept_l]
  unfold kept
  rw [mrg_assoc ha hb hb, mrg_self hb]
theorem kept_few {a b : List Int} (ha : fewB a = true) (hb : fewB b = true) : fewB (kept a b) = true :=
  fewB_iff.2 ⟨kept_len a b, kept_asc (fewB_iff.1 ha).2 (fewB_iff.1 hb).2⟩
theorem one_asc (t : Int) : asc (-1) [markOf t] = true := by
  have := markOf_bd t
  exact asc_cons.2 ⟨by omega, rfl⟩
theorem one_few (t : Int) : fewB [markOf t] = true := fewB_iff.2 ⟨by simp, one_asc t⟩
/-- What is not kept is not less than what is. -/
theorem kept_rest {a b : List Int} {c : Int} (ha : asc c a = true) (hb : asc c b = true) {z : Int} (hz : z ∈ mrg a b) (hn : ¬ z ∈ kept a b) : (kept a b).length = 6 ∧ ∀ w ∈ kept a b, w < z := by
  have hm := asc_mrg _ _ c ha hb
  unfold kept at hn ⊢
  generalize mrg a b = l at *
  have key : ∀ (n : Nat) (l : List Int) (c : Int), asc c l = true → z ∈ l → ¬ z ∈ l.take n → (l.take n).length = n ∧ ∀ w ∈ l.take n, w < z := by
    intro n
    induction n with
    | zero => intro l c _ _ _; simp
    | succ n ih =>
      intro l c hl hz hn
      cases l with
      | nil => cases hz
      | cons x l =>
        obtain ⟨g1, g2⟩ := asc_cons.1 hl
        rw [List.take_succ_cons] at hn ⊢
        have hx : z ≠ x := fun e => hn (by simp [e])
        have hzl : z ∈ l := by
          rcases List.mem_cons.1 hz with e | h
          · exact absurd e hx
          · exact h
        have := ih l x g2 hzl (fun h => hn (List.mem_cons_of_mem _ h))
        refine ⟨by simp [this.1], ?_⟩
        intro w hw
        rcases List.mem_cons.1 hw with rfl | hw
        · exact (asc_mem g2 z hzl).1
        · exact this.2 w hw
  exact key 6 l c hm hz hn

/-! what the reference computes -/
theorem drop1_asc : ∀ {l : List Int} {m : Int}, asc m l = true → drop1 m l = l := by
  intro l m h
  unfold drop1
  rw [List.filter_eq_self]
  intro x hx
  have := asc_mem h x hx
  simp
  omega
theorem putL_mrg (m : Int) : ∀ (l : List Int) (b : Int), asc b l = true → putL m l = mrg l [m]
  | [], _, _ => by rw [mrg_nil_l]; rfl
  | x :: l, b, h => by
    obtain ⟨h1, h2⟩ := asc_cons.1 h
    unfold putL
    by_cases c : x ≥ m
    · rw [if_pos c]
      by_cases d : x = m
      · subst d
        rw [mrg_eq, mrg_nil_r]
        have e := drop1_asc h2
        unfold drop1 at e ⊢
        rw [List.filter_cons_of_neg (by simp), e]
      · rw [mrg_gt (by omega), mrg_nil_r, drop1_asc (asc_cons.2 ⟨by omega, h2⟩)]
    · rw [if_neg c, mrg_lt (by omega), putL_mrg m l x h2]
theorem fewAdd_kept (l : List Int) (t : Int) : fewAdd l t = if fewB l = true ∧ 0 ≤ t ∧ t ≤ 63 then (kept l [markOf t], true) else ([], false) := by
  unfold fewAdd
  by_cases c : fewB l = true ∧ 0 ≤ t ∧ t ≤ 63
  · rw [if_pos c, if_pos c, putL_mrg _ l _ (fewB_iff.1 c.1).2]
    rfl
  · rw [if_neg c, if_neg c]
/-- What FewJoin tells. -/
def joinF (a b : List Int) : List Int × Bool := if fewB a = true ∧ fewB b = true then (kept a b, true) else ([], false)
theorem fold_kept : ∀ (b a : List Int) (c : Int), asc (-1) a = true → asc c b = true → -1 ≤ c → a.length ≤ 6 → b.foldl (fun acc m => (putL m acc).take 6) a = kept a b
  | [], a, _, _, _, _, h => by
    show a = (mrg a []).take 6
    rw [mrg_nil_r, List.take_of_length_le h]
  | m :: b, a, c, ha, hb, hc, h => by
    obtain ⟨h1, h2⟩ := asc_cons.1 hb
    have hm : asc (-1) [m] = true := asc_cons.2 ⟨by omega, rfl⟩
    have hb' : asc (-1) b = true := asc_mono (by omega) h2
    show b.foldl _ ((putL m a).take 6) = _
    rw [putL_mrg m a (-1) ha]
    rw [show (mrg a [m]).take 6 = kept a [m] from rfl, fold_kept b (kept a [m]) m (kept_asc ha hm) h2 (by omega) (kept_len _ _)]
    rw [kept_assoc ha hm hb']
    rw [kept_r]
    have : mrg [m] b = m :: b := by
      cases b with
      | nil => rw [mrg_nil_r]
      | cons y b => rw [mrg_lt (asc_cons.1 h2).1.1, mrg_nil_l]
    rw [this]
theorem low_few {l : List Int} (h : fewB l = true) : fits l = true := by
  obtain ⟨h1, h2⟩ := fewB_iff.1 h
  unfold fits low
  rw [decide_eq_true h1, Bool.true_and, List.all_eq_true]
  intro x hx
  exact decide_eq_true (asc_mem h2 x hx).2
theorem least_eq {a b : List Int} (ha : fewB a = true) (hb : fewB b = true) : impl_leastOf.f a b = some (kept a b) := by
  unfold impl_leastOf.f leastF kept
  rw [low_few ha, low_few hb]
  rfl

end Go.Proofs.Ytnolipncjjclcaa.Ev
