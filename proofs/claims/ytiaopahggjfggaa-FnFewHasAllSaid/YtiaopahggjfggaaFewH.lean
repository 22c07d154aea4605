/- What the program's and the reference's FewHas tell: the same; as many things are known as marks are kept. Conditions: lists shorter than 2^50. -/
import Derived.Test.YtiaopahggjfggaaFewA
import Derived.Test.YtiaopahggjfggaaPAx41
import Derived.Test.YtiaopahggjfggaaPAx40
namespace Go.Proofs.Ytiaopahggjfggaa.Ev
open Go.RowKit Go.Proofs.YtiaopahggjfggaaW.PrintWords Go.Proofs.YtiaopahggjfggaaW.PrintLast Go.Proofs.Ytiaopahggjfggaa.PA

def hasM (l : List Int) (m : Int) : Bool × Bool := if l.contains m = true then (true, true) else (false, decide (l.length < 6) || decide (m < rd l 5))
def fewHas (l : List Int) (t : Int) : Bool × Bool := if fewB l = true ∧ 0 ≤ t ∧ t ≤ 63 then hasM l (markOf t) else (false, false)
theorem contains_app (pre : List Int) (x m : Int) (h : ¬ pre.contains m = true) (c : ¬ x = m) : ¬ (pre ++ [x]).contains m = true := by
  simp at h ⊢
  exact ⟨h, fun e => c e.symm⟩
theorem impl_FewHas_l0 (L : List Int) (m : Int) (hL : L.length ≤ 6) : ∀ (suf pre : List Int), pre ++ suf = L → ¬ pre.contains m = true → EV (fun k => impl_FewHas.l0 k m L (L.length : Int) (pre.length : Int) L) (hasM L m) := by
  intro suf
  induction suf with
  | nil =>
    intro pre e hp
    obtain rfl : pre = L := by simpa using e
    refine EV.succ ?_
    simp only [impl_FewHas.l0, if_neg (show ¬ (pre.length : Int) < (pre.length : Int) by omega)]
    unfold hasM
    rw [if_neg hp]
    by_cases c : (pre.length : Int) < 6
    · simp only [if_pos c]
      exact (EV.pure _).cast (by simp [show pre.length < 6 by omega])
    · simp only [if_neg c, if_pos (show 5 < (pre.length : Int) by omega)]
      exact (EV.pure _).cast (by simp [show ¬ pre.length < 6 by omega])
  | cons x suf ih =>
    intro pre e hp
    have hl : (L.length : Int) = pre.length + suf.length + 1 := by rw [← e]; exact len_mid _ _ _
    have hx : rd L (pre.length : Int) = x := by rw [← e]; exact rd_mid _ _ _ _ rfl
    refine EV.succ ?_
    simp only [impl_FewHas.l0, hx, if_pos (show (pre.length : Int) < (L.length : Int) by omega), if_pos (show (0 : Int) ≤ (pre.length : Int) by omega)]
    by_cases c : x = m
    · simp only [if_pos c]
      exact (EV.pure _).cast (by unfold hasM; rw [if_pos (by rw [← e]; simp [c])])
    · simp only [if_neg c]
      rw [w64 (x := (pre.length : Int) + 1) (by omega) (by omega), ← len_snoc pre x]
      exact ih (pre ++ [x]) (by rw [← app_mid]; exact e) (contains_app pre x m hp c)
theorem spec_FewHas_l0 (L : List Int) (m : Int) (hL : L.length ≤ 6) : ∀ (suf pre : List Int), pre ++ suf = L → ¬ pre.contains m = true → EV (fun k => spec_FewHas.l0 k (L.length : Int) m (pre.length : Int) L) (hasM L m) := by
  intro suf
  induction suf with
  | nil =>
    intro pre e hp
    obtain rfl : pre = L := by simpa using e
    refine EV.succ ?_
    simp only [spec_FewHas.l0, if_neg (show ¬ (pre.length : Int) < (pre.length : Int) by omega)]
    unfold hasM
    rw [if_neg hp]
    by_cases c : (pre.length : Int) < 6
    · simp only [if_pos c]
      exact (EV.pure _).cast (by simp [show pre.length < 6 by omega])
    · have e5 : wrap64 ((pre.length : Int) - 1) = 5 := by rw [w64 (by omega) (by omega)]; omega
      simp only [if_neg c, e5, if_pos (show (0 : Int) ≤ 5 by omega), if_pos (show 5 < (pre.length : Int) by omega)]
      exact (EV.pure _).cast (by simp [show ¬ pre.length < 6 by omega])
  | cons x suf ih =>
    intro pre e hp
    have hl : (L.length : Int) = pre.length + suf.length + 1 := by rw [← e]; exact len_mid _ _ _
    have hx : rd L (pre.length : Int) = x := by rw [← e]; exact rd_mid _ _ _ _ rfl
    refine EV.succ ?_
    simp only [spec_FewHas.l0, hx, if_pos (show (pre.length : Int) < (L.length : Int) by omega), if_pos (show (0 : Int) ≤ (pre.length : Int) by omega)]
    by_cases c : x = m
    · simp only [if_pos c]
      exact (EV.pure _).cast (by unfold hasM; rw [if_pos (by rw [← e]; simp [c])])
    · simp only [if_neg c]
      rw [w64 (x := (pre.length : Int) + 1) (by omega) (by omega), ← len_snoc pre x]
      exact ih (pre ++ [x]) (by rw [← app_mid]; exact e) (contains_app pre x m hp c)
theorem impl_FewHas_ev (l : List Int) (t : Int) (h : l.length < 1125899906842624) : EV (fun k => impl_FewHas.f k l t) (fewHas l t) := by
  unfold impl_FewHas.f fewHas
  have stop : EV (fun k => impl_FewHas.j0 k t true l) (false, false) := by
    refine EV.succ ?_
    simp only [impl_FewHas.j0, if_true]
    exact EV.pure _
  refine EV.bind (impl_FewOk_ev l h) ?_
  by_cases c : fewB l = true
  · simp only [if_pos c, thing_eq, Option.bind_some]
    by_cases d : 0 ≤ t ∧ t ≤ 63
    · simp only [decide_eq_true d, Bool.not_true]
      rw [if_pos ⟨c, d⟩]
      refine EV.succ ?_
      simp only [impl_FewHas.j0, Bool.false_eq_true, if_false, impl_mark, markR_thing d, Option.bind_some]
      exact impl_FewHas_l0 l _ (fewB_iff.1 c).1 l [] rfl (by simp)
    · simp only [decide_eq_false d, Bool.not_false]
      rw [if_neg (fun g => d g.2)]
      exact stop
  · simp only [if_neg c]
    rw [if_neg (fun g => c g.1)]
    exact stop
theorem spec_FewHas_ev (l : List Int) (t : Int) (h : l.length < 1125899906842624) : EV (fun k => spec_FewHas.f k l t) (fewHas l t) := by
  unfold spec_FewHas.f fewHas
  have stop : EV (fun k => spec_FewHas.j0 k t true l) (false, false) := by
    refine EV.succ ?_
    simp only [spec_FewHas.j0, if_true]
    exact EV.pure _
  refine EV.bind (spec_FewOk_ev l h) ?_
  by_cases c : fewB l = true
  · simp only [if_pos c, in_eq, Option.bind_some]
    by_cases d : 0 ≤ t ∧ t ≤ 63
    · simp only [decide_eq_true d, Bool.not_true]
      rw [if_pos ⟨c, d⟩]
      refine EV.succ ?_
      simp only [spec_FewHas.j0, Bool.false_eq_true, if_false, spec_mark, markR_thing d, Option.bind_some]
      exact spec_FewHas_l0 l _ (fewB_iff.1 c).1 l [] rfl (by simp)
    · simp only [decide_eq_false d, Bool.not_false]
      rw [if_neg (fun g => d g.2)]
      exact stop
  · simp only [if_neg c]
    rw [if_neg (fun g => c g.1)]
    exact stop

/-! as many things as marks -/
def cntAt (l : List Int) (n : Nat) : Nat := (List.range n).countP (fun i : Nat => l.contains (markOf (i : Int)))
theorem cntAt_succ (l : List Int) (n : Nat) : cntAt l (n + 1) = cntAt l n + (if l.contains (markOf (n : Int)) = true then 1 else 0) := by
  unfold cntAt
  rw [List.range_succ, List.countP_append]
  simp [List.countP_cons]
theorem countP_or {α : Type} (p q : α → Bool) : ∀ (R : List α), (∀ i ∈ R, ¬ (p i = true ∧ q i = true)) → R.countP (fun i => p i || q i) = R.countP p + R.countP q
  | [], _ => rfl
  | x :: R, h => by
    have ih := countP_or p q R (fun i hi => h i (List.mem_cons_of_mem _ hi))
    have hx := h x (by simp)
    simp only [List.countP_cons, ih]
    cases hp : p x <;> cases hq : q x <;> simp [hp, hq] at hx ⊢ <;> omega
theorem one_dec : ∀ x : Fin 64, (List.range 64).countP (fun i : Nat => markOf (i : Int) == (x.val : Int)) = 1 := by
  decide +kernel
theorem cnt_all : ∀ (l : List Int) (b : Int), -1 ≤ b → asc b l = true → cntAt l 64 = l.length
  | [], _, _, _ => by unfold cntAt; simp
  | x :: l, b, hb, g => by
    obtain ⟨g1, g2⟩ := asc_cons.1 g
    have ih := cnt_all l x (by omega) g2
    obtain ⟨a, rfl⟩ := Int.eq_ofNat_of_zero_le (show 0 ≤ x by omega)
    have h1 := one_dec ⟨a, by omega⟩
    unfold cntAt at ih ⊢
    have e : (fun i : Nat => ((a : Int) :: l).contains (markOf (i : Int))) = (fun i : Nat => (markOf (i : Int) == (a : Int)) || l.contains (markOf (i : Int))) := by
      funext i
      exact List.contains_cons
    rw [e, countP_or]
    · rw [ih]
      simp only [List.length_cons]
      simp only at h1
      omega
    · rintro i _ ⟨p1, p2⟩
      have p1' : markOf (i : Int) = (a : Int) := by simpa using p1
      have p2' : markOf (i : Int) ∈ l := by simpa using p2
      have := asc_mem g2 _ p2'
      omega
theorem fewHas_ok {l : List Int} (c : fewB l = true) {t : Int} (h0 : 0 ≤ t) (h1 : t ≤ 63) : fewHas l t = hasM l (markOf t) := by unfold fewHas; rw [if_pos ⟨c, h0, h1⟩]
theorem hasM_known (l : List Int) (m : Int) : (hasM l m).1 = true → (hasM l m).2 = true := by
  unfold hasM
  split
  · exact fun _ => rfl
  · intro h
    cases h
theorem hasM_fst (l : List Int) (m : Int) : (hasM l m).1 = l.contains m := by
  unfold hasM
  cases h : l.contains m <;> simp

end Go.Proofs.Ytiaopahggjfggaa.Ev
