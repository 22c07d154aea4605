/- FnFewHasAll: as many things are known as marks are kept, for every code of at most 2^20 bytes. -/
import Derived.Test.YtiaopahggjfggaaFewB
import Derived.Test.YtiaopahggjfggaaFewH
import Derived.Test.YtiaopahggjfggaaPAx50
namespace Go.Proofs.Ytiaopahggjfggaa.Pure
open Go.RowKit Go.Proofs.Ytiaopahggjfggaa.PA Go.Proofs.YtiaopahggjfggaaW.PrintWords Go.Proofs.YtiaopahggjfggaaW.PrintLast Go.Proofs.Ytiaopahggjfggaa.Ev

theorem drawHas_tot (l : List Int) (h : ∀ x ∈ l, (Lit.int .u8 x).wf = true) : Tot (fun k => spec_DrawFewHas.f k l) (fun r => r.1.length ≤ 7) := by
  obtain ⟨b, hb, e⟩ := open_ev l h
  simp only [spec_DrawFewHas.f, spec_DrawFewAdd.f, e, Option.bind_some]
  refine Tot.bind (P := fun r => r.1.length ≤ 7) ?_ ?_
  · refine Tot.bind (l71Few_tot hb (by omega) (by omega)) ?_
    rintro ⟨f, q⟩ ⟨h0, h1, h2⟩
    simp only at h0 h1 h2
    refine Tot.bind (thing_tot (p := q) hb h1 (by omega)) ?_
    intro _ _
    exact Tot.pure _ h0
  · rintro ⟨f, t⟩ h0
    exact Tot.pure _ h0
theorem all_loop (f : List Int) (h : fewB f = true) (a b : Bool) (hab : a = true → b = true) : ∀ (m n : Nat), n + m = 64 → EV (fun k => laws_FnFewHasAll.l0 k a b (cntAt f n : Int) (n : Int) f) true := by
  obtain ⟨h1, h2⟩ := fewB_iff.1 h
  intro m
  induction m with
  | zero =>
    intro n hn
    obtain rfl : n = 64 := by omega
    refine EV.succ ?_
    simp only [laws_FnFewHasAll.l0, if_neg (show ¬ ((64 : Nat) : Int) < 64 by omega), cnt_all f (-1) (by omega) h2, if_true]
    cases a
    · simp only [Bool.false_eq_true, if_false]
      exact EV.pure _
    · simp only [if_true]
      exact (EV.pure _).cast (hab rfl)
  | succ m ih =>
    intro n hn
    have hc : cntAt f n ≤ n := by
      unfold cntAt
      exact Nat.le_trans List.countP_le_length (by simp)
    refine EV.succ ?_
    simp only [laws_FnFewHasAll.l0, if_pos (show (n : Int) < 64 by omega)]
    refine EV.bind ((impl_FewHas_ev f (n : Int) (by omega)).cast (fewHas_ok h (by omega) (by omega))) ?_
    have e1 : wrap64 ((n : Int) + 1) = ((n + 1 : Nat) : Int) := by rw [w64 (by omega) (by omega)]; omega
    have e2 := cntAt_succ f n
    by_cases c : f.contains (markOf (n : Int)) = true
    · rw [if_pos c] at e2
      have e3 : wrap64 ((cntAt f n : Int) + 1) = (cntAt f (n + 1) : Int) := by rw [w64 (by omega) (by omega)]; omega
      simp only [hasM_fst, if_pos c, e1, e3]
      exact ih (n + 1) (by omega)
    · rw [if_neg c] at e2
      simp only [hasM_fst, if_neg c, e1]
      rw [show cntAt f n = cntAt f (n + 1) by omega]
      exact ih (n + 1) (by omega)
theorem FnFewHasAll : laws_FnFewHasAll.Pure := by
  intro l _ _ hw
  refine EV.get (Tot.true ?_)
  unfold laws_FnFewHasAll.f
  by_cases hl : (l.length : Int) > 1048576
  · simp only [if_pos hl]
    exact Tot.pure _ rfl
  simp only [if_neg hl]
  refine Tot.bind (drawHas_tot l hw) ?_
  rintro ⟨f, t⟩ hf
  simp only at hf
  refine Tot.bind (Tot.of (spec_FewHas_ev f t (by omega)) rfl) ?_
  rintro _ rfl
  refine Tot.bind (Tot.of (impl_FewHas_ev f t (by omega)) rfl) ?_
  rintro _ rfl
  simp only [bne_self_eq_false, Bool.false_eq_true, if_false]
  refine Tot.bind (Tot.of (spec_FewOk_ev f (by omega)) rfl) ?_
  rintro _ rfl
  refine Tot.succ ?_
  by_cases c : fewB f = true
  · simp only [laws_FnFewHasAll.j0, c, Bool.not_true, Bool.false_eq_true, if_false]
    have hab : (fewHas f t).1 = true → (fewHas f t).2 = true := by
      unfold fewHas
      split
      · exact hasM_known f _
      · intro g
        cases g
    have h0 : cntAt f 0 = 0 := rfl
    have := all_loop f c (fewHas f t).1 (fewHas f t).2 hab 64 0 (by omega)
    rw [h0] at this
    exact Tot.of this rfl
  · simp only [laws_FnFewHasAll.j0, c, Bool.not_false, if_true, beq_self_eq_true]
    exact Tot.pure _ rfl

end Go.Proofs.Ytiaopahggjfggaa.Pure
