/- FnFewAddSwap: adding two things, either first, tells the same. For all codes of at most 2^20 bytes. -/
import Derived.Test.YtnolipncjjclcaaFewK
import Derived.Test.YtnolipncjjclcaaFewDA
import Derived.Test.YtnolipncjjclcaaPAx24
namespace Go.Proofs.Ytnolipncjjclcaa.Pure
open Go.RowKit Go.Proofs.Ytnolipncjjclcaa.PA Go.Proofs.YtnolipncjjclcaaW.PrintWords Go.Proofs.YtnolipncjjclcaaW.PrintLast Go.Proofs.Ytnolipncjjclcaa.Ev

theorem FnFewAddSwap : laws_FnFewAddSwap.Pure := by
  intro l l' _ _ hw _ _ hw'
  refine EV.get (Tot.true ?_)
  have stop : Tot (fun k => laws_FnFewAddSwap.j0 k l l' true) (fun b => b = true) := by
    refine Tot.succ ?_
    simp only [laws_FnFewAddSwap.j0, if_true]
    exact Tot.pure _ rfl
  unfold laws_FnFewAddSwap.f
  by_cases hl : (l.length : Int) > 1048576
  · simp only [if_pos hl]
    exact stop
  simp only [if_neg hl]
  by_cases hl' : (l'.length : Int) > 1048576
  · simp only [decide_eq_true hl']
    exact stop
  simp only [decide_eq_false hl']
  refine Tot.succ ?_
  simp only [laws_FnFewAddSwap.j0, Bool.false_eq_true, if_false]
  refine Tot.bind (drawFewAdd_tot l hw) ?_
  rintro ⟨f, t⟩ hf
  simp only at hf
  refine Tot.bind (drawFewAdd_tot l' hw') ?_
  rintro ⟨g, u⟩ hg
  simp only at hg
  refine Tot.bind (Tot.of (spec_FewAdd_ev f t (by omega)) rfl) ?_
  rintro _ rfl
  refine Tot.bind (Tot.of (impl_FewAdd_ev f t (by omega)) rfl) ?_
  rintro _ rfl
  have hj := fewAdd_len f t
  simp only [bne_self_eq_false, Bool.false_eq_true, if_false]
  refine Tot.bind (lkInts_tot rfl (by omega)) ?_
  rintro _ rfl
  simp only [if_true]
  refine Tot.succ ?_
  by_cases c : fewB f = true ∧ 0 ≤ t ∧ t ≤ 63
  · obtain ⟨c, d0, d1⟩ := c
    obtain ⟨h1, h2⟩ := fewB_iff.1 c
    have hm := one_asc t
    have hu := one_asc u
    have hx := kept_few c (one_few t)
    have hlen := kept_len f [markOf t]
    simp only [fewAdd_ok c d0 d1, laws_FnFewAddSwap.j1, Bool.not_true, Bool.false_eq_true, if_false]
    refine Tot.bind (Tot.of (impl_FewAdd_ev (kept f [markOf t]) u (by omega)) rfl) ?_
    rintro _ rfl
    refine Tot.bind (Tot.of (impl_FewAdd_ev f u (by omega)) rfl) ?_
    rintro _ rfl
    by_cases e : 0 ≤ u ∧ u ≤ 63
    · have hy := kept_few c (one_few u)
      have hly := kept_len f [markOf u]
      rw [fewAdd_ok hx e.1 e.2, fewAdd_ok c e.1 e.2]
      refine Tot.bind (Tot.of ((impl_FewAdd_ev (kept f [markOf u]) t (by omega)).cast (fewAdd_ok hy d0 d1)) rfl) ?_
      rintro _ rfl
      simp only [if_true, beq_self_eq_true]
      have hl3 := kept_len (kept f [markOf t]) [markOf u]
      refine Tot.bind (lkInts_tot (by rw [kept_assoc h2 hm hu, kept_assoc h2 hu hm, kept_comm [markOf t]]) (by omega)) ?_
      rintro _ rfl
      exact Tot.pure _ rfl
    · rw [fewAdd_not (fun q => e q.2), fewAdd_not (fun q => e q.2)]
      refine Tot.bind (Tot.of ((impl_FewAdd_ev [] t (by simp)).cast (fewAdd_ok nil_few d0 d1)) rfl) ?_
      rintro _ rfl
      simp only [Bool.false_eq_true, if_false, beq_self_eq_true, if_true]
      exact Tot.pure _ rfl
  · simp only [fewAdd_not c, laws_FnFewAddSwap.j1, Bool.not_false, if_true, beq_self_eq_true]
    refine Tot.bind (lkInts_tot rfl (by simp)) ?_
    rintro _ rfl
    exact Tot.pure _ rfl

end Go.Proofs.Ytnolipncjjclcaa.Pure
