/- FnFewAdd: adding a thing's mark tells what the reference tells; once more the same. For every code of at most 2^20 bytes. -/
import Derived.Test.YtnolipncjjclcaaFewK
import Derived.Test.YtnolipncjjclcaaFewDA
import Derived.Test.YtnolipncjjclcaaPAx23
namespace Go.Proofs.Ytnolipncjjclcaa.Pure
open Go.RowKit Go.Proofs.Ytnolipncjjclcaa.PA Go.Proofs.YtnolipncjjclcaaW.PrintWords Go.Proofs.YtnolipncjjclcaaW.PrintLast Go.Proofs.Ytnolipncjjclcaa.Ev

theorem FnFewAdd : laws_FnFewAdd.Pure := by
  intro l _ _ hw
  refine EV.get (Tot.true ?_)
  unfold laws_FnFewAdd.f
  by_cases hl : (l.length : Int) > 1048576
  · simp only [if_pos hl]
    exact Tot.pure _ rfl
  simp only [if_neg hl]
  refine Tot.bind (drawFewAdd_tot l hw) ?_
  rintro ⟨f, t⟩ hf
  simp only at hf
  refine Tot.bind (Tot.of (spec_FewAdd_ev f t (by omega)) rfl) ?_
  rintro _ rfl
  refine Tot.bind (Tot.of (impl_FewAdd_ev f t (by omega)) rfl) ?_
  rintro _ rfl
  have hj := fewAdd_len f t
  simp only [bne_self_eq_false, Bool.false_eq_true, if_false]
  refine Tot.bind (lkInts_tot rfl (by omega)) ?_
  rintro _ rfl
  simp only [if_true]
  refine Tot.succ ?_
  by_cases c : fewB f = true ∧ 0 ≤ t ∧ t ≤ 63
  · obtain ⟨c, d0, d1⟩ := c
    obtain ⟨h1, h2⟩ := fewB_iff.1 c
    have hm := one_asc t
    have hx := kept_few c (one_few t)
    have hlen := kept_len f [markOf t]
    have hle := mrg_len f [markOf t]
    have hk : (kept f [markOf t]).length = min 6 (mrg f [markOf t]).length := List.length_take
    simp only [List.length_cons, List.length_nil] at hle
    simp only [fewAdd_ok c d0 d1, laws_FnFewAdd.j0, Bool.not_true, Bool.false_eq_true, if_false]
    refine Tot.bind (Tot.of ((impl_FewAdd_ev (kept f [markOf t]) t (by omega)).cast (fewAdd_ok hx d0 d1)) rfl) ?_
    rintro _ rfl
    refine Tot.bind (Tot.of ((impl_FewOk_ev (kept f [markOf t]) (by omega)).cast hx) rfl) ?_
    rintro _ rfl
    simp only [if_true]
    refine Tot.bind (lkInts_tot (kept_again h2 hm) (by rw [kept_again h2 hm]; omega)) ?_
    rintro _ rfl
    simp only [if_true]
    rw [w64 (x := (f.length : Int) + 1) (by omega) (by omega)]
    simp only [if_pos (show ((kept f [markOf t]).length : Int) ≥ (f.length : Int) by omega)]
    exact Tot.pure _ (decide_eq_true (by omega))
  · simp only [fewAdd_not c, laws_FnFewAdd.j0, Bool.not_false, if_true, beq_self_eq_true]
    refine Tot.bind (lkInts_tot rfl (by simp)) ?_
    rintro _ rfl
    exact Tot.pure _ rfl

end Go.Proofs.Ytnolipncjjclcaa.Pure
