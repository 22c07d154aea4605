/- FnFewJoinThree: joining three, either two first, tells the same. For all codes of at most 2^20 bytes. -/
import Derived.Test.YtnolipncjjclcaaFewK
import Derived.Test.YtnolipncjjclcaaFewDJ
import Derived.Test.YtnolipncjjclcaaPAx17
namespace Go.Proofs.Ytnolipncjjclcaa.Pure
open Go.RowKit Go.Proofs.Ytnolipncjjclcaa.PA Go.Proofs.YtnolipncjjclcaaW.PrintWords Go.Proofs.YtnolipncjjclcaaW.PrintLast Go.Proofs.Ytnolipncjjclcaa.Ev

theorem FnFewJoinThree : laws_FnFewJoinThree.Pure := by
  intro l l' _ _ hw _ _ hw'
  refine EV.get (Tot.true ?_)
  have stop : Tot (fun k => laws_FnFewJoinThree.j0 k l l' true) (fun b => b = true) := by
    refine Tot.succ ?_
    simp only [laws_FnFewJoinThree.j0, if_true]
    exact Tot.pure _ rfl
  unfold laws_FnFewJoinThree.f
  by_cases hl : (l.length : Int) > 1048576
  · simp only [if_pos hl]
    exact stop
  simp only [if_neg hl]
  by_cases hl' : (l'.length : Int) > 1048576
  · simp only [decide_eq_true hl']
    exact stop
  simp only [decide_eq_false hl']
  refine Tot.succ ?_
  simp only [laws_FnFewJoinThree.j0, Bool.false_eq_true, if_false]
  refine Tot.bind (drawFewJoin_tot l hw) ?_
  rintro ⟨a, b⟩ ⟨ha, hb⟩
  simp only at ha hb
  refine Tot.bind (drawFewJoin_tot l' hw') ?_
  rintro ⟨c, d⟩ ⟨hc, hd⟩
  simp only at hc hd
  refine Tot.bind (Tot.of (spec_FewJoin_ev a b (by omega) (by omega)) rfl) ?_
  rintro _ rfl
  refine Tot.bind (Tot.of (impl_FewJoin_ev a b (by omega) (by omega)) rfl) ?_
  rintro _ rfl
  have hj := joinF_len a b
  simp only [bne_self_eq_false, Bool.false_eq_true, if_false]
  refine Tot.bind (lkInts_tot rfl (by omega)) ?_
  rintro _ rfl
  simp only [if_true]
  refine Tot.succ ?_
  by_cases e : fewB a = true ∧ fewB b = true
  · obtain ⟨h1, h2⟩ := fewB_iff.1 e.1
    obtain ⟨h3, h4⟩ := fewB_iff.1 e.2
    have hx := kept_few e.1 e.2
    have hlen := kept_len a b
    simp only [joinF_ok e.1 e.2, laws_FnFewJoinThree.j1, Bool.not_true, Bool.false_eq_true, if_false]
    refine Tot.bind (Tot.of (impl_FewJoin_ev (kept a b) c (by omega) (by omega)) rfl) ?_
    rintro _ rfl
    refine Tot.bind (Tot.of (impl_FewJoin_ev b c (by omega) (by omega)) rfl) ?_
    rintro _ rfl
    by_cases g : fewB c = true
    · obtain ⟨h5, h6⟩ := fewB_iff.1 g
      have hz := kept_few e.2 g
      have hlz := kept_len b c
      rw [joinF_ok hx g, joinF_ok e.2 g]
      refine Tot.bind (Tot.of ((impl_FewJoin_ev a (kept b c) (by omega) (by omega)).cast (joinF_ok e.1 hz)) rfl) ?_
      rintro _ rfl
      simp only [if_true, beq_self_eq_true]
      have hl3 := kept_len a (kept b c)
      refine Tot.bind (lkInts_tot (kept_assoc h2 h4 h6).symm (by omega)) ?_
      rintro _ rfl
      exact Tot.pure _ rfl
    · rw [joinF_not (fun q => g q.2), joinF_not (fun q => g q.2)]
      refine Tot.bind (Tot.of ((impl_FewJoin_ev a [] (by omega) (by simp)).cast (joinF_ok e.1 nil_few)) rfl) ?_
      rintro _ rfl
      simp only [Bool.false_eq_true, if_false, beq_self_eq_true, if_true]
      exact Tot.pure _ rfl
  · simp only [joinF_not e, laws_FnFewJoinThree.j1, Bool.not_false, if_true, beq_self_eq_true]
    refine Tot.bind (lkInts_tot rfl (by simp)) ?_
    rintro _ rfl
    exact Tot.pure _ rfl

end Go.Proofs.Ytnolipncjjclcaa.Pure
