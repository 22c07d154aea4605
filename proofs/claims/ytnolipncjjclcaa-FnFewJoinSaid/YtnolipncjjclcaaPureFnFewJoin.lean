/- FnFewJoin: joining marks tells what the reference tells; each order, each again, the same. For every code of at most 2^20 bytes. -/
import Derived.Test.YtnolipncjjclcaaFewK
import Derived.Test.YtnolipncjjclcaaFewDJ
import Derived.Test.YtnolipncjjclcaaPAx16
namespace Go.Proofs.Ytnolipncjjclcaa.Pure
open Go.RowKit Go.Proofs.Ytnolipncjjclcaa.PA Go.Proofs.YtnolipncjjclcaaW.PrintWords Go.Proofs.YtnolipncjjclcaaW.PrintLast Go.Proofs.Ytnolipncjjclcaa.Ev

theorem FnFewJoin : laws_FnFewJoin.Pure := by
  intro l _ _ hw
  refine EV.get (Tot.true ?_)
  unfold laws_FnFewJoin.f
  by_cases hl : (l.length : Int) > 1048576
  · simp only [if_pos hl]
    exact Tot.pure _ rfl
  simp only [if_neg hl]
  refine Tot.bind (drawFewJoin_tot l hw) ?_
  rintro ⟨a, b⟩ ⟨ha, hb⟩
  simp only at ha hb
  refine Tot.bind (Tot.of (spec_FewJoin_ev a b (by omega) (by omega)) rfl) ?_
  rintro _ rfl
  refine Tot.bind (Tot.of (impl_FewJoin_ev a b (by omega) (by omega)) rfl) ?_
  rintro _ rfl
  have hj := joinF_len a b
  simp only [bne_self_eq_false, Bool.false_eq_true, if_false]
  refine Tot.bind (lkInts_tot rfl (by omega)) ?_
  rintro _ rfl
  simp only [if_true]
  refine Tot.succ ?_
  by_cases c : fewB a = true ∧ fewB b = true
  · obtain ⟨h1, h2⟩ := fewB_iff.1 c.1
    obtain ⟨h3, h4⟩ := fewB_iff.1 c.2
    have hx := kept_few c.1 c.2
    have hlen := kept_len a b
    simp only [joinF_ok c.1 c.2, laws_FnFewJoin.j0, Bool.not_true, Bool.false_eq_true, if_false]
    refine Tot.bind (Tot.of ((impl_FewJoin_ev b a (by omega) (by omega)).cast (joinF_ok c.2 c.1)) rfl) ?_
    rintro _ rfl
    refine Tot.bind (Tot.of ((impl_FewJoin_ev a a (by omega) (by omega)).cast (joinF_ok c.1 c.1)) rfl) ?_
    rintro _ rfl
    refine Tot.bind (Tot.of ((impl_FewJoin_ev (kept a b) b (by omega) (by omega)).cast (joinF_ok hx c.2)) rfl) ?_
    rintro _ rfl
    refine Tot.bind (Tot.of ((impl_FewOk_ev (kept a b) (by omega)).cast hx) rfl) ?_
    rintro _ rfl
    simp only [if_true]
    refine Tot.bind (lkInts_tot (kept_comm b a) (by rw [kept_comm]; omega)) ?_
    rintro _ rfl
    simp only [if_true]
    refine Tot.bind (lkInts_tot (kept_self c.1) (by rw [kept_self c.1]; omega)) ?_
    rintro _ rfl
    simp only [if_true]
    refine Tot.bind (lkInts_tot (kept_again h2 h4) (by rw [kept_again h2 h4]; omega)) ?_
    rintro _ rfl
    exact Tot.pure _ rfl
  · simp only [joinF_not c, laws_FnFewJoin.j0, Bool.not_false, if_true, beq_self_eq_true]
    refine Tot.bind (lkInts_tot rfl (by simp)) ?_
    rintro _ rfl
    exact Tot.pure _ rfl

end Go.Proofs.Ytnolipncjjclcaa.Pure
