/- FnFewMark: each thing has a mark of its own, for all codes of at most 2^20 bytes. -/
import Derived.Test.YtiaopahggjfggaaFewA
import Derived.Test.YtiaopahggjfggaaThing
import Derived.Test.YtiaopahggjfggaaPAx10
namespace Go.Proofs.Ytiaopahggjfggaa.Pure
open Go.RowKit Go.Proofs.Ytiaopahggjfggaa.PA Go.Proofs.YtiaopahggjfggaaW.PrintWords Go.Proofs.YtiaopahggjfggaaW.PrintLast Go.Proofs.Ytiaopahggjfggaa.Ev

theorem drawMark_tot (l : List Int) (h : ∀ x ∈ l, (Lit.int .u8 x).wf = true) : Tot (fun k => spec_DrawFewMark.f k l) (fun _ => True) := by
  obtain ⟨b, hb, e⟩ := open_ev l h
  simp only [spec_DrawFewMark.f, e, Option.bind_some]
  refine Tot.bind (thing_tot hb (by omega) (by omega)) ?_
  intro _ _
  exact Tot.pure _ trivial
theorem FnFewMark : laws_FnFewMark.Pure := by
  intro l m _ _ hw _ _ hw'
  refine EV.get (Tot.true ?_)
  unfold laws_FnFewMark.f
  have stop : Tot (fun k => laws_FnFewMark.j0 k l m true) (fun b => b = true) := by
    refine Tot.succ ?_
    simp only [laws_FnFewMark.j0, if_true]
    exact Tot.pure _ rfl
  by_cases hl : (l.length : Int) > 1048576
  · simp only [if_pos hl]
    exact stop
  simp only [if_neg hl]
  by_cases hm : (m.length : Int) > 1048576
  · simp only [decide_eq_true hm]
    exact stop
  simp only [decide_eq_false hm]
  refine Tot.succ ?_
  simp only [laws_FnFewMark.j0, Bool.false_eq_true, if_false]
  refine Tot.bind (drawMark_tot l hw) ?_
  intro s _
  refine Tot.bind (drawMark_tot m hw') ?_
  intro t _
  simp only [impl_mark, spec_mark, Option.bind_some, if_true, beq_self_eq_true]
  by_cases cs : 0 ≤ s ∧ s ≤ 63
  · have bs := markOf_bd s
    simp only [markR_thing cs, if_neg (show ¬ markOf s < 0 by omega)]
    by_cases ct : 0 ≤ t ∧ t ≤ 63
    · have bt := markOf_bd t
      simp only [markR_thing ct, if_neg (show ¬ markOf t < 0 by omega)]
      have e : (markOf s == markOf t) = (s == t) := by
        by_cases g : s = t
        · subst g
          rw [beq_self_eq_true, beq_self_eq_true]
        · have : ¬ markOf s = markOf t := fun h => g (markOf_inj ct.1 ct.2 cs.1 cs.2 h)
          rw [beq_eq_false_iff_ne.2 this, beq_eq_false_iff_ne.2 g]
      simp only [e, beq_self_eq_true, if_true]
      exact Tot.pure _ (decide_eq_true (by omega))
    · have : markR t = -1 := by unfold markR; rw [if_neg ct]
      simp only [this, if_pos (show (-1 : Int) < 0 by omega)]
      exact Tot.pure _ rfl
  · have : markR s = -1 := by unfold markR; rw [if_neg cs]
    simp only [this, if_pos (show (-1 : Int) < 0 by omega)]
    exact Tot.pure _ rfl

end Go.Proofs.Ytiaopahggjfggaa.Pure
