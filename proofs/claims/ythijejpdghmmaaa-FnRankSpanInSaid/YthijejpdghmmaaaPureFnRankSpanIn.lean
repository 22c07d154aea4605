/- FnRankSpanIn: a knot is of those things that are below it, for all codes of at most 2^20 bytes. -/
import Derived.Test.YthijejpdghmmaaaRankS
import Derived.Test.YthijejpdghmmaaaPAx11
namespace Go.Proofs.Ythijejpdghmmaaa.Pure
open Go.RowKit Go.Proofs.Ythijejpdghmmaaa.PA Go.Proofs.YthijejpdghmmaaaW.PrintWords Go.Proofs.YthijejpdghmmaaaW.PrintLast Go.Proofs.Ythijejpdghmmaaa.Ev

theorem up_ev (q lo hi t : Int) : ∀ (d : Nat) (x : Int), 0 ≤ x → x ≤ 1000 → ¬ upTo q d x > q →
    EV (fun k => laws_FnRankSpanIn.l0 k q lo hi t x) (decide (upTo q d x = q) == decide (lo ≤ t ∧ t ≤ hi)) := by
  intro d
  induction d with
  | zero =>
    intro x x0 x1 h
    refine EV.succ ?_
    unfold upTo at h ⊢
    simp only [laws_FnRankSpanIn.l0, if_neg h]
    by_cases c : lo ≤ t
    · simp only [if_pos c]
      exact (EV.pure _).cast (by by_cases e : x = q <;> by_cases f : t ≤ hi <;> simp [c, e, f])
    · simp only [if_neg c]
      exact (EV.pure _).cast (by by_cases e : x = q <;> simp [c, e])
  | succ d ih =>
    intro x x0 x1 h
    unfold upTo at h ⊢
    by_cases c : x > q
    · rw [if_pos c] at h ⊢
      refine EV.succ ?_
      simp only [laws_FnRankSpanIn.l0, if_pos c]
      rw [tdiv2 x0, w64 (by omega) (by omega)]
      exact ih (x / 2) (by omega) (by omega) h
    · rw [if_neg c] at h ⊢
      refine EV.succ ?_
      simp only [laws_FnRankSpanIn.l0, if_neg c]
      by_cases c' : lo ≤ t
      · simp only [if_pos c']
        exact (EV.pure _).cast (by by_cases e : x = q <;> by_cases f : t ≤ hi <;> simp [c', e, f])
      · simp only [if_neg c']
        exact (EV.pure _).cast (by by_cases e : x = q <;> simp [c', e])
theorem FnRankSpanIn : laws_FnRankSpanIn.Pure := by
  intro l m _ _ hw _ _ _
  refine EV.get (Tot.true ?_)
  unfold laws_FnRankSpanIn.f
  have stop : Tot (fun k => laws_FnRankSpanIn.j0 k l m true) (fun b => b = true) := by
    refine Tot.succ ?_
    simp only [laws_FnRankSpanIn.j0, if_true]
    exact Tot.pure _ rfl
  by_cases hl : (l.length : Int) > 1048576
  · simp only [if_pos hl]
    exact stop
  simp only [if_neg hl]
  by_cases hm : (m.length : Int) > 1048576
  · simp only [decide_eq_true hm]
    exact stop
  simp only [decide_eq_false hm]
  refine Tot.succ ?_
  simp only [laws_FnRankSpanIn.j0, Bool.false_eq_true, if_false]
  refine Tot.bind (drawRankSpan_tot l hw) ?_
  rintro q ⟨h0, h1⟩
  refine Tot.bind (Tot.of (spec_RankSpan_ev q) rfl) ?_
  rintro _ rfl
  refine Tot.bind (Tot.of (impl_RankSpan_ev q) rfl) ?_
  rintro _ rfl
  simp only [if_true]
  have out : Tot (fun k => laws_FnRankSpanIn.j1 k m q (spanAt q).1 (spanAt q).2 (spanAt q).1 (spanAt q).2 true) (fun b => b = true) := by
    refine Tot.succ ?_
    simp only [laws_FnRankSpanIn.j1, if_true]
    exact Tot.pure _ (by simp)
  by_cases c1 : q < 1
  · simp only [if_pos c1]
    exact out
  simp only [if_neg c1]
  by_cases c2 : q ≥ 128
  · simp only [decide_eq_true c2]
    exact out
  simp only [decide_eq_false c2]
  have e0 : spanAt q = spanOf q := by unfold spanAt; rw [if_pos (by omega)]
  refine Tot.succ ?_
  simp only [laws_FnRankSpanIn.j1, Bool.false_eq_true, if_false, e0]
  have t0 : 0 ≤ (m.length : Int) % 64 := by omega
  have t1 : (m.length : Int) % 64 ≤ 63 := by omega
  have r := span_range (q := q) (by omega) (by omega)
  have u := span_up (q := q) (by omega) (by omega) t0 t1
  exact Tot.of (up_ev q _ _ _ 7 _ (by omega) (by omega) u.2) (by rw [u.1]; simp)

end Go.Proofs.Ythijejpdghmmaaa.Pure
