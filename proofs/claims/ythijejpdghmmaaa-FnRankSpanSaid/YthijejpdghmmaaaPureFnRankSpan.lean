/- FnRankSpan: a knot is of both halves, for every code of at most 2^20 bytes. -/
import Derived.Test.YthijejpdghmmaaaRankS
import Derived.Test.YthijejpdghmmaaaPAx10
namespace Go.Proofs.Ythijejpdghmmaaa.Pure
open Go.RowKit Go.Proofs.Ythijejpdghmmaaa.PA Go.Proofs.YthijejpdghmmaaaW.PrintWords Go.Proofs.YthijejpdghmmaaaW.PrintLast Go.Proofs.Ythijejpdghmmaaa.Ev

theorem FnRankSpan : laws_FnRankSpan.Pure := by
  intro l _ _ hw
  refine EV.get (Tot.true ?_)
  unfold laws_FnRankSpan.f
  by_cases hl : (l.length : Int) > 1048576
  · simp only [if_pos hl]
    exact Tot.pure _ rfl
  simp only [if_neg hl]
  refine Tot.bind (drawRankSpan_tot l hw) ?_
  rintro q ⟨h0, h1⟩
  refine Tot.bind (Tot.of (spec_RankSpan_ev q) rfl) ?_
  rintro _ rfl
  refine Tot.bind (Tot.of (impl_RankSpan_ev q) rfl) ?_
  rintro _ rfl
  simp only [if_true]
  have out : ¬ (1 ≤ q ∧ q ≤ 127) → Tot (fun k => laws_FnRankSpan.j0 k q (spanAt q).1 (spanAt q).2 (spanAt q).1 (spanAt q).2 true) (fun b => b = true) := by
    intro h
    refine Tot.succ ?_
    simp only [laws_FnRankSpan.j0, if_true]
    refine Tot.pure _ ?_
    unfold spanAt
    rw [if_neg h]
    rfl
  by_cases c1 : q < 1
  · simp only [if_pos c1]
    exact out (by omega)
  simp only [if_neg c1]
  by_cases c2 : q ≥ 128
  · simp only [decide_eq_true c2]
    exact out (by omega)
  simp only [decide_eq_false c2]
  have e0 : spanAt q = spanOf q := by unfold spanAt; rw [if_pos (by omega)]
  refine Tot.succ ?_
  simp only [laws_FnRankSpan.j0, Bool.false_eq_true, if_false, e0]
  by_cases c3 : q ≥ 64
  · have e1 := span_leaf (q := q) c3 (by omega)
    simp only [if_pos c3, e1, w64 (x := q - 64) (by omega) (by omega), if_true]
    exact Tot.pure _ (by simp)
  simp only [if_neg c3, w64 (x := 2 * q) (by omega) (by omega), w64 (x := 2 * q + 1) (by omega) (by omega)]
  have h := span_half (q := q) (by omega) (by omega)
  have r1 := span_range (q := 2 * q) (by omega) (by omega)
  have r2 := span_range (q := 2 * q + 1) (by omega) (by omega)
  have e1 : spanAt (2 * q) = spanOf (2 * q) := by unfold spanAt; rw [if_pos (by omega)]
  have e2 : spanAt (2 * q + 1) = spanOf (2 * q + 1) := by unfold spanAt; rw [if_pos (by omega)]
  refine Tot.bind (Tot.of (impl_RankSpan_ev (2 * q)) rfl) ?_
  rintro _ rfl
  refine Tot.bind (Tot.of (impl_RankSpan_ev (2 * q + 1)) rfl) ?_
  rintro _ rfl
  simp only [e1, e2, w64 (x := (spanOf (2 * q)).2 + 1) (by omega) (by omega), w64 (x := (spanOf (2 * q)).2 - (spanOf (2 * q)).1) (by omega) (by omega), w64 (x := (spanOf (2 * q + 1)).2 - (spanOf (2 * q + 1)).1) (by omega) (by omega),
    if_pos h.1, if_pos h.2.1, if_pos h.2.2.1]
  exact Tot.pure _ (by rw [h.2.2.2]; simp)

end Go.Proofs.Ythijejpdghmmaaa.Pure
