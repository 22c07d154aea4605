/- FnRankGap: what RankBelow tells is not far apart, for every code of at most 2^20 bytes. -/
import Derived.Test.YthijejpdghmmaaaRankD
import Derived.Test.YthijejpdghmmaaaRankG
import Derived.Test.YthijejpdghmmaaaPAx42
namespace Go.Proofs.Ythijejpdghmmaaa.Pure
open Go.RowKit Go.Proofs.Ythijejpdghmmaaa.PA Go.Proofs.YthijejpdghmmaaaW.PrintWords Go.Proofs.YthijejpdghmmaaaW.PrintLast Go.Proofs.Ythijejpdghmmaaa.Ev

theorem belowS_lo (t : Int) : ∀ (l : List S43) (p q : Int), Knots l → p ≤ (belowS l t p q).1 ∧ (belowS l t p q).1 ≤ p + 2000 * l.length ∧ q ≤ (belowS l t p q).2 ∧ (belowS l t p q).2 ≤ q + 2000 * l.length
  | [], p, q, _ => by simp [belowS]
  | x :: l, p, q, h => by
    have hx := h x (by simp)
    have ih := belowS_lo t l (if (spanOf x.f0).2 ≤ t then p + x.f1 else p) (if (spanOf x.f0).1 ≤ t then q + x.f1 else q) (fun y hy => h y (List.mem_cons_of_mem _ hy))
    unfold belowS
    simp only [List.length_cons]
    by_cases c1 : (spanOf x.f0).2 ≤ t <;> by_cases c2 : (spanOf x.f0).1 ≤ t <;> simp only [c1, c2, if_true, if_false] at ih ⊢ <;> omega
theorem FnRankGap : laws_FnRankGap.Pure := by
  intro l _ _ hw
  refine EV.get (Tot.true ?_)
  unfold laws_FnRankGap.f
  by_cases hl : (l.length : Int) > 1048576
  · simp only [if_pos hl]
    exact Tot.pure _ rfl
  simp only [if_neg hl]
  refine Tot.bind (drawRankBelow_tot l hw) ?_
  rintro ⟨L, a, t⟩ h0
  simp only at h0
  refine Tot.bind (Tot.of (spec_RankBelow_ev L a t (by omega)) rfl) ?_
  rintro _ rfl
  refine Tot.bind (Tot.of (impl_RankBelow_ev L a t (by omega)) rfl) ?_
  rintro _ rfl
  simp only [if_true]
  by_cases c : rankOk L a = true ∧ 0 ≤ t ∧ t ≤ 63
  · have e : belowR L a t = belowS L t 0 0 := by unfold belowR; rw [if_pos c]
    obtain ⟨a0, a1, ok⟩ := rankOk_range c.1
    have g := gap_all c.1 c.2.1 c.2.2
    have k := belowS_lo t L 0 0 (okFrom_knots L 0 0 a (by omega) ok)
    have e63 : belowR L a 63 = (a, a) := by unfold belowR; rw [if_pos ⟨c.1, by omega, by omega⟩]; exact belowS_all L 0 0 a (by omega) ok
    simp only [e, if_neg (show ¬ (belowS L t 0 0).1 < 0 by omega)]
    refine Tot.bind (Tot.of (impl_RankBelow_ev L a 63 (by omega)) rfl) ?_
    rintro _ rfl
    simp only [e63, tdiv8 a0, w64 (x := a / 8) (by omega) (by omega), w64 (x := 6 * (a / 8)) (by omega) (by omega), w64 (x := (belowS L t 0 0).2 - (belowS L t 0 0).1) (by omega) (by omega),
      if_pos (show (belowS L t 0 0).2 - (belowS L t 0 0).1 ≤ 6 * (a / 8) by omega), if_pos (show (belowS L t 0 0).2 ≥ (belowS L t 0 0).1 by omega), if_true]
    exact Tot.pure _ (by simp)
  · have e : belowR L a t = (-1, -1) := by unfold belowR; rw [if_neg c]
    simp only [e, if_pos (show (-1 : Int) < 0 by omega)]
    exact Tot.pure _ (by simp)

end Go.Proofs.Ythijejpdghmmaaa.Pure
