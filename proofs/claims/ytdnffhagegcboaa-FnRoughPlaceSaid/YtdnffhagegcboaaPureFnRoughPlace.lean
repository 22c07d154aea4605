/- FnRoughPlace: each thing has a place in each row, for every code of at most 2^20 bytes. -/
import Derived.Test.YtdnffhagegcboaaRoughQ
import Derived.Test.YtdnffhagegcboaaPAx11
namespace Go.Proofs.Ytdnffhagegcboaa.Pure
open Go.RowKit Go.Proofs.Ytdnffhagegcboaa.PA Go.Proofs.YtdnffhagegcboaaW.PrintWords Go.Proofs.YtdnffhagegcboaaW.PrintLast Go.Proofs.Ytdnffhagegcboaa.Ev

theorem FnRoughPlace : laws_FnRoughPlace.Pure := by
  intro l _ _ hw
  refine EV.get (Tot.true ?_)
  unfold laws_FnRoughPlace.f
  by_cases hl : (l.length : Int) > 1048576
  · simp only [if_pos hl]
    exact Tot.pure _ rfl
  simp only [if_neg hl]
  refine Tot.bind (drawPlace_tot l hw) ?_
  rintro ⟨i, t⟩ -
  simp only [impl_place, spec_place, Option.bind_some, if_true]
  have hb : placeR i t < 8 := by
    unfold placeR
    split
    · rename_i c
      exact (place_at c.1 c.2.1 c.2.2.1 c.2.2.2).2.2.2
    · omega
  simp only [if_pos hb]
  have hs : (placeR i t ≥ 0) ↔ (0 ≤ i ∧ i ≤ 2 ∧ 0 ≤ t ∧ t ≤ 63) := by
    unfold placeR
    by_cases c : 0 ≤ i ∧ i ≤ 2 ∧ 0 ≤ t ∧ t ≤ 63
    · rw [if_pos c]
      exact ⟨fun _ => c, fun _ => (place_at c.1 c.2.1 c.2.2.1 c.2.2.2).2.2.1⟩
    · rw [if_neg c]
      exact ⟨fun h => by omega, fun h => absurd h c⟩
  have no : ¬ (0 ≤ i ∧ i ≤ 2 ∧ 0 ≤ t ∧ t ≤ 63) → decide (placeR i t ≥ 0) = false := fun h => decide_eq_false (fun g => h (hs.1 g))
  by_cases c1 : i ≥ 0
  · simp only [if_pos c1]
    by_cases c2 : i < 3
    · simp only [if_pos c2]
      by_cases c3 : t ≥ 0
      · simp only [if_pos c3]
        refine Tot.pure _ ?_
        by_cases c4 : t < 64
        · rw [decide_eq_true (hs.2 ⟨by omega, by omega, by omega, by omega⟩), decide_eq_true c4]
          rfl
        · rw [no (by omega), decide_eq_false c4]
          rfl
      · simp only [if_neg c3]
        exact Tot.pure _ (by rw [no (by omega)]; rfl)
    · simp only [if_neg c2]
      exact Tot.pure _ (by rw [no (by omega)]; rfl)
  · simp only [if_neg c1]
    exact Tot.pure _ (by rw [no (by omega)]; rfl)

end Go.Proofs.Ytdnffhagegcboaa.Pure
