/- Places: the program's and the reference's RoughPlace tell the same. No condition. -/
import Derived.Test.YtdnffhagegcboaaPick
import Derived.Test.YtdnffhagegcboaaPAx19
import Derived.Test.YtdnffhagegcboaaPAx12
import Derived.Test.YtdnffhagegcboaaPAx18
namespace Go.Proofs.Ytdnffhagegcboaa.Ev
open Go.RowKit Go.Proofs.YtdnffhagegcboaaW.PrintWords Go.Proofs.YtdnffhagegcboaaW.PrintLast Go.Proofs.Ytdnffhagegcboaa.PA

def placeOf (i t : Int) : Int := (spec_l1Place.f i t).getD 0
theorem place_dec : ∀ i : Fin 3, ∀ t : Fin 64, spec_l1Place.f (i.val : Int) (t.val : Int) = some (placeOf i.val t.val) ∧ impl_RoughPlace.f (i.val : Int) (t.val : Int) = some (placeOf i.val t.val) ∧ 0 ≤ placeOf i.val t.val ∧ placeOf i.val t.val < 8 := by
  decide +kernel
theorem place_at {i t : Int} (i0 : 0 ≤ i) (i1 : i ≤ 2) (t0 : 0 ≤ t) (t1 : t ≤ 63) : spec_l1Place.f i t = some (placeOf i t) ∧ impl_RoughPlace.f i t = some (placeOf i t) ∧ 0 ≤ placeOf i t ∧ placeOf i t < 8 := by
  obtain ⟨a, rfl⟩ := Int.eq_ofNat_of_zero_le i0
  obtain ⟨b, rfl⟩ := Int.eq_ofNat_of_zero_le t0
  exact place_dec ⟨a, by omega⟩ ⟨b, by omega⟩
def placeR (i t : Int) : Int := if 0 ≤ i ∧ i ≤ 2 ∧ 0 ≤ t ∧ t ≤ 63 then placeOf i t else -1
theorem impl_place (i t : Int) : impl_RoughPlace.f i t = some (placeR i t) := by
  unfold placeR
  by_cases c : 0 ≤ i ∧ i ≤ 2 ∧ 0 ≤ t ∧ t ≤ 63
  · rw [if_pos c]
    exact (place_at c.1 c.2.1 c.2.2.1 c.2.2.2).2.1
  · rw [if_neg c]
    unfold impl_RoughPlace.f
    have th : impl_isThing.f t = some (decide (0 ≤ t ∧ t ≤ 63)) := by
      unfold impl_isThing.f
      by_cases h : t ≥ 0
      · rw [if_pos h]
        by_cases g : t < 64
        · simp [show 0 ≤ t from h, g, show t ≤ 63 by omega]
        · simp [g, show ¬ t ≤ 63 by omega]
      · rw [if_neg h]
        simp [show ¬ 0 ≤ t by omega]
    rw [th]
    simp only [Option.bind_some]
    by_cases d : 0 ≤ t ∧ t ≤ 63
    · simp only [decide_eq_true d, if_true]
      rw [if_neg (by omega), if_neg (by omega), if_neg (by omega)]
    · simp only [decide_eq_false d, Bool.false_eq_true, if_false]

end Go.Proofs.Ytdnffhagegcboaa.Ev
