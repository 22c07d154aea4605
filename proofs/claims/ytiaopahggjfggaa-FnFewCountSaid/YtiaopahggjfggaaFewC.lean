/- What the program's and the reference's FewCount tell: the same. Conditions: lists shorter than 2^50. -/
import Derived.Test.YtiaopahggjfggaaFewA
import Derived.Test.YtiaopahggjfggaaPAx21
import Derived.Test.YtiaopahggjfggaaPAx20
namespace Go.Proofs.Ytiaopahggjfggaa.Ev
open Go.RowKit Go.Proofs.YtiaopahggjfggaaW.PrintWords Go.Proofs.YtiaopahggjfggaaW.PrintLast Go.Proofs.Ytiaopahggjfggaa.PA

/-- The last of six that ascend is from 5 to 63. -/
theorem asc_last : ∀ (l : List Int) (b : Int) (n : Nat), asc b l = true → n < l.length → b + (n : Int) + 1 ≤ rd l (n : Int) ∧ rd l (n : Int) ≤ 63
  | [], _, n, _, h => by simp at h
  | x :: l, b, 0, g, _ => by
    obtain ⟨g1, g2⟩ := asc_cons.1 g
    have : rd (x :: l) ((0 : Nat) : Int) = x := rd_mid [] l x 0 rfl
    rw [this]
    omega
  | x :: l, b, n + 1, g, h => by
    obtain ⟨g1, g2⟩ := asc_cons.1 g
    have ih := asc_last l x n g2 (by simpa using h)
    have : rd (x :: l) ((n + 1 : Nat) : Int) = rd l (n : Int) := by
      unfold rd
      simp
    rw [this]
    omega
theorem few_last {l : List Int} (h : fewB l = true) (c : ¬ (l.length : Int) < 6) : l.length = 6 ∧ 5 ≤ rd l 5 ∧ rd l 5 ≤ 63 := by
  obtain ⟨h1, h2⟩ := fewB_iff.1 h
  have h6 : l.length = 6 := by omega
  have := asc_last l (-1) 5 h2 (by omega)
  exact ⟨h6, by have := this.1; simpa using this, this.2⟩
def fewCount (l : List Int) : Int × Bool := if fewB l = true then (if (l.length : Int) < 6 then ((l.length : Int), true) else (320 / (rd l 5 + 1), false)) else (0, false)
theorem impl_FewCount_ev (l : List Int) (h : l.length < 1125899906842624) : EV (fun k => impl_FewCount.f k l) (fewCount l) := by
  unfold impl_FewCount.f fewCount
  refine EV.bind (impl_FewOk_ev l h) ?_
  by_cases c : fewB l = true
  · simp only [if_pos c]
    by_cases d : (l.length : Int) < 6
    · simp only [if_pos d]
      exact EV.pure _
    · obtain ⟨h6, g0, g1⟩ := few_last c d
      simp only [if_neg d, if_pos (show 5 < (l.length : Int) by omega), w64 (x := rd l 5 + 1) (by omega) (by omega), if_neg (show ¬ rd l 5 + 1 = 0 by omega)]
      have h2 : 0 ≤ 320 / (rd l 5 + 1) := Int.ediv_nonneg (by omega) (by omega)
      have h3 : 320 / (rd l 5 + 1) ≤ 320 := Int.ediv_le_self _ (by omega)
      rw [w64 (x := 320 / (rd l 5 + 1)) (by omega) (by omega)]
      exact EV.pure _
  · simp only [if_neg c]
    exact EV.pure _
theorem spec_FewCount_ev (l : List Int) (h : l.length < 1125899906842624) : EV (fun k => spec_FewCount.f k l) (fewCount l) := by
  unfold spec_FewCount.f fewCount
  refine EV.bind (spec_FewOk_ev l h) ?_
  by_cases c : fewB l = true
  · simp only [if_pos c]
    by_cases d : (l.length : Int) < 6
    · simp only [if_pos d]
      exact EV.pure _
    · obtain ⟨h6, g0, g1⟩ := few_last c d
      have e5 : wrap64 ((l.length : Int) - 1) = 5 := by rw [w64 (by omega) (by omega)]; omega
      have e320 : wrap64 ((5 : Int) * 64) = 320 := by rw [w64 (by omega) (by omega)]; rfl
      simp only [if_neg d, e5, e320, if_pos (show (0 : Int) ≤ 5 by omega), if_pos (show 5 < (l.length : Int) by omega), w64 (x := rd l 5 + 1) (by omega) (by omega), if_neg (show ¬ rd l 5 + 1 = 0 by omega)]
      have h2 : 0 ≤ 320 / (rd l 5 + 1) := Int.ediv_nonneg (by omega) (by omega)
      have h3 : 320 / (rd l 5 + 1) ≤ 320 := Int.ediv_le_self _ (by omega)
      rw [Int.tdiv_eq_ediv_of_nonneg (by omega), w64 (x := 320 / (rd l 5 + 1)) (by omega) (by omega)]
      exact EV.pure _
  · simp only [if_neg c]
    exact EV.pure _

end Go.Proofs.Ytiaopahggjfggaa.Ev
