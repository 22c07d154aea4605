/- FnFewCount: few things are told just so, for every code of at most 2^20 bytes. -/
import Derived.Test.YtiaopahggjfggaaFewB
import Derived.Test.YtiaopahggjfggaaFewC
import Derived.Test.YtiaopahggjfggaaPAx44
namespace Go.Proofs.Ytiaopahggjfggaa.Pure
open Go.RowKit Go.Proofs.Ytiaopahggjfggaa.PA Go.Proofs.YtiaopahggjfggaaW.PrintWords Go.Proofs.YtiaopahggjfggaaW.PrintLast Go.Proofs.Ytiaopahggjfggaa.Ev

theorem drawCount_tot (l : List Int) (h : ∀ x ∈ l, (Lit.int .u8 x).wf = true) : Tot (fun k => spec_DrawFewCount.f k l) (fun r => r.length ≤ 7) := by
  obtain ⟨b, hb, e⟩ := open_ev l h
  simp only [spec_DrawFewCount.f, e, Option.bind_some]
  refine Tot.bind (l71Few_tot hb (by omega) (by omega)) ?_
  rintro ⟨f, q⟩ ⟨h0, _⟩
  exact Tot.pure _ h0
theorem FnFewCount : laws_FnFewCount.Pure := by
  intro l _ _ hw
  refine EV.get (Tot.true ?_)
  unfold laws_FnFewCount.f
  by_cases hl : (l.length : Int) > 1048576
  · simp only [if_pos hl]
    exact Tot.pure _ rfl
  simp only [if_neg hl]
  refine Tot.bind (drawCount_tot l hw) ?_
  intro f hf
  refine Tot.bind (Tot.of (spec_FewCount_ev f (by omega)) rfl) ?_
  rintro _ rfl
  refine Tot.bind (Tot.of (impl_FewCount_ev f (by omega)) rfl) ?_
  rintro _ rfl
  simp only [bne_self_eq_false, Bool.false_eq_true, if_false, if_true, beq_self_eq_true]
  refine Tot.bind (Tot.of (spec_FewOk_ev f (by omega)) rfl) ?_
  rintro _ rfl
  by_cases c : fewB f = true
  · simp only [if_pos c]
    by_cases d : (f.length : Int) < 6
    · have e : fewCount f = ((f.length : Int), true) := by unfold fewCount; rw [if_pos c, if_pos d]
      simp only [e, decide_eq_true d, beq_self_eq_true, if_true]
      exact Tot.pure _ rfl
    · obtain ⟨h6, g0, g1⟩ := few_last c d
      have e : fewCount f = (320 / (rd f 5 + 1), false) := by unfold fewCount; rw [if_pos c, if_neg d]
      have q0 : 5 ≤ 320 / (rd f 5 + 1) := by rw [Int.le_ediv_iff_mul_le (by omega)]; omega
      have q1 : 320 / (rd f 5 + 1) ≤ 64 := by
        have : 320 / (rd f 5 + 1) < 65 := by rw [Int.ediv_lt_iff_lt_mul (by omega)]; omega
        omega
      simp only [e, decide_eq_false d, beq_self_eq_true, if_true, Bool.false_eq_true, if_false, if_pos (show 320 / (rd f 5 + 1) ≥ 5 from q0)]
      exact Tot.pure _ (decide_eq_true q1)
  · simp only [if_neg c]
    exact Tot.pure _ rfl

end Go.Proofs.Ytiaopahggjfggaa.Pure
