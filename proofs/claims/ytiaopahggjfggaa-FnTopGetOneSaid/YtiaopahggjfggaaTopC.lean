/- The reference's TopAdd. Conditions: lists shorter than 2^50. -/
import Derived.Test.YtiaopahggjfggaaTopB
import Derived.Test.YtiaopahggjfggaaPAx56
namespace Go.Proofs.Ytiaopahggjfggaa.Ev
open Go.RowKit Go.Proofs.YtiaopahggjfggaaW.PrintWords Go.Proofs.YtiaopahggjfggaaW.PrintLast Go.Proofs.Ytiaopahggjfggaa.PA

def topCut (l : List S61) (lost all : Int) : List S61 × Int × Int := (lessN (overN l) l, lost + overN l, all)
def topAdd (l : List S61) (lost all t : Int) : List S61 × Int × Int × Bool :=
  if topB l lost all = true ∧ 0 ≤ t ∧ t ≤ 63 ∧ all < 2000 then ((topCut (putP ⟨t, 1⟩ l) lost (all + 1)).1, (topCut (putP ⟨t, 1⟩ l) lost (all + 1)).2.1, all + 1, true) else ([], 0, 0, false)
theorem spec_TopAdd_ev (l : List S61) (lost all t : Int) (h : l.length < 1125899906842624) : EV (fun k => spec_TopAdd.f k l lost all t) (topAdd l lost all t) := by
  unfold spec_TopAdd.f topAdd
  have stop : EV (fun k => spec_TopAdd.j0 k t true l lost all) ([], 0, 0, false) := by
    refine EV.succ ?_
    simp only [spec_TopAdd.j0, if_true]
    exact EV.pure _
  refine EV.bind (spec_TopOk_ev l lost all h) ?_
  by_cases c : topB l lost all = true
  · obtain ⟨c1, c2, c3⟩ := topB_iff.1 c
    simp only [if_pos c, in_eq, Option.bind_some]
    by_cases d : 0 ≤ t ∧ t ≤ 63
    · simp only [decide_eq_true d, if_true]
      by_cases e : all ≥ 2000
      · simp only [decide_eq_true e]
        rw [if_neg (by omega)]
        exact stop
      · simp only [decide_eq_false e]
        rw [if_pos ⟨c, d.1, d.2, by omega⟩]
        refine EV.succ ?_
        simp only [spec_TopAdd.j0, Bool.false_eq_true, if_false]
        refine EV.bind (l3Put_ev l ⟨t, 1⟩ (ord_Small (by omega) c2) (by simp)) ?_
        rw [w64 (x := all + 1) (by omega) (by omega)]
        refine EV.bind (l3Cut_ev _ lost (all + 1) (put_small (by omega) c2 (by simp)) (by omega) (by omega)) ?_
        exact EV.pure _
    · simp only [decide_eq_false d, Bool.false_eq_true, if_false]
      rw [if_neg (fun g => d ⟨g.2.1, g.2.2.1⟩)]
      exact stop
  · simp only [if_neg c]
    rw [if_neg (fun g => c g.1)]
    exact stop
theorem topAdd_len (l : List S61) (lost all t : Int) : (topAdd l lost all t).1.length ≤ 5 := by
  unfold topAdd
  split
  · rename_i h
    obtain ⟨c1, _⟩ := topB_iff.1 h.1
    have h1 := lessN_len (overN (putP (⟨t, 1⟩ : S61) l)) (putP ⟨t, 1⟩ l)
    have h2 := putP_len (⟨t, 1⟩ : S61) l
    simp only [topCut]
    omega
  · simp

end Go.Proofs.Ytiaopahggjfggaa.Ev
