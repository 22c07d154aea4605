/- What the program's and the reference's RankAt tell: the same. Conditions: lists shorter than 2^50. -/
import Derived.Test.YthijejpdghmmaaaRankA
import Derived.Test.YthijejpdghmmaaaPAx37
import Derived.Test.YthijejpdghmmaaaPAx38
namespace Go.Proofs.Ythijejpdghmmaaa.Ev
open Go.RowKit Go.Proofs.YthijejpdghmmaaaW.PrintWords Go.Proofs.YthijejpdghmmaaaW.PrintLast Go.Proofs.Ythijejpdghmmaaa.PA

/-! RankAt -/
def atFrom (l : List S43) (n : Int) : Nat → Int → Int × Bool
  | 0, _ => (63, true)
  | d + 1, i => if (belowS l i 0 0).1 ≥ n then (i, true) else atFrom l n d (i + 1)
def rankAt (l : List S43) (a n : Int) : Int × Bool := if rankOk l a = true ∧ 1 ≤ n ∧ n ≤ a then atFrom l n 63 0 else (0, false)
theorem spec_RankAt_ev (l : List S43) (a n : Int) (hL : l.length < 1125899906842624) : EV (fun k => spec_RankAt.f k l a n) (rankAt l a n) := by
  unfold spec_RankAt.f rankAt
  have stop : EV (fun k => spec_RankAt.j0 k n true l a) (0, false) := by
    refine EV.succ ?_
    simp only [spec_RankAt.j0, if_true]
    exact EV.pure _
  refine EV.bind (spec_RankOk_ev l a hL) ?_
  by_cases c : rankOk l a = true
  · simp only [c, if_true, in_eq, Option.bind_some]
    by_cases d : 1 ≤ n ∧ n ≤ a
    · simp only [decide_eq_true d, Bool.not_true]
      rw [if_pos ⟨trivial, d⟩]
      refine EV.succ ?_
      simp only [spec_RankAt.j0, Bool.false_eq_true, if_false]
      have key : ∀ (m : Nat) (i : Int), 0 ≤ i → i + m = 63 → EV (fun k => spec_RankAt.l0 k n i l a) (atFrom l n m i) := by
        intro m
        induction m with
        | zero =>
          intro i h0 h1
          refine EV.succ ?_
          simp only [spec_RankAt.l0, if_neg (show ¬ i < 63 by omega)]
          exact EV.pure _
        | succ m ih =>
          intro i h0 h1
          refine EV.succ ?_
          simp only [spec_RankAt.l0, if_pos (show i < 63 by omega)]
          have hb : EV (fun k => spec_RankBelow.f k l a i) (belowS l i 0 0) := (spec_RankBelow_ev l a i hL).cast (by unfold belowR; rw [if_pos ⟨c, by omega⟩])
          refine EV.bind hb ?_
          unfold atFrom
          by_cases e : (belowS l i 0 0).1 ≥ n
          · simp only [e, if_true]
            exact EV.pure _
          · simp only [e, if_false, w64 (x := i + 1) (by omega) (by omega)]
            exact ih (i + 1) (by omega) (by omega)
      exact key 63 0 (by omega) (by omega)
    · simp only [decide_eq_false d, Bool.not_false]
      rw [if_neg (fun h => d h.2)]
      exact stop
  · simp only [c]
    exact stop.cast (by rw [if_neg (fun h => by cases h.1)])
theorem impl_RankAt_ev (l : List S43) (a n : Int) (hL : l.length < 1125899906842624) : EV (fun k => impl_RankAt.f k l a n) (rankAt l a n) := by
  unfold impl_RankAt.f rankAt
  have stop : EV (fun k => impl_RankAt.j0 k n true l a) (0, false) := by
    refine EV.succ ?_
    simp only [impl_RankAt.j0, if_true]
    exact EV.pure _
  refine EV.bind (impl_RankOk_ev l a hL) ?_
  by_cases c : rankOk l a = true
  · simp only [c, if_true]
    by_cases d : 1 ≤ n ∧ n ≤ a
    · rw [if_pos ⟨trivial, d⟩]
      simp only [if_neg (show ¬ n < 1 by omega), decide_eq_false (show ¬ n > a by omega)]
      refine EV.succ ?_
      simp only [impl_RankAt.j0, Bool.false_eq_true, if_false]
      have hk := okFrom_knots l 0 0 a (by omega) (rankOk_range c).2.2
      have hall := belowS_all l 0 0 a (by omega) (rankOk_range c).2.2
      have key : ∀ (m : Nat) (i : Int), 0 ≤ i → i + m = 63 → EV (fun k => impl_RankAt.l0 k n i l a) (atFrom l n m i) := by
        intro m
        induction m with
        | zero =>
          intro i h0 h1
          have hi : i = 63 := by omega
          subst hi
          refine EV.succ ?_
          simp only [impl_RankAt.l0, if_pos (show (63 : Int) < 64 by omega)]
          refine EV.bind (impl_upTo_ev l a 63 hk hL) ?_
          simp only [hall, if_pos (show a ≥ n by omega)]
          exact EV.pure _
        | succ m ih =>
          intro i h0 h1
          refine EV.succ ?_
          simp only [impl_RankAt.l0, if_pos (show i < 64 by omega)]
          refine EV.bind (impl_upTo_ev l a i hk hL) ?_
          unfold atFrom
          by_cases e : (belowS l i 0 0).1 ≥ n
          · simp only [e, if_true]
            exact EV.pure _
          · simp only [e, if_false, w64 (x := i + 1) (by omega) (by omega)]
            exact ih (i + 1) (by omega) (by omega)
      exact key 63 0 (by omega) (by omega)
    · rw [if_neg (fun h => d h.2)]
      by_cases d1 : n < 1
      · simp only [if_pos d1]
        exact stop
      · simp only [if_neg d1, decide_eq_true (show n > a by omega)]
        exact stop
  · simp only [c]
    exact stop.cast (by rw [if_neg (fun h => by cases h.1)])

end Go.Proofs.Ythijejpdghmmaaa.Ev
