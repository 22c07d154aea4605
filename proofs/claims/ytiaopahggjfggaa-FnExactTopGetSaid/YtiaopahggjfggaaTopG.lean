/- What the program's and the reference's TopGet tell: the same. Conditions: lists shorter than 2^50. -/
import Derived.Test.YtiaopahggjfggaaTopA
import Derived.Test.YtiaopahggjfggaaPAx46
import Derived.Test.YtiaopahggjfggaaPAx45
import Derived.Test.YtiaopahggjfggaaPAx3
namespace Go.Proofs.Ytiaopahggjfggaa.Ev
open Go.RowKit Go.Proofs.YtiaopahggjfggaaW.PrintWords Go.Proofs.YtiaopahggjfggaaW.PrintLast Go.Proofs.Ytiaopahggjfggaa.PA

theorem thing_eqT (a : Int) : impl_isThing.f a = some (decide (0 ≤ a ∧ a ≤ 63)) := by
  unfold impl_isThing.f
  by_cases h : a ≥ 0
  · rw [if_pos h]
    by_cases g : a < 64
    · simp [show 0 ≤ a from h, g, show a ≤ 63 by omega]
    · simp [g, show ¬ a ≤ 63 by omega]
  · rw [if_neg h]
    simp [show ¬ 0 ≤ a by omega]
/-- How often a thing is kept. -/
def numOf (t : Int) : List S61 → Int
  | [] => 0
  | x :: l => if x.f0 = t then x.f1 else numOf t l
theorem numOf_bd (t : Int) : ∀ (l : List S61) (b : Int), ordB b l = true → 0 ≤ numOf t l ∧ numOf t l ≤ 2000
  | [], _, _ => by simp [numOf]
  | x :: l, b, h => by
    obtain ⟨h1, h2⟩ := ord_cons.1 h
    have := numOf_bd t l x.f0 h2
    unfold numOf
    split <;> omega
def topGet (l : List S61) (lost all t : Int) : Int × Int := if topB l lost all = true ∧ 0 ≤ t ∧ t ≤ 63 then (numOf t l, numOf t l + lost) else (-1, -1)
theorem impl_TopGet_l0 (L : List S61) (lost all t : Int) (hL : L.length ≤ 4) (ho : ordB (-1) L = true) (h0 : 0 ≤ lost) (h1 : lost ≤ 2000) : ∀ (suf pre : List S61) (b : Int), pre ++ suf = L → ordB b suf = true →
    EV (fun k => impl_TopGet.l0 k t L (L.length : Int) (pre.length : Int) L lost all) (numOf t suf, numOf t suf + lost) := by
  intro suf
  induction suf with
  | nil =>
    intro pre b e _
    obtain rfl : pre = L := by simpa using e
    refine EV.succ ?_
    simp only [impl_TopGet.l0, if_neg (show ¬ (pre.length : Int) < (pre.length : Int) by omega)]
    exact (EV.pure _).cast (by simp [numOf])
  | cons x suf ih =>
    intro pre b e hb
    obtain ⟨g1, g2⟩ := ord_cons.1 hb
    have hl : (L.length : Int) = pre.length + suf.length + 1 := by rw [← e]; exact len_mid _ _ _
    have hx : rd_T61 L (pre.length : Int) = x := by rw [← e]; exact rdS_mid _ _ _ _ rfl
    refine EV.succ ?_
    simp only [impl_TopGet.l0, hx, if_pos (show (pre.length : Int) < (L.length : Int) by omega), if_pos (show (0 : Int) ≤ (pre.length : Int) by omega)]
    by_cases c : x.f0 = t
    · simp only [if_pos c, w64 (x := x.f1 + lost) (by omega) (by omega)]
      exact (EV.pure _).cast (by simp [numOf, c])
    · simp only [if_neg c]
      rw [w64 (x := (pre.length : Int) + 1) (by omega) (by omega), ← len_snoc pre x]
      exact (ih (pre ++ [x]) x.f0 (by rw [← app_mid]; exact e) g2).cast (by simp [numOf, c])
theorem spec_TopGet_l0 (L : List S61) (lost all t : Int) (hL : L.length ≤ 4) (ho : ordB (-1) L = true) (h0 : 0 ≤ lost) (h1 : lost ≤ 2000) : ∀ (suf pre : List S61) (b : Int), pre ++ suf = L → ordB b suf = true →
    EV (fun k => spec_TopGet.l0 k t (pre.length : Int) L lost all) (numOf t suf, numOf t suf + lost) := by
  intro suf
  induction suf with
  | nil =>
    intro pre b e _
    obtain rfl : pre = L := by simpa using e
    refine EV.succ ?_
    simp only [spec_TopGet.l0, if_neg (show ¬ (pre.length : Int) < (pre.length : Int) by omega)]
    exact (EV.pure _).cast (by simp [numOf])
  | cons x suf ih =>
    intro pre b e hb
    obtain ⟨g1, g2⟩ := ord_cons.1 hb
    have hl : (L.length : Int) = pre.length + suf.length + 1 := by rw [← e]; exact len_mid _ _ _
    have hx : rd_T61 L (pre.length : Int) = x := by rw [← e]; exact rdS_mid _ _ _ _ rfl
    refine EV.succ ?_
    simp only [spec_TopGet.l0, hx, if_pos (show (pre.length : Int) < (L.length : Int) by omega), if_pos (show (0 : Int) ≤ (pre.length : Int) by omega)]
    by_cases c : x.f0 = t
    · simp only [if_pos c, w64 (x := x.f1 + lost) (by omega) (by omega)]
      exact (EV.pure _).cast (by simp [numOf, c])
    · simp only [if_neg c]
      rw [w64 (x := (pre.length : Int) + 1) (by omega) (by omega), ← len_snoc pre x]
      exact (ih (pre ++ [x]) x.f0 (by rw [← app_mid]; exact e) g2).cast (by simp [numOf, c])
theorem impl_TopGet_ev (l : List S61) (lost all t : Int) : EV (fun k => impl_TopGet.f k l lost all t) (topGet l lost all t) := by
  unfold impl_TopGet.f topGet
  have stop : EV (fun k => impl_TopGet.j0 k t true l lost all) (-1, -1) := by
    refine EV.succ ?_
    simp only [impl_TopGet.j0, if_true]
    exact EV.pure _
  refine EV.bind (impl_TopOk_ev l lost all) ?_
  by_cases c : topB l lost all = true
  · obtain ⟨c1, c2, c3⟩ := topB_iff.1 c
    simp only [if_pos c, thing_eqT, Option.bind_some]
    by_cases d : 0 ≤ t ∧ t ≤ 63
    · simp only [decide_eq_true d, Bool.not_true]
      rw [if_pos ⟨c, d⟩]
      refine EV.succ ?_
      simp only [impl_TopGet.j0, Bool.false_eq_true, if_false]
      exact impl_TopGet_l0 l lost all t c1.1 c2 c1.2.1 c1.2.2.1 l [] (-1) rfl c2
    · simp only [decide_eq_false d, Bool.not_false]
      rw [if_neg (fun g => d g.2)]
      exact stop
  · simp only [if_neg c]
    rw [if_neg (fun g => c g.1)]
    exact stop
theorem spec_TopGet_ev (l : List S61) (lost all t : Int) (h : l.length < 1125899906842624) : EV (fun k => spec_TopGet.f k l lost all t) (topGet l lost all t) := by
  unfold spec_TopGet.f topGet
  have stop : EV (fun k => spec_TopGet.j0 k t true l lost all) (-1, -1) := by
    refine EV.succ ?_
    simp only [spec_TopGet.j0, if_true]
    exact EV.pure _
  refine EV.bind (spec_TopOk_ev l lost all h) ?_
  by_cases c : topB l lost all = true
  · obtain ⟨c1, c2, c3⟩ := topB_iff.1 c
    simp only [if_pos c, in_eq, Option.bind_some]
    by_cases d : 0 ≤ t ∧ t ≤ 63
    · simp only [decide_eq_true d, Bool.not_true]
      rw [if_pos ⟨c, d⟩]
      refine EV.succ ?_
      simp only [spec_TopGet.j0, Bool.false_eq_true, if_false]
      exact spec_TopGet_l0 l lost all t c1.1 c2 c1.2.1 c1.2.2.1 l [] (-1) rfl c2
    · simp only [decide_eq_false d, Bool.not_false]
      rw [if_neg (fun g => d g.2)]
      exact stop
  · simp only [if_neg c]
    rw [if_neg (fun g => c g.1)]
    exact stop

end Go.Proofs.Ytiaopahggjfggaa.Ev
