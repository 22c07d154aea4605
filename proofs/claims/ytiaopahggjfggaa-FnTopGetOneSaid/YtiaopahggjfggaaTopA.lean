/- What the program's and the reference's TopOk tell: plain functions over lists, the same for both. Conditions: lists shorter than 2^50. -/
import Derived.Test.YtiaopahggjfggaaPick
import Derived.Test.YtiaopahggjfggaaPAx35
import Derived.Test.YtiaopahggjfggaaPAx31
import Derived.Test.YtiaopahggjfggaaPAx30
namespace Go.Proofs.Ytiaopahggjfggaa.Ev
open Go.RowKit Go.Proofs.YtiaopahggjfggaaW.PrintWords Go.Proofs.YtiaopahggjfggaaW.PrintLast Go.Proofs.Ytiaopahggjfggaa.PA

theorem rdS_mid (pre suf : List S61) (x : S61) (i : Int) (h : i = (pre.length : Int)) : rd_T61 (pre ++ x :: suf) i = x := by
  subst h
  unfold rd_T61
  rw [Int.toNat_natCast]
  exact getD_mid _ _ _ _
def ordB : Int → List S61 → Bool
  | _, [] => true
  | b, x :: l => decide (b < x.f0 ∧ x.f0 ≤ 63 ∧ 1 ≤ x.f1 ∧ x.f1 ≤ 2000) && ordB x.f0 l
def sumN : List S61 → Int
  | [] => 0
  | x :: l => x.f1 + sumN l
theorem ord_cons {b : Int} {x : S61} {l : List S61} : ordB b (x :: l) = true ↔ (b < x.f0 ∧ x.f0 ≤ 63 ∧ 1 ≤ x.f1 ∧ x.f1 ≤ 2000) ∧ ordB x.f0 l = true := by
  show (decide _ && ordB x.f0 l) = true ↔ _
  simp
theorem sumN_bd : ∀ (l : List S61) (b : Int), ordB b l = true → 0 ≤ sumN l ∧ sumN l ≤ 2000 * (l.length : Int)
  | [], _, _ => by simp [sumN]
  | x :: l, b, h => by
    obtain ⟨h1, h2⟩ := ord_cons.1 h
    have := sumN_bd l x.f0 h2
    simp only [sumN, List.length_cons]
    omega
theorem sumN_app : ∀ (l m : List S61), sumN (l ++ m) = sumN l + sumN m
  | [], m => by simp [sumN]
  | x :: l, m => by
    simp only [List.cons_append, sumN, sumN_app l m]
    omega
theorem ord_pre : ∀ {pre suf : List S61} {b : Int}, ordB b (pre ++ suf) = true → ordB b pre = true
  | [], _, _, _ => rfl
  | x :: pre, suf, b, h => by
    obtain ⟨h1, h2⟩ := ord_cons.1 h
    exact ord_cons.2 ⟨h1, ord_pre h2⟩
def topB (l : List S61) (lost all : Int) : Bool := decide (l.length ≤ 4 ∧ 0 ≤ lost ∧ lost ≤ 2000 ∧ 0 ≤ all ∧ all ≤ 2000) && ordB (-1) l && decide (sumN l + 5 * lost ≤ all)
theorem topB_iff {l : List S61} {lost all : Int} : topB l lost all = true ↔ (l.length ≤ 4 ∧ 0 ≤ lost ∧ lost ≤ 2000 ∧ 0 ≤ all ∧ all ≤ 2000) ∧ ordB (-1) l = true ∧ sumN l + 5 * lost ≤ all := by
  unfold topB
  simp [and_assoc]
theorem topB_out {l : List S61} {lost all : Int} (h : ¬ (l.length ≤ 4 ∧ 0 ≤ lost ∧ lost ≤ 2000 ∧ 0 ≤ all ∧ all ≤ 2000)) : topB l lost all = false := by
  unfold topB
  rw [decide_eq_false h]
  rfl
theorem impl_TopOk_l0 (L : List S61) (lost all : Int) (h4 : L.length ≤ 4) : ∀ (suf pre : List S61) (b s : Int), pre ++ suf = L → 0 ≤ s → s ≤ 10000 + 2000 * pre.length →
    EV (fun k => impl_TopOk.l0 k s b L (L.length : Int) (pre.length : Int) L lost all) (ordB b suf && decide (s + sumN suf ≤ all)) := by
  intro suf
  induction suf with
  | nil =>
    intro pre b s e h0 h1
    obtain rfl : pre = L := by simpa using e
    refine EV.succ ?_
    simp only [impl_TopOk.l0, if_neg (show ¬ (pre.length : Int) < (pre.length : Int) by omega)]
    exact (EV.pure _).cast (by simp [ordB, sumN])
  | cons x suf ih =>
    intro pre b s e h0 h1
    have hl : (L.length : Int) = pre.length + suf.length + 1 := by rw [← e]; exact len_mid _ _ _
    have hx : rd_T61 L (pre.length : Int) = x := by rw [← e]; exact rdS_mid _ _ _ _ rfl
    refine EV.succ ?_
    simp only [impl_TopOk.l0, hx, if_pos (show (pre.length : Int) < (L.length : Int) by omega), if_pos (show (0 : Int) ≤ (pre.length : Int) by omega)]
    have no : ¬ (b < x.f0 ∧ x.f0 ≤ 63 ∧ 1 ≤ x.f1 ∧ x.f1 ≤ 2000) → false = (ordB b (x :: suf) && decide (s + sumN (x :: suf) ≤ all)) := by
      intro h
      unfold ordB
      rw [decide_eq_false h]
      rfl
    by_cases c1 : x.f0 ≤ b
    · simp only [if_pos c1]
      exact (EV.pure _).cast (no (by omega))
    simp only [if_neg c1]
    by_cases c2 : x.f0 ≥ 64
    · simp only [if_pos c2]
      exact (EV.pure _).cast (no (by omega))
    simp only [if_neg c2]
    by_cases c3 : x.f1 < 1
    · simp only [if_pos c3]
      exact (EV.pure _).cast (no (by omega))
    simp only [if_neg c3]
    by_cases c4 : x.f1 > 2000
    · simp only [if_pos c4]
      exact (EV.pure _).cast (no (by omega))
    simp only [if_neg c4]
    rw [w64 (x := s + x.f1) (by omega) (by omega), w64 (x := (pre.length : Int) + 1) (by omega) (by omega), ← len_snoc pre x]
    refine (ih (pre ++ [x]) x.f0 (s + x.f1) (by rw [← app_mid]; exact e) (by omega) (by rw [len_snoc]; omega)).cast ?_
    have yes : ordB b (x :: suf) = ordB x.f0 suf := by
      show (decide _ && ordB x.f0 suf) = _
      rw [decide_eq_true (show b < x.f0 ∧ x.f0 ≤ 63 ∧ 1 ≤ x.f1 ∧ x.f1 ≤ 2000 by omega)]
      rfl
    rw [yes, show sumN (x :: suf) = x.f1 + sumN suf from rfl, Int.add_assoc]
theorem impl_TopOk_ev (l : List S61) (lost all : Int) : EV (fun k => impl_TopOk.f k l lost all) (topB l lost all) := by
  unfold impl_TopOk.f
  have stop : ¬ (l.length ≤ 4 ∧ 0 ≤ lost ∧ lost ≤ 2000 ∧ 0 ≤ all ∧ all ≤ 2000) → EV (fun k => impl_TopOk.j0 k true l lost all) (topB l lost all) := by
    intro h
    refine EV.succ ?_
    simp only [impl_TopOk.j0, if_true]
    exact (EV.pure _).cast (topB_out h).symm
  by_cases c1 : (l.length : Int) > 4
  · simp only [if_pos c1]
    exact stop (by omega)
  simp only [if_neg c1]
  by_cases c2 : lost < 0
  · simp only [if_pos c2]
    exact stop (by omega)
  simp only [if_neg c2]
  by_cases c3 : lost > 2000
  · simp only [if_pos c3]
    exact stop (by omega)
  simp only [if_neg c3]
  by_cases c4 : all < 0
  · simp only [if_pos c4]
    exact stop (by omega)
  simp only [if_neg c4]
  by_cases c5 : all > 2000
  · simp only [decide_eq_true c5]
    exact stop (by omega)
  simp only [decide_eq_false c5]
  refine EV.succ ?_
  simp only [impl_TopOk.j0, Bool.false_eq_true, if_false]
  rw [w64 (x := lost * 5) (by omega) (by omega)]
  refine (impl_TopOk_l0 l lost all (by omega) l [] (-1) (lost * 5) rfl (by omega) (by simp; omega)).cast ?_
  unfold topB
  rw [decide_eq_true (show l.length ≤ 4 ∧ 0 ≤ lost ∧ lost ≤ 2000 ∧ 0 ≤ all ∧ all ≤ 2000 by omega), Bool.true_and, show lost * 5 + sumN l = sumN l + 5 * lost by omega]
theorem l3All_l0 (L : List S61) (hL : L.length ≤ 1000000) (h : ordB (-1) L = true) : ∀ (suf pre : List S61), pre ++ suf = L → EV (fun k => spec_l3All.l0 k L (sumN pre) (pre.length : Int)) (sumN L) := by
  intro suf
  induction suf with
  | nil =>
    intro pre e
    obtain rfl : pre = L := by simpa using e
    refine EV.succ ?_
    simp only [spec_l3All.l0, if_neg (show ¬ (pre.length : Int) < (pre.length : Int) by omega)]
    exact EV.pure _
  | cons x suf ih =>
    intro pre e
    have hl : (L.length : Int) = pre.length + suf.length + 1 := by rw [← e]; exact len_mid _ _ _
    have hx : rd_T61 L (pre.length : Int) = x := by rw [← e]; exact rdS_mid _ _ _ _ rfl
    have hb := sumN_bd (pre ++ [x]) (-1) (ord_pre (suf := suf) (by rw [← app_mid, e]; exact h))
    have hs : sumN (pre ++ [x]) = sumN pre + x.f1 := by rw [sumN_app]; simp [sumN]
    have hn : ((pre ++ [x]).length : Int) = pre.length + 1 := len_snoc _ _
    refine EV.succ ?_
    simp only [spec_l3All.l0, hx, if_pos (show (pre.length : Int) < (L.length : Int) by omega), if_pos (show (0 : Int) ≤ (pre.length : Int) by omega)]
    rw [w64 (x := sumN pre + x.f1) (by omega) (by omega), w64 (x := (pre.length : Int) + 1) (by omega) (by omega), ← len_snoc pre x, ← hs]
    exact ih (pre ++ [x]) (by rw [← app_mid]; exact e)
theorem l3All_ev (L : List S61) (hL : L.length ≤ 1000000) (h : ordB (-1) L = true) : EV (fun k => spec_l3All.f k L) (sumN L) := l3All_l0 L hL h L [] rfl
theorem spec_TopOk_l0 (L : List S61) (lost all : Int) (hL : L.length < 1125899906842624) : ∀ (suf pre : List S61) (b : Int), pre ++ suf = L → -1 ≤ b → (ordB b suf = true → ordB (-1) L = true) →
    ((pre = [] ∧ b = -1) ∨ ∃ p y, pre = p ++ [y] ∧ y.f0 = b ∧ 0 ≤ b) → EV (fun k => spec_TopOk.l0 k (pre.length : Int) L lost all) (ordB b suf && topB L lost all) := by
  intro suf
  induction suf with
  | nil =>
    intro pre b e hb ho hp
    obtain rfl : pre = L := by simpa using e
    have ho' := ho rfl
    refine EV.succ ?_
    simp only [spec_TopOk.l0, if_neg (show ¬ (pre.length : Int) < (pre.length : Int) by omega), in_eq, Option.bind_some]
    by_cases c : (pre.length : Int) ≤ 4
    · simp only [if_pos c]
      by_cases c2 : 0 ≤ all ∧ all ≤ 2000
      · simp only [decide_eq_true c2, if_true]
        by_cases c3 : 0 ≤ lost ∧ lost ≤ 2000
        · have hs := sumN_bd pre (-1) ho'
          simp only [decide_eq_true c3, if_true]
          refine EV.bind (l3All_ev pre (by omega) ho') ?_
          rw [w64 (x := 5 * lost) (by omega) (by omega), w64 (x := sumN pre + 5 * lost) (by omega) (by omega)]
          refine (EV.pure _).cast ?_
          unfold topB
          rw [decide_eq_true (show pre.length ≤ 4 ∧ 0 ≤ lost ∧ lost ≤ 2000 ∧ 0 ≤ all ∧ all ≤ 2000 by omega), ho']
          simp [ordB]
        · simp only [decide_eq_false c3, Bool.false_eq_true, if_false]
          exact (EV.pure _).cast (by rw [topB_out (by omega)]; simp)
      · simp only [decide_eq_false c2, Bool.false_eq_true, if_false]
        exact (EV.pure _).cast (by rw [topB_out (by omega)]; simp)
    · simp only [if_neg c]
      exact (EV.pure _).cast (by rw [topB_out (by omega)]; simp)
  | cons x suf ih =>
    intro pre b e hb ho hp
    have hl : (L.length : Int) = pre.length + suf.length + 1 := by rw [← e]; exact len_mid _ _ _
    have hx : rd_T61 L (pre.length : Int) = x := by rw [← e]; exact rdS_mid _ _ _ _ rfl
    have no : ¬ (b < x.f0 ∧ x.f0 ≤ 63 ∧ 1 ≤ x.f1 ∧ x.f1 ≤ 2000) → false = (ordB b (x :: suf) && topB L lost all) := by
      intro h
      unfold ordB
      rw [decide_eq_false h]
      rfl
    have go : b < x.f0 → 0 ≤ x.f0 → x.f0 ≤ 63 → 1 ≤ x.f1 → x.f1 ≤ 2000 → EV (fun k => spec_TopOk.l0 k (wrap64 ((pre.length : Int) + 1)) L lost all) (ordB b (x :: suf) && topB L lost all) := by
      intro d0 d1 d2 d3 d4
      have yes : ordB b (x :: suf) = ordB x.f0 suf := by
        show (decide _ && ordB x.f0 suf) = _
        rw [decide_eq_true (show b < x.f0 ∧ x.f0 ≤ 63 ∧ 1 ≤ x.f1 ∧ x.f1 ≤ 2000 by omega)]
        rfl
      rw [w64 (x := (pre.length : Int) + 1) (by omega) (by omega), ← len_snoc pre x, yes]
      exact ih (pre ++ [x]) x.f0 (by rw [← app_mid]; exact e) (by omega) (fun h => ho (by rw [yes]; exact h)) (.inr ⟨pre, x, rfl, rfl, d1⟩)
    refine EV.succ ?_
    simp only [spec_TopOk.l0, hx, if_pos (show (pre.length : Int) < (L.length : Int) by omega), if_pos (show (0 : Int) ≤ (pre.length : Int) by omega), in_eq, Option.bind_some]
    by_cases c1 : 0 ≤ x.f0 ∧ x.f0 ≤ 63
    · simp only [decide_eq_true c1, if_true]
      by_cases c2 : 1 ≤ x.f1 ∧ x.f1 ≤ 2000
      · simp only [decide_eq_true c2, if_true]
        rcases hp with ⟨rfl, rfl⟩ | ⟨p, y, rfl, rfl, hb0⟩
        · simp only [List.length_nil, Int.natCast_zero, if_neg (show ¬ (0 : Int) > 0 by omega)]
          simpa using go (by omega) c1.1 c1.2 c2.1 c2.2
        · have hp1 : ((p ++ [y]).length : Int) = p.length + 1 := len_snoc _ _
          have hw : wrap64 (((p ++ [y]).length : Int) - 1) = p.length := by rw [w64 (by omega) (by omega)]; omega
          have hy : rd_T61 L (p.length : Int) = y := by rw [← e, ← app_mid]; exact rdS_mid _ _ _ _ rfl
          simp only [if_pos (show ((p ++ [y]).length : Int) > 0 by omega), hw, if_pos (show (0 : Int) ≤ (p.length : Int) by omega), if_pos (show (p.length : Int) < (L.length : Int) by omega), hy]
          by_cases c3 : y.f0 ≥ x.f0
          · simp only [if_pos c3]
            exact (EV.pure false).cast (no (by omega))
          · simp only [if_neg c3]
            exact go (by omega) c1.1 c1.2 c2.1 c2.2
      · simp only [decide_eq_false c2, Bool.false_eq_true, if_false]
        exact (EV.pure false).cast (no (by omega))
    · simp only [decide_eq_false c1, Bool.false_eq_true, if_false]
      refine (EV.pure false).cast (no ?_)
      rcases hp with ⟨_, rfl⟩ | ⟨_, _, _, _, hb0⟩ <;> omega
theorem spec_TopOk_ev (l : List S61) (lost all : Int) (h : l.length < 1125899906842624) : EV (fun k => spec_TopOk.f k l lost all) (topB l lost all) := by
  unfold spec_TopOk.f
  refine (spec_TopOk_l0 l lost all h l [] (-1) rfl (by omega) id (.inl ⟨rfl, rfl⟩)).cast ?_
  cases ho : ordB (-1) l
  · unfold topB
    rw [ho]
    simp
  · rfl

end Go.Proofs.Ytiaopahggjfggaa.Ev
