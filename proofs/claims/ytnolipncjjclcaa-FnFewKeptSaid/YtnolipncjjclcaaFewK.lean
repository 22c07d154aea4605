/- What FewJoin and FewAdd of the program and the reference tell: the same. The draws of two. Conditions: lists shorter than 2^40. -/
import Derived.Test.YtnolipncjjclcaaFewJ
import Derived.Test.YtnolipncjjclcaaPAx10
import Derived.Test.YtnolipncjjclcaaPAx14
import Derived.Test.YtnolipncjjclcaaPAx22
import Derived.Test.YtnolipncjjclcaaPAx15
namespace Go.Proofs.Ytnolipncjjclcaa.Ev
open Go.RowKit Go.Proofs.YtnolipncjjclcaaW.PrintWords Go.Proofs.YtnolipncjjclcaaW.PrintLast Go.Proofs.Ytnolipncjjclcaa.PA

theorem spec_FewJoin_l0 (L : List Int) (hL : L.length ≤ 1048576) : ∀ (suf pre acc : List Int), pre ++ suf = L → acc.length ≤ 1099511627776 →
    EV (fun k => spec_FewJoin.l0 k acc (pre.length : Int) L) (suf.foldl (fun acc m => (putL m acc).take 6) acc, true) := by
  intro suf
  induction suf with
  | nil =>
    intro pre acc e ha
    obtain rfl : pre = L := by simpa using e
    refine EV.succ ?_
    simp only [spec_FewJoin.l0, if_neg (show ¬ (pre.length : Int) < (pre.length : Int) by omega)]
    exact EV.pure _
  | cons x suf ih =>
    intro pre acc e ha
    have hl : (L.length : Int) = pre.length + suf.length + 1 := by rw [← e]; exact len_mid _ _ _
    have hx : rd L (pre.length : Int) = x := by rw [← e]; exact rd_mid _ _ _ _ rfl
    have hst : wrap64 ((pre.length : Int) + 1) = ((pre ++ [x]).length : Int) := by rw [len_snoc]; exact w64 (by omega) (by omega)
    refine EV.succ ?_
    simp only [spec_FewJoin.l0, hx, if_pos (show (pre.length : Int) < (L.length : Int) by omega), if_pos (show (0 : Int) ≤ (pre.length : Int) by omega), hst]
    refine EV.bind (put_ev acc x ha) ?_
    exact ih (pre ++ [x]) _ (by rw [← app_mid]; exact e) (by rw [List.length_take]; omega)
theorem spec_FewJoin_ev (a b : List Int) (ha : a.length ≤ 1048576) (hb : b.length ≤ 1048576) : EV (fun k => spec_FewJoin.f k a b) (joinF a b) := by
  unfold spec_FewJoin.f joinF
  have stop : EV (fun k => spec_FewJoin.j0 k true a b) ([], false) := by
    refine EV.succ ?_
    simp only [spec_FewJoin.j0, if_true]
    exact EV.pure _
  refine EV.bind (spec_FewOk_ev a (by omega)) ?_
  by_cases c : fewB a = true
  · simp only [if_pos c]
    refine EV.bind (spec_FewOk_ev b (by omega)) ?_
    by_cases d : fewB b = true
    · rw [if_pos ⟨c, d⟩]
      simp only [d, Bool.not_true]
      refine EV.succ ?_
      simp only [spec_FewJoin.j0, Bool.false_eq_true, if_false, Option.bind_some, List.nil_append]
      simp only [if_pos (show ([] : List Int).length + a.length < 17592186044416 by simp; omega)]
      refine (spec_FewJoin_l0 b hb b [] a rfl (by omega)).cast ?_
      obtain ⟨h1, h2⟩ := fewB_iff.1 c
      obtain ⟨h3, h4⟩ := fewB_iff.1 d
      rw [fold_kept b a (-1) h2 h4 (by omega) h1]
    · rw [if_neg (fun g => d g.2)]
      simp only [d, Bool.not_false]
      exact stop
  · simp only [if_neg c]
    rw [if_neg (fun g => c g.1)]
    exact stop
theorem impl_FewJoin_ev (a b : List Int) (ha : a.length ≤ 1048576) (hb : b.length ≤ 1048576) : EV (fun k => impl_FewJoin.f k a b) (joinF a b) := by
  unfold impl_FewJoin.f joinF
  refine EV.bind (impl_FewOk_ev a (by omega)) ?_
  by_cases c : fewB a = true
  · simp only [if_pos c]
    refine EV.bind (impl_FewOk_ev b (by omega)) ?_
    by_cases d : fewB b = true
    · rw [if_pos (show fewB a = true ∧ fewB b = true from ⟨c, d⟩)]
      simp only [if_pos d, least_eq c d, Option.bind_some]
      exact EV.pure _
    · rw [if_neg (show ¬ (fewB a = true ∧ fewB b = true) from fun g => d g.2)]
      simp only [if_neg d]
      exact EV.pure _
  · simp only [if_neg c]
    rw [if_neg (show ¬ (fewB a = true ∧ fewB b = true) from fun g => c g.1)]
    exact EV.pure _
theorem impl_FewAdd_ev (l : List Int) (t : Int) (h : l.length ≤ 1048576) : EV (fun k => impl_FewAdd.f k l t) (fewAdd l t) := by
  rw [fewAdd_kept]
  unfold impl_FewAdd.f
  have stop : EV (fun k => impl_FewAdd.j0 k t true l) ([], false) := by
    refine EV.succ ?_
    simp only [impl_FewAdd.j0, if_true]
    exact EV.pure _
  refine EV.bind (impl_FewOk_ev l (by omega)) ?_
  by_cases c : fewB l = true
  · simp only [if_pos c, thing_eq, Option.bind_some]
    by_cases d : 0 ≤ t ∧ t ≤ 63
    · simp only [decide_eq_true d, Bool.not_true]
      rw [if_pos ⟨c, d⟩]
      refine EV.succ ?_
      simp only [impl_FewAdd.j0, Bool.false_eq_true, if_false, impl_mark, markR_thing d, Option.bind_some, least_eq c (one_few t)]
      exact EV.pure _
    · simp only [decide_eq_false d, Bool.not_false]
      rw [if_neg (fun g => d g.2)]
      exact stop
  · simp only [if_neg c]
    rw [if_neg (fun g => c g.1)]
    exact stop
theorem lkInts_l0 (L : List Int) (hL : L.length < 1125899906842624) : ∀ (suf pre : List Int), pre ++ suf = L → EV (fun k => laws_lkInts.l0 k L L (pre.length : Int)) true := by
  intro suf
  induction suf with
  | nil =>
    intro pre e
    obtain rfl : pre = L := by simpa using e
    refine EV.succ ?_
    simp only [laws_lkInts.l0, if_neg (show ¬ (pre.length : Int) < (pre.length : Int) by omega)]
    exact EV.pure _
  | cons x suf ih =>
    intro pre e
    have hl : (L.length : Int) = pre.length + suf.length + 1 := by rw [← e]; exact len_mid _ _ _
    refine EV.succ ?_
    simp only [laws_lkInts.l0, if_pos (show (pre.length : Int) < (L.length : Int) by omega), if_pos (show (0 : Int) ≤ (pre.length : Int) by omega), if_true]
    rw [w64 (x := (pre.length : Int) + 1) (by omega) (by omega), ← len_snoc pre x]
    exact ih (pre ++ [x]) (by rw [← app_mid]; exact e)
theorem lkInts_ev (l : List Int) (h : l.length < 1125899906842624) : EV (fun k => laws_lkInts.f k l l) true := by
  unfold laws_lkInts.f
  simp only [if_true]
  exact lkInts_l0 l h l [] rfl
theorem lkInts_tot {l m : List Int} (e : l = m) (h : l.length < 1125899906842624) : Tot (fun k => laws_lkInts.f k l m) (fun b => b = true) := by
  subst e
  exact Tot.of (lkInts_ev l h) rfl
theorem joinF_len (a b : List Int) : (joinF a b).1.length ≤ 6 := by
  unfold joinF
  split
  · exact kept_len a b
  · simp
theorem joinF_ok {a b : List Int} (ha : fewB a = true) (hb : fewB b = true) : joinF a b = (kept a b, true) := if_pos ⟨ha, hb⟩
theorem joinF_not {a b : List Int} (h : ¬ (fewB a = true ∧ fewB b = true)) : joinF a b = ([], false) := if_neg h
theorem fewAdd_ok {l : List Int} {t : Int} (hl : fewB l = true) (h0 : 0 ≤ t) (h1 : t ≤ 63) : fewAdd l t = (kept l [markOf t], true) := by
  rw [fewAdd_kept]
  exact if_pos ⟨hl, h0, h1⟩
theorem fewAdd_not {l : List Int} {t : Int} (h : ¬ (fewB l = true ∧ 0 ≤ t ∧ t ≤ 63)) : fewAdd l t = ([], false) := by
  rw [fewAdd_kept]
  exact if_neg h
theorem nil_few : fewB [] = true := rfl

end Go.Proofs.Ytnolipncjjclcaa.Ev
