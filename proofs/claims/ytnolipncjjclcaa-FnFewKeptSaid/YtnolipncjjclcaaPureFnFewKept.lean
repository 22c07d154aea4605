/- FnFewKept: what is kept was kept before or is the thing's mark; what is not kept any more is not less. For every code of at most 2^20 bytes. -/
import Derived.Test.YtnolipncjjclcaaFewK
import Derived.Test.YtnolipncjjclcaaFewDA
import Derived.Test.YtnolipncjjclcaaPAx37
import Derived.Test.YtnolipncjjclcaaPAx36
namespace Go.Proofs.Ytnolipncjjclcaa.Pure
open Go.RowKit Go.Proofs.Ytnolipncjjclcaa.PA Go.Proofs.YtnolipncjjclcaaW.PrintWords Go.Proofs.YtnolipncjjclcaaW.PrintLast Go.Proofs.Ytnolipncjjclcaa.Ev

theorem lkTimes_l0 (L : List Int) (t : Int) (hL : L.length < 1048576) : ∀ (suf pre : List Int) (n : Nat), pre ++ suf = L → n ≤ pre.length →
    EV (fun k => laws_lkTimes.l0 k L t (n : Int) (pre.length : Int)) ((n + suf.count t : Nat) : Int) := by
  intro suf
  induction suf with
  | nil =>
    intro pre n e hn
    obtain rfl : pre = L := by simpa using e
    refine EV.succ ?_
    simp only [laws_lkTimes.l0, if_neg (show ¬ (pre.length : Int) < (pre.length : Int) by omega)]
    exact (EV.pure _).cast (by simp)
  | cons x suf ih =>
    intro pre n e hn
    have hl : (L.length : Int) = pre.length + suf.length + 1 := by rw [← e]; exact len_mid _ _ _
    have hx : rd L (pre.length : Int) = x := by rw [← e]; exact rd_mid _ _ _ _ rfl
    have hst : wrap64 ((pre.length : Int) + 1) = ((pre ++ [x]).length : Int) := by rw [len_snoc]; exact w64 (by omega) (by omega)
    have hsn : wrap64 ((n : Int) + 1) = ((n + 1 : Nat) : Int) := by rw [w64 (by omega) (by omega)]; omega
    have hpl : (pre ++ [x]).length = pre.length + 1 := by simp
    refine EV.succ ?_
    simp only [laws_lkTimes.l0, hx, if_pos (show (pre.length : Int) < (L.length : Int) by omega), if_pos (show (0 : Int) ≤ (pre.length : Int) by omega), hst]
    by_cases c : x = t
    · simp only [if_pos c, hsn]
      refine (ih (pre ++ [x]) (n + 1) (by rw [← app_mid]; exact e) (by omega)).cast ?_
      rw [c, List.count_cons_self]
      omega
    · simp only [if_neg c]
      refine (ih (pre ++ [x]) n (by rw [← app_mid]; exact e) (by omega)).cast ?_
      rw [List.count_cons_of_ne c]
theorem lkTimes_ev (l : List Int) (t : Int) (h : l.length < 1048576) : EV (fun k => laws_lkTimes.f k l t) ((l.count t : Nat) : Int) := by
  unfold laws_lkTimes.f
  exact (lkTimes_l0 l t h l [] 0 rfl (by simp)).cast (by simp)
theorem rd_mem {l : List Int} {n : Nat} (h : n < l.length) : rd l (n : Int) ∈ l := by
  have : rd l (n : Int) = l[n] := by
    unfold rd
    rw [Int.toNat_natCast, List.getD_eq_getElem?_getD, List.getElem?_eq_getElem h]
    rfl
  rw [this]
  exact List.getElem_mem _
theorem kept_l1 (f x : List Int) (hf : f.length ≤ 6) (hx : x.length ≤ 6) (h : ∀ z ∈ f, ¬ z ∈ x → x.length = 6 ∧ ∀ w ∈ x, w < z) : ∀ (suf pre : List Int), pre ++ suf = f →
    Tot (fun k => laws_FnFewKept.l1 k (pre.length : Int) f x) (fun b => b = true) := by
  intro suf
  induction suf with
  | nil =>
    intro pre e
    obtain rfl : pre = f := by simpa using e
    refine Tot.succ ?_
    simp only [laws_FnFewKept.l1, if_neg (show ¬ (pre.length : Int) < (pre.length : Int) by omega)]
    exact Tot.pure _ rfl
  | cons y suf ih =>
    intro pre e
    have hl : (f.length : Int) = pre.length + suf.length + 1 := by rw [← e]; exact len_mid _ _ _
    have hy : rd f (pre.length : Int) = y := by rw [← e]; exact rd_mid _ _ _ _ rfl
    have hst : wrap64 ((pre.length : Int) + 1) = ((pre ++ [y]).length : Int) := by rw [len_snoc]; exact w64 (by omega) (by omega)
    have next := ih (pre ++ [y]) (by rw [← app_mid]; exact e)
    refine Tot.succ ?_
    simp only [laws_FnFewKept.l1, hy, if_pos (show (pre.length : Int) < (f.length : Int) by omega), if_pos (show (0 : Int) ≤ (pre.length : Int) by omega), hst]
    refine Tot.bind (Tot.of (lkTimes_ev x y (by omega)) rfl) ?_
    rintro _ rfl
    by_cases c : ((x.count y : Nat) : Int) = 0
    · have hn : ¬ y ∈ x := List.count_eq_zero.1 (by omega)
      obtain ⟨q1, q2⟩ := h y (by rw [← e]; simp) hn
      have e5 : wrap64 ((x.length : Int) - 1) = 5 := by rw [w64 (by omega) (by omega)]; omega
      have q3 := q2 _ (rd_mem (show 5 < x.length by omega))
      have q4 : ¬ y < rd x 5 := by
        have : rd x ((5 : Nat) : Int) = rd x 5 := rfl
        omega
      simp only [if_pos c, if_neg (show ¬ (x.length : Int) < 6 by omega), e5, if_pos (show (0 : Int) ≤ 5 by omega), if_pos (show (5 : Int) < (x.length : Int) by omega), if_neg q4]
      exact next
    · simp only [if_neg c]
      exact next
theorem kept_l0 (f x : List Int) (t : Int) (hf : f.length ≤ 6) (hx : x.length ≤ 6) (hm : ∀ z ∈ x, z ∈ f ∨ z = markR t) (h : ∀ z ∈ f, ¬ z ∈ x → x.length = 6 ∧ ∀ w ∈ x, w < z) : ∀ (suf pre : List Int), pre ++ suf = x →
    Tot (fun k => laws_FnFewKept.l0 k t (pre.length : Int) f x) (fun b => b = true) := by
  intro suf
  induction suf with
  | nil =>
    intro pre e
    obtain rfl : pre = x := by simpa using e
    refine Tot.succ ?_
    simp only [laws_FnFewKept.l0, if_neg (show ¬ (pre.length : Int) < (pre.length : Int) by omega)]
    exact kept_l1 f pre hf hx h f [] rfl
  | cons y suf ih =>
    intro pre e
    have hl : (x.length : Int) = pre.length + suf.length + 1 := by rw [← e]; exact len_mid _ _ _
    have hy : rd x (pre.length : Int) = y := by rw [← e]; exact rd_mid _ _ _ _ rfl
    have hst : wrap64 ((pre.length : Int) + 1) = ((pre ++ [y]).length : Int) := by rw [len_snoc]; exact w64 (by omega) (by omega)
    have next := ih (pre ++ [y]) (by rw [← app_mid]; exact e)
    refine Tot.succ ?_
    simp only [laws_FnFewKept.l0, hy, if_pos (show (pre.length : Int) < (x.length : Int) by omega), if_pos (show (0 : Int) ≤ (pre.length : Int) by omega), hst]
    refine Tot.bind (Tot.of (lkTimes_ev f y (by omega)) rfl) ?_
    rintro _ rfl
    by_cases c : ((f.count y : Nat) : Int) = 0
    · have hn : ¬ y ∈ f := List.count_eq_zero.1 (by omega)
      have hz : y = markR t := by
        rcases hm y (by rw [← e]; simp) with q | q
        · exact absurd q hn
        · exact q
      simp only [if_pos c, impl_mark, Option.bind_some, if_pos hz]
      exact next
    · simp only [if_neg c]
      exact next
theorem FnFewKept : laws_FnFewKept.Pure := by
  intro l _ _ hw
  refine EV.get (Tot.true ?_)
  unfold laws_FnFewKept.f
  by_cases hl : (l.length : Int) > 1048576
  · simp only [if_pos hl]
    exact Tot.pure _ rfl
  simp only [if_neg hl]
  refine Tot.bind (drawFewAdd_tot l hw) ?_
  rintro ⟨f, t⟩ hf
  simp only at hf
  refine Tot.bind (Tot.of (spec_FewAdd_ev f t (by omega)) rfl) ?_
  rintro _ rfl
  refine Tot.bind (Tot.of (impl_FewAdd_ev f t (by omega)) rfl) ?_
  rintro _ rfl
  have hj := fewAdd_len f t
  simp only [bne_self_eq_false, Bool.false_eq_true, if_false]
  refine Tot.bind (lkInts_tot rfl (by omega)) ?_
  rintro _ rfl
  simp only [if_true]
  refine Tot.succ ?_
  by_cases c : fewB f = true ∧ 0 ≤ t ∧ t ≤ 63
  · obtain ⟨c, d⟩ := c
    obtain ⟨h1, h2⟩ := fewB_iff.1 c
    have hm := one_asc t
    simp only [fewAdd_ok c d.1 d.2, laws_FnFewKept.j0, Bool.not_true, Bool.false_eq_true, if_false]
    refine kept_l0 f (kept f [markOf t]) t h1 (kept_len _ _) ?_ ?_ (kept f [markOf t]) [] rfl
    · intro z hz
      rw [markR_thing d]
      rcases (mem_mrg f [markOf t] z).1 (List.mem_of_mem_take hz) with q | q
      · exact .inl q
      · exact .inr (by simpa using q)
    · intro z hz hn
      exact kept_rest h2 hm ((mem_mrg f [markOf t] z).2 (.inl hz)) hn
  · simp only [fewAdd_not c, laws_FnFewKept.j0, Bool.not_false, if_true, beq_self_eq_true]
    refine Tot.bind (lkInts_tot rfl (by simp)) ?_
    rintro _ rfl
    exact Tot.pure _ rfl

end Go.Proofs.Ytnolipncjjclcaa.Pure
