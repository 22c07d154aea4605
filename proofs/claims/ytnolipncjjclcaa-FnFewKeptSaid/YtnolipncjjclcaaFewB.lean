/- The reference's l2Put and FewAdd; the draws of marks. Conditions: lists shorter than 2^40. -/
import Derived.Test.YtnolipncjjclcaaFewA
import Derived.Test.YtnolipncjjclcaaThing
import Derived.Test.YtnolipncjjclcaaPAx4
import Derived.Test.YtnolipncjjclcaaPAx6
import Derived.Test.YtnolipncjjclcaaPAx8
namespace Go.Proofs.Ytnolipncjjclcaa.Ev
open Go.RowKit Go.Proofs.YtnolipncjjclcaaW.PrintWords Go.Proofs.YtnolipncjjclcaaW.PrintLast Go.Proofs.Ytnolipncjjclcaa.PA

theorem mn_eq (a b : Int) : mn a b = min a b := by
  unfold mn
  omega
def drop1 (m : Int) (l : List Int) : List Int := l.filter (fun x => decide (x ≠ m))
def putL (m : Int) : List Int → List Int
  | [] => [m]
  | x :: l => if x ≥ m then m :: drop1 m (x :: l) else x :: putL m l
theorem putL_len (m : Int) : ∀ l : List Int, (putL m l).length ≤ l.length + 1
  | [] => by simp [putL]
  | x :: l => by
    unfold putL
    split
    · have := List.length_filter_le (fun y => decide (y ≠ m)) (x :: l)
      simp only [drop1, List.length_cons] at this ⊢
      omega
    · have := putL_len m l
      simp only [List.length_cons]
      omega
theorem take6 (l : List Int) : l.take (mn (l.length : Int) 6).toNat = l.take 6 := by
  rw [mn_eq]
  by_cases c : l.length ≤ 6
  · rw [show (min (l.length : Int) 6).toNat = l.length by omega, List.take_of_length_le (Nat.le_refl _), List.take_of_length_le c]
  · rw [show (min (l.length : Int) 6).toNat = 6 by omega]
theorem put_end (k : Nat) (L : List Int) (m : Int) (out : List Int) (hL : ¬ (L.length : Int) < (L.length : Int)) : spec_l2Put.l0 (k + 1) L m out true (L.length : Int) = some (out.take 6) := by
  have h0 : 0 ≤ mn (out.length : Int) 6 := by rw [mn_eq]; omega
  have h1 : mn (out.length : Int) 6 ≤ (out.length : Int) := by rw [mn_eq]; omega
  simp only [spec_l2Put.l0, if_neg hL, if_true, if_pos h0, if_pos h1, take6]
theorem put_done (L : List Int) (m : Int) (hL : L.length ≤ 1099511627776) : ∀ (suf pre out : List Int), pre ++ suf = L → out.length ≤ 1 + pre.length →
    EV (fun k => spec_l2Put.l0 k L m out true (pre.length : Int)) ((out ++ drop1 m suf).take 6) := by
  intro suf
  induction suf with
  | nil =>
    intro pre out e ho
    obtain rfl : pre = L := by simpa using e
    refine EV.succ ?_
    simp only [put_end _ pre m out (by omega)]
    exact (EV.pure _).cast (by simp [drop1])
  | cons x suf ih =>
    intro pre out e ho
    have hl : (L.length : Int) = pre.length + suf.length + 1 := by rw [← e]; exact len_mid _ _ _
    have hx : rd L (pre.length : Int) = x := by rw [← e]; exact rd_mid _ _ _ _ rfl
    have hst : wrap64 ((pre.length : Int) + 1) = ((pre ++ [x]).length : Int) := by rw [len_snoc]; exact w64 (by omega) (by omega)
    refine EV.succ ?_
    simp only [spec_l2Put.l0, if_pos (show (pre.length : Int) < (L.length : Int) by omega), if_true]
    refine EV.succ ?_
    simp only [spec_l2Put.j1, Bool.false_eq_true, if_false, if_pos (show (0 : Int) ≤ (pre.length : Int) by omega), if_pos (show (pre.length : Int) < (L.length : Int) by omega), hx, hst]
    by_cases c : x = m
    · simp only [if_pos c]
      exact (ih (pre ++ [x]) out (by rw [← app_mid]; exact e) (by simp; omega)).cast (by simp [drop1, c])
    · simp only [if_neg c, if_pos (show out.length < 17592186044416 by omega)]
      exact (ih (pre ++ [x]) (out ++ [x]) (by rw [← app_mid]; exact e) (by simp; omega)).cast (by simp [drop1, c])
theorem put_l0 (L : List Int) (m : Int) (hL : L.length ≤ 1099511627776) : ∀ (suf pre : List Int) (out : List Int), pre ++ suf = L → out.length ≤ pre.length →
    EV (fun k => spec_l2Put.l0 k L m out false (pre.length : Int)) ((out ++ putL m suf).take 6) := by
  intro suf
  induction suf with
  | nil =>
    intro pre out e ho
    obtain rfl : pre = L := by simpa using e
    have h0 : 0 ≤ mn ((out ++ [m]).length : Int) 6 := by rw [mn_eq]; omega
    have h1 : mn ((out ++ [m]).length : Int) 6 ≤ ((out ++ [m]).length : Int) := by rw [mn_eq]; omega
    refine EV.succ ?_
    simp only [spec_l2Put.l0, if_neg (show ¬ (pre.length : Int) < (pre.length : Int) by omega), Bool.false_eq_true, if_false, if_pos (show out.length < 17592186044416 by omega), Option.bind_some, if_pos h0, if_pos h1, take6]
    exact EV.pure _
  | cons x suf ih =>
    intro pre out e ho
    have hl : (L.length : Int) = pre.length + suf.length + 1 := by rw [← e]; exact len_mid _ _ _
    have hx : rd L (pre.length : Int) = x := by rw [← e]; exact rd_mid _ _ _ _ rfl
    have hst : wrap64 ((pre.length : Int) + 1) = ((pre ++ [x]).length : Int) := by rw [len_snoc]; exact w64 (by omega) (by omega)
    refine EV.succ ?_
    simp only [spec_l2Put.l0, if_pos (show (pre.length : Int) < (L.length : Int) by omega), Bool.false_eq_true, if_false, if_pos (show (0 : Int) ≤ (pre.length : Int) by omega), hx]
    refine EV.succ ?_
    by_cases g : x ≥ m
    · simp only [spec_l2Put.j1, decide_eq_true g, if_true, if_pos (show out.length < 17592186044416 by omega), Option.bind_some, if_pos (show (0 : Int) ≤ (pre.length : Int) by omega), if_pos (show (pre.length : Int) < (L.length : Int) by omega), hx, hst]
      by_cases c : x = m
      · simp only [if_pos c]
        exact (put_done L m hL suf (pre ++ [x]) (out ++ [m]) (by rw [← app_mid]; exact e) (by simp; omega)).cast (by simp [putL, drop1, c])
      · have hlen : (out ++ [m]).length < 17592186044416 := by simp; omega
        simp only [if_neg c, if_pos hlen]
        exact (put_done L m hL suf (pre ++ [x]) (out ++ [m] ++ [x]) (by rw [← app_mid]; exact e) (by simp; omega)).cast (by simp [putL, drop1, c, g])
    · simp only [spec_l2Put.j1, decide_eq_false g, Bool.false_eq_true, if_false, if_pos (show (0 : Int) ≤ (pre.length : Int) by omega), if_pos (show (pre.length : Int) < (L.length : Int) by omega), hx, if_neg (show ¬ x = m by omega), if_pos (show out.length < 17592186044416 by omega), hst]
      exact (ih (pre ++ [x]) (out ++ [x]) (by rw [← app_mid]; exact e) (by simp; omega)).cast (by simp [putL, g])
theorem put_ev (l : List Int) (m : Int) (h : l.length ≤ 1099511627776) : EV (fun k => spec_l2Put.f k l m) ((putL m l).take 6) :=
  put_l0 l m h l [] [] rfl (by simp)
def fewAdd (l : List Int) (t : Int) : List Int × Bool := if fewB l = true ∧ 0 ≤ t ∧ t ≤ 63 then ((putL (markOf t) l).take 6, true) else ([], false)
theorem spec_FewAdd_ev (l : List Int) (t : Int) (h : l.length ≤ 1099511627776) : EV (fun k => spec_FewAdd.f k l t) (fewAdd l t) := by
  unfold spec_FewAdd.f fewAdd
  have stop : EV (fun k => spec_FewAdd.j0 k t true l) ([], false) := by
    refine EV.succ ?_
    simp only [spec_FewAdd.j0, if_true]
    exact EV.pure _
  refine EV.bind (spec_FewOk_ev l (by omega)) ?_
  by_cases c : fewB l = true
  · simp only [if_pos c, in_eq, Option.bind_some]
    by_cases d : 0 ≤ t ∧ t ≤ 63
    · simp only [decide_eq_true d, Bool.not_true]
      rw [if_pos ⟨c, d⟩]
      refine EV.succ ?_
      simp only [spec_FewAdd.j0, Bool.false_eq_true, if_false, spec_mark, markR_thing d, Option.bind_some]
      refine EV.bind (put_ev l _ h) ?_
      exact EV.pure _
    · simp only [decide_eq_false d, Bool.not_false]
      rw [if_neg (fun g => d g.2)]
      exact stop
  · simp only [if_neg c]
    rw [if_neg (fun g => c g.1)]
    exact stop
theorem fewAdd_len (l : List Int) (t : Int) : (fewAdd l t).1.length ≤ 6 := by
  unfold fewAdd
  split
  · simp; omega
  · simp
theorem l71Few_l0 {b : List Int} (hb : Code b) : ∀ (m : Nat) (l : List Int) (p : Int), 0 ≤ p → p + 2 * m ≤ 800000000 → m ≤ 1000 → l.length ≤ 6 →
    Tot (fun k => spec_l71Few.l0 k (m : Int) b p l) (fun r => r.1.length ≤ 7 ∧ p ≤ r.2 ∧ r.2 ≤ p + m + 1) := by
  intro m
  induction m with
  | zero =>
    intro l p h0 h1 _ hl
    refine Tot.succ ?_
    simp only [spec_l71Few.l0, if_neg (show ¬ ((0 : Nat) : Int) > 0 by omega)]
    refine Tot.bind (pick_tot 24 hb h0 (by omega) (by omega)) ?_
    rintro ⟨v, q⟩ ⟨g0, g1, rfl⟩
    by_cases c0 : v = 0
    · simp only [if_pos c0, if_pos (show l.length < 17592186044416 by omega)]
      exact Tot.pure _ ⟨by simp; omega, by simp only; omega, by simp only; omega⟩
    simp only [if_neg c0]
    by_cases c1 : v = 1
    · simp only [if_pos c1, if_pos (show l.length < 17592186044416 by omega)]
      exact Tot.pure _ ⟨by simp; omega, by simp only; omega, by simp only; omega⟩
    simp only [if_neg c1]
    exact Tot.pure _ ⟨by simp only; omega, by simp only; omega, by simp only; omega⟩
  | succ m ih =>
    intro l p h0 h1 hm hl
    refine Tot.succ ?_
    simp only [spec_l71Few.l0, if_pos (show ((m + 1 : Nat) : Int) > 0 by omega)]
    refine Tot.bind (pick_tot 64 hb h0 (by omega) (by omega)) ?_
    rintro ⟨v, q⟩ ⟨g0, g1, rfl⟩
    refine Tot.bind (Tot.of (spec_FewAdd_ev l v (by omega)) rfl) ?_
    rintro _ rfl
    have e1 : wrap64 (((m + 1 : Nat) : Int) - 1) = (m : Int) := by rw [w64 (by omega) (by omega)]; omega
    simp only [e1]
    refine (ih _ (p + 1) (by omega) (by omega) (by omega) (fewAdd_len l v)).mono fun r hr => ⟨hr.1, by omega, by omega⟩
theorem l71Few_tot {b : List Int} {p : Int} (hb : Code b) (hp : 0 ≤ p) (hp1 : p ≤ 500000000) :
    Tot (fun k => spec_l71Few.f k b p) (fun r => r.1.length ≤ 7 ∧ p ≤ r.2 ∧ r.2 ≤ p + 100) := by
  unfold spec_l71Few.f
  refine Tot.bind (pick_tot 10 hb hp (by omega) (by omega)) ?_
  rintro ⟨v, q⟩ ⟨g0, g1, rfl⟩
  simp only at g0 g1
  obtain ⟨n, rfl⟩ := Int.eq_ofNat_of_zero_le g0
  exact (l71Few_l0 hb n [] (p + 1) (by omega) (by omega) (by omega) (by simp)).mono fun r hr => ⟨hr.1, by omega, by omega⟩

end Go.Proofs.Ytnolipncjjclcaa.Ev
