/- What the program's and the reference's FewOk and FewMark tell: plain functions over lists, the same for both. Conditions: lists shorter than 2^50. -/
import Derived.Test.YtnolipncjjclcaaPick
import Derived.Test.YtnolipncjjclcaaPAx11
import Derived.Test.YtnolipncjjclcaaPAx3
import Derived.Test.YtnolipncjjclcaaPAx21
import Derived.Test.YtnolipncjjclcaaPAx5
import Derived.Test.YtnolipncjjclcaaPAx20
namespace Go.Proofs.Ytnolipncjjclcaa.Ev
open Go.RowKit Go.Proofs.YtnolipncjjclcaaW.PrintWords Go.Proofs.YtnolipncjjclcaaW.PrintLast Go.Proofs.Ytnolipncjjclcaa.PA

theorem thing_eq (a : Int) : impl_isThing.f a = some (decide (0 ≤ a ∧ a ≤ 63)) := by
  unfold impl_isThing.f
  by_cases h : a ≥ 0
  · rw [if_pos h]
    by_cases g : a < 64
    · simp [show 0 ≤ a from h, g, show a ≤ 63 by omega]
    · simp [g, show ¬ a ≤ 63 by omega]
  · rw [if_neg h]
    simp [show ¬ 0 ≤ a by omega]

/-! marks -/
def markOf (t : Int) : Int := (37 * t + 11) % 64
def markR (t : Int) : Int := if 0 ≤ t ∧ t ≤ 63 then markOf t else -1
theorem markOf_bd (t : Int) : 0 ≤ markOf t ∧ markOf t ≤ 63 := by unfold markOf; omega
theorem markOf_back {t : Int} (h0 : 0 ≤ t) (h1 : t ≤ 63) : ((markOf t - 11) * 45) % 64 = t := by unfold markOf; omega
theorem markOf_inj {s t : Int} (h0 : 0 ≤ t) (h1 : t ≤ 63) (g0 : 0 ≤ s) (g1 : s ≤ 63) (h : markOf s = markOf t) : s = t := by
  rw [← markOf_back h0 h1, ← markOf_back g0 g1, h]
theorem impl_mark (t : Int) : impl_FewMark.f t = some (markR t) := by
  unfold impl_FewMark.f markR
  simp only [thing_eq, Option.bind_some]
  by_cases c : 0 ≤ t ∧ t ≤ 63
  · simp only [decide_eq_true c, if_true, if_pos c]
    rw [w64 (x := 37 * t) (by omega) (by omega), w64 (x := 37 * t + 11) (by omega) (by omega), Int.tmod_eq_emod_of_nonneg (by omega)]
    rfl
  · simp only [decide_eq_false c, Bool.false_eq_true, if_false, if_neg c]
theorem spec_mark (t : Int) : spec_FewMark.f t = some (markR t) := by
  unfold spec_FewMark.f markR
  simp only [in_eq, Option.bind_some]
  by_cases c : 0 ≤ t ∧ t ≤ 63
  · simp only [decide_eq_true c, if_true, if_pos c]
    rw [Int.mul_comm t 37, w64 (x := 37 * t) (by omega) (by omega), w64 (x := 37 * t + 11) (by omega) (by omega), Int.tmod_eq_emod_of_nonneg (by omega)]
    rfl
  · simp only [decide_eq_false c, Bool.false_eq_true, if_false, if_neg c]
theorem markR_thing {t : Int} (h : 0 ≤ t ∧ t ≤ 63) : markR t = markOf t := by unfold markR; rw [if_pos h]

/-! FewOk -/
def asc : Int → List Int → Bool
  | _, [] => true
  | b, x :: l => decide (b < x ∧ x ≤ 63) && asc x l
def fewB (l : List Int) : Bool := decide (l.length ≤ 6) && asc (-1) l
theorem fewB_iff {l : List Int} : fewB l = true ↔ l.length ≤ 6 ∧ asc (-1) l = true := by unfold fewB; simp
theorem asc_cons {b x : Int} {l : List Int} : asc b (x :: l) = true ↔ (b < x ∧ x ≤ 63) ∧ asc x l = true := by
  show (decide (b < x ∧ x ≤ 63) && asc x l) = true ↔ _
  simp
theorem asc_mono {b c : Int} (h : b ≤ c) : ∀ {l : List Int}, asc c l = true → asc b l = true
  | [], _ => rfl
  | x :: l, g => by
    obtain ⟨g1, g2⟩ := asc_cons.1 g
    exact asc_cons.2 ⟨⟨by omega, g1.2⟩, g2⟩
theorem asc_mem : ∀ {l : List Int} {b : Int}, asc b l = true → ∀ x ∈ l, b < x ∧ x ≤ 63
  | [], _, _, x, hx => by cases hx
  | y :: l, b, g, x, hx => by
    obtain ⟨g1, g2⟩ := asc_cons.1 g
    rcases List.mem_cons.1 hx with rfl | hx
    · exact g1
    · have := asc_mem g2 x hx
      omega
theorem asc_drop : ∀ {l : List Int} {b : Int} (n : Nat), asc b l = true → asc b (l.drop n) = true
  | [], _, n, _ => by simp [asc]
  | x :: l, b, 0, g => g
  | x :: l, b, n + 1, g => by
    obtain ⟨g1, g2⟩ := asc_cons.1 g
    exact asc_mono (by omega) (asc_drop n g2)
theorem asc_take : ∀ {l : List Int} {b : Int} (n : Nat), asc b l = true → asc b (l.take n) = true
  | [], _, n, _ => by simp [asc]
  | x :: l, b, 0, g => rfl
  | x :: l, b, n + 1, g => by
    obtain ⟨g1, g2⟩ := asc_cons.1 g
    exact asc_cons.2 ⟨g1, asc_take n g2⟩
theorem impl_FewOk_l0 (L : List Int) (hL : L.length < 1125899906842624) : ∀ (suf pre : List Int) (b : Int), pre ++ suf = L → EV (fun k => impl_FewOk.l0 k b L (L.length : Int) (pre.length : Int)) (asc b suf) := by
  intro suf
  induction suf with
  | nil =>
    intro pre b e
    obtain rfl : pre = L := by simpa using e
    refine EV.succ ?_
    simp only [impl_FewOk.l0, if_neg (show ¬ (pre.length : Int) < (pre.length : Int) by omega)]
    exact EV.pure _
  | cons x suf ih =>
    intro pre b e
    have hl : (L.length : Int) = pre.length + suf.length + 1 := by rw [← e]; exact len_mid _ _ _
    have hx : rd L (pre.length : Int) = x := by rw [← e]; exact rd_mid _ _ _ _ rfl
    refine EV.succ ?_
    simp only [impl_FewOk.l0, hx, if_pos (show (pre.length : Int) < (L.length : Int) by omega), if_pos (show (0 : Int) ≤ (pre.length : Int) by omega)]
    by_cases c1 : x ≤ b
    · simp only [if_pos c1]
      exact (EV.pure _).cast (by simp [asc, show ¬ b < x by omega])
    simp only [if_neg c1]
    by_cases c2 : x ≥ 64
    · simp only [if_pos c2]
      exact (EV.pure _).cast (by simp [asc, show ¬ x ≤ 63 by omega])
    simp only [if_neg c2]
    rw [w64 (x := (pre.length : Int) + 1) (by omega) (by omega), ← len_snoc pre x]
    exact (ih (pre ++ [x]) x (by rw [← app_mid]; exact e)).cast (by simp [asc, show b < x by omega, show x ≤ 63 by omega])
theorem impl_FewOk_ev (l : List Int) (h : l.length < 1125899906842624) : EV (fun k => impl_FewOk.f k l) (fewB l) := by
  unfold impl_FewOk.f fewB
  by_cases c : (l.length : Int) > 6
  · simp only [if_pos c]
    exact (EV.pure _).cast (by simp [show ¬ l.length ≤ 6 by omega])
  · simp only [if_neg c]
    exact (impl_FewOk_l0 l h l [] (-1) rfl).cast (by simp [show l.length ≤ 6 by omega])
theorem spec_FewOk_l0 (L : List Int) (hL : L.length < 1125899906842624) : ∀ (suf pre : List Int) (b : Int), pre ++ suf = L → -1 ≤ b →
    ((pre = [] ∧ b = -1) ∨ ∃ p, pre = p ++ [b] ∧ 0 ≤ b) → EV (fun k => spec_FewOk.l0 k (pre.length : Int) L) (asc b suf && decide (L.length ≤ 6)) := by
  intro suf
  induction suf with
  | nil =>
    intro pre b e hb hp
    obtain rfl : pre = L := by simpa using e
    refine EV.succ ?_
    simp only [spec_FewOk.l0, if_neg (show ¬ (pre.length : Int) < (pre.length : Int) by omega)]
    exact (EV.pure _).cast (by
      by_cases c : pre.length ≤ 6
      · simp [asc, c, show (pre.length : Int) ≤ 6 by omega]
      · simp [asc, c, show ¬ (pre.length : Int) ≤ 6 by omega])
  | cons x suf ih =>
    intro pre b e hb hp
    have hl : (L.length : Int) = pre.length + suf.length + 1 := by rw [← e]; exact len_mid _ _ _
    have hx : rd L (pre.length : Int) = x := by rw [← e]; exact rd_mid _ _ _ _ rfl
    have go : b < x → 0 ≤ x → x ≤ 63 → EV (fun k => spec_FewOk.l0 k (wrap64 ((pre.length : Int) + 1)) L) (asc b (x :: suf) && decide (L.length ≤ 6)) := by
      intro d0 d1 d2
      rw [w64 (x := (pre.length : Int) + 1) (by omega) (by omega), ← len_snoc pre x]
      exact (ih (pre ++ [x]) x (by rw [← app_mid]; exact e) (by omega) (.inr ⟨pre, rfl, d1⟩)).cast (by simp [asc, d0, d2])
    refine EV.succ ?_
    simp only [spec_FewOk.l0, hx, if_pos (show (pre.length : Int) < (L.length : Int) by omega), if_pos (show (0 : Int) ≤ (pre.length : Int) by omega), in_eq, Option.bind_some]
    by_cases c1 : 0 ≤ x ∧ x ≤ 63
    · simp only [decide_eq_true c1, if_true]
      rcases hp with ⟨rfl, rfl⟩ | ⟨p, rfl, hb0⟩
      · simp only [List.length_nil, Int.natCast_zero, if_neg (show ¬ (0 : Int) > 0 by omega)]
        simpa using go (by omega) c1.1 c1.2
      · have hp1 : ((p ++ [b]).length : Int) = p.length + 1 := len_snoc _ _
        have hw : wrap64 (((p ++ [b]).length : Int) - 1) = p.length := by rw [w64 (by omega) (by omega)]; omega
        have hy : rd L (p.length : Int) = b := by rw [← e, ← app_mid]; exact rd_mid _ _ _ _ rfl
        simp only [if_pos (show ((p ++ [b]).length : Int) > 0 by omega), hw, if_pos (show (0 : Int) ≤ (p.length : Int) by omega), if_pos (show (p.length : Int) < (L.length : Int) by omega), hy]
        by_cases c3 : b ≥ x
        · simp only [if_pos c3]
          exact (EV.pure false).cast (by simp [asc, show ¬ b < x by omega])
        · simp only [if_neg c3]
          exact go (by omega) c1.1 c1.2
    · simp only [decide_eq_false c1, Bool.false_eq_true, if_false]
      refine (EV.pure false).cast ?_
      have : ¬ (b < x ∧ x ≤ 63) := by
        rcases hp with ⟨_, rfl⟩ | ⟨_, _, hb0⟩ <;> omega
      unfold asc
      rw [decide_eq_false this]
      rfl
theorem spec_FewOk_ev (l : List Int) (h : l.length < 1125899906842624) : EV (fun k => spec_FewOk.f k l) (fewB l) := by
  unfold spec_FewOk.f fewB
  exact (spec_FewOk_l0 l h l [] (-1) rfl (by omega) (.inl ⟨rfl, rfl⟩)).cast (by rw [Bool.and_comm])

end Go.Proofs.Ytnolipncjjclcaa.Ev
