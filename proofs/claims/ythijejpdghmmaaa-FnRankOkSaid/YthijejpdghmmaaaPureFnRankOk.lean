/- FnRankOk: above things not more than a part is counted, for every code of at most 2^20 bytes. -/
import Derived.Test.YthijejpdghmmaaaRankD
import Derived.Test.YthijejpdghmmaaaPAx31
namespace Go.Proofs.Ythijejpdghmmaaa.Pure
open Go.RowKit Go.Proofs.Ythijejpdghmmaaa.PA Go.Proofs.YthijejpdghmmaaaW.PrintWords Go.Proofs.YthijejpdghmmaaaW.PrintLast Go.Proofs.Ythijejpdghmmaaa.Ev

theorem rankOk_loop (a : Int) (L : List S43) (hL : L.length ≤ 1000) : ∀ (suf pre : List S43) (b s : Int), pre ++ suf = L → 0 ≤ s → s ≤ 2000 * pre.length → 0 ≤ b → okFrom suf b s a = true →
    EV (fun k => laws_FnRankOk.l0 k s (pre.length : Int) L a) true := by
  intro suf
  induction suf with
  | nil =>
    intro pre b s e h0 h1 hb h
    have hl : L.length = pre.length := by rw [← e]; simp
    refine EV.succ ?_
    simp only [laws_FnRankOk.l0, hl, if_neg (show ¬ (pre.length : Int) < (pre.length : Int) by omega)]
    exact (EV.pure _).cast h
  | cons x suf ih =>
    intro pre b s e h0 h1 hb h
    have hl : (L.length : Int) = pre.length + suf.length + 1 := by rw [← e]; exact len_mid _ _ _
    have hx : rd_T43 L (pre.length : Int) = x := by rw [← e]; exact rdS_mid _ _ _ _ rfl
    have hst : wrap64 ((pre.length : Int) + 1) = ((pre ++ [x]).length : Int) := by rw [len_snoc]; exact w64 (by omega) (by omega)
    unfold okFrom at h
    by_cases c : b < x.f0 ∧ x.f0 ≤ 127 ∧ 1 ≤ x.f1 ∧ x.f1 ≤ 2000 ∧ (64 ≤ x.f0 ∨ x.f1 ≤ a / 8)
    · rw [if_pos c] at h
      have go := ih (pre ++ [x]) x.f0 (s + x.f1) (by rw [← app_mid]; exact e) (by omega) (by rw [len_snoc]; omega) (by omega) h
      refine EV.succ ?_
      simp only [laws_FnRankOk.l0, hx, if_pos (show (pre.length : Int) < (L.length : Int) by omega), if_pos (show (0 : Int) ≤ (pre.length : Int) by omega), hst, w64 (x := s + x.f1) (by omega) (by omega), w64 (x := x.f1 * 8) (by omega) (by omega)]
      by_cases c1 : x.f0 < 64
      · simp only [if_pos c1, if_neg (show ¬ x.f1 * 8 > a by omega)]
        exact go
      · simp only [if_neg c1]
        exact go
    · rw [if_neg c] at h
      cases h
theorem FnRankOk : laws_FnRankOk.Pure := by
  intro l _ _ hw
  refine EV.get (Tot.true ?_)
  unfold laws_FnRankOk.f
  by_cases hl : (l.length : Int) > 1048576
  · simp only [if_pos hl]
    exact Tot.pure _ rfl
  simp only [if_neg hl]
  refine Tot.bind (drawRankOk_tot l hw) ?_
  rintro ⟨L, a⟩ h0
  simp only at h0
  refine Tot.bind (Tot.of (impl_RankOk_ev L a (by omega)) rfl) ?_
  rintro _ rfl
  refine Tot.bind (Tot.of (spec_RankOk_ev L a (by omega)) rfl) ?_
  rintro _ rfl
  simp only [bne_self_eq_false, Bool.false_eq_true, if_false]
  cases h : rankOk L a
  · refine Tot.succ ?_
    simp only [laws_FnRankOk.j0, Bool.not_false, if_true]
    refine Tot.bind (Tot.of (spec_RankOk_ev L a (by omega)) rfl) ?_
    rintro _ rfl
    exact Tot.pure _ (by rw [h]; rfl)
  · obtain ⟨a0, a1, ok⟩ := rankOk_range h
    refine Tot.succ ?_
    simp only [laws_FnRankOk.j0, Bool.not_true, Bool.false_eq_true, if_false]
    exact Tot.of (rankOk_loop a L (by omega) L [] 0 0 rfl (by omega) (by simp) (by omega) ok) rfl

end Go.Proofs.Ythijejpdghmmaaa.Pure
