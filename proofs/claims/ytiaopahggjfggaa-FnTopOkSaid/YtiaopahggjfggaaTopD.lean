/- The draws of tops (l71Top, DrawTopOk, DrawTopGet) tell something for every code: fewer than ten pairs. No condition. -/
import Derived.Test.YtiaopahggjfggaaTopC
import Derived.Test.YtiaopahggjfggaaThings
import Derived.Test.YtiaopahggjfggaaPAx57
namespace Go.Proofs.Ytiaopahggjfggaa.Ev
open Go.RowKit Go.Proofs.YtiaopahggjfggaaW.PrintWords Go.Proofs.YtiaopahggjfggaaW.PrintLast Go.Proofs.Ytiaopahggjfggaa.PA

theorem l71Top_l0 {b : List Int} {p : Int} (L : List Int) (hb : Code b) (hp : 0 ≤ p) (hp1 : p ≤ 500000000) (hL : L.length ≤ 10000) : ∀ (suf pre : List Int) (l : List S61) (x y : Int), pre ++ suf = L → l.length ≤ 5 →
    Tot (fun k => spec_l71Top.l0 k L (pre.length : Int) b p l x y) (fun r => r.1.length ≤ 6 ∧ p ≤ r.2.2.2 ∧ r.2.2.2 ≤ p + 3) := by
  intro suf
  induction suf with
  | nil =>
    intro pre l x y e hl
    have hl' : L.length = pre.length := by rw [← e]; simp
    refine Tot.succ ?_
    simp only [spec_l71Top.l0, hl', if_neg (show ¬ (pre.length : Int) < (pre.length : Int) by omega)]
    refine Tot.bind (pick_tot 24 hb hp (by omega) (by omega)) ?_
    rintro ⟨v, q⟩ ⟨h0, h1, rfl⟩
    simp only at h0 h1
    by_cases c0 : v = 0
    · simp only [if_pos c0]
      exact Tot.pure _ ⟨by simp only; omega, by simp only; omega, by simp only; omega⟩
    simp only [if_neg c0]
    by_cases c1 : v = 1
    · simp only [if_pos c1, Option.bind_some]
      refine Tot.bind (pick_tot 3 hb (by omega) (by omega) (by omega)) ?_
      rintro ⟨v', q⟩ ⟨h0', h1', rfl⟩
      simp only at h0' h1'
      simp only [if_pos h0']
      rw [if_pos (show v' < (([(-1), 2001, 2000] : List Int).length : Int) by simp; omega)]
      exact Tot.pure _ ⟨by simp only; omega, by simp only; omega, by simp only; omega⟩
    simp only [if_neg c1]
    by_cases c2 : v = 2
    · simp only [if_pos c2]
      refine Tot.bind (pick_tot 2 hb (by omega) (by omega) (by omega)) ?_
      rintro ⟨v', q⟩ ⟨h0', h1', rfl⟩
      simp only [if_pos (show l.length < 8796093022208 by omega)]
      exact Tot.pure _ ⟨by simp; omega, by simp only; omega, by simp only; omega⟩
    simp only [if_neg c2]
    exact Tot.pure _ ⟨by simp only; omega, by simp only; omega, by simp only; omega⟩
  | cons z suf ih =>
    intro pre l x y e hl
    have hl' : (L.length : Int) = pre.length + suf.length + 1 := by rw [← e]; exact len_mid _ _ _
    have hst : wrap64 ((pre.length : Int) + 1) = ((pre ++ [z]).length : Int) := by rw [len_snoc]; exact w64 (by omega) (by omega)
    refine Tot.succ ?_
    simp only [spec_l71Top.l0, if_pos (show (pre.length : Int) < (L.length : Int) by omega), if_pos (show (0 : Int) ≤ (pre.length : Int) by omega), hst]
    refine Tot.bind (Tot.of (spec_TopAdd_ev l x y _ (by omega)) rfl) ?_
    rintro _ rfl
    exact ih (pre ++ [z]) _ _ _ (by rw [← app_mid]; exact e) (topAdd_len _ _ _ _)
theorem l71Top_tot {b : List Int} {p : Int} (hb : Code b) (hp : 0 ≤ p) (hp1 : p ≤ 400000000) :
    Tot (fun k => spec_l71Top.f k b p) (fun r => r.1.length ≤ 6 ∧ p ≤ r.2.2.2 ∧ r.2.2.2 ≤ p + 100) := by
  unfold spec_l71Top.f
  refine Tot.bind (things_tot 24 hb hp (by omega) (by omega) (by omega)) ?_
  rintro ⟨L, q⟩ ⟨h0, _, h1, h2⟩
  simp only at h0 h1 h2
  exact (l71Top_l0 L hb (by omega) (by omega) (by omega) L [] [] 0 0 rfl (by simp)).mono fun r hr => ⟨hr.1, by omega, by omega⟩

end Go.Proofs.Ytiaopahggjfggaa.Ev
