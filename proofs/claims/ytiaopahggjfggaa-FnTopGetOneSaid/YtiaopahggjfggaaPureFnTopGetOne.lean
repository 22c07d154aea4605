/- FnTopGetOne: what is kept of a thing is told, for every code of at most 2^20 bytes. -/
import Derived.Test.YtiaopahggjfggaaTopD
import Derived.Test.YtiaopahggjfggaaTopG
import Derived.Test.YtiaopahggjfggaaPAx62
namespace Go.Proofs.Ytiaopahggjfggaa.Pure
open Go.RowKit Go.Proofs.Ytiaopahggjfggaa.PA Go.Proofs.YtiaopahggjfggaaW.PrintWords Go.Proofs.YtiaopahggjfggaaW.PrintLast Go.Proofs.Ytiaopahggjfggaa.Ev

theorem drawTopGet_tot (l : List Int) (h : ∀ x ∈ l, (Lit.int .u8 x).wf = true) : Tot (fun k => spec_DrawTopGet.f k l) (fun r => r.1.length ≤ 7) := by
  obtain ⟨b, hb, e⟩ := open_ev l h
  simp only [spec_DrawTopGet.f, spec_DrawTopAdd.f, e, Option.bind_some]
  refine Tot.bind (P := fun r => r.1.length ≤ 7) ?_ ?_
  · refine Tot.bind (l71Top_tot hb (by omega) (by omega)) ?_
    rintro ⟨k, a, c, q⟩ ⟨h0, h1, h2⟩
    simp only at h0 h1 h2
    refine Tot.bind (thing_tot (p := q) hb h1 (by omega)) ?_
    intro _ _
    exact Tot.pure _ (by simp only; omega)
  · rintro ⟨k, a, c, q⟩ h0
    exact Tot.pure _ h0
/-- The last match, and the first where things ascend. -/
def lastN (t : Int) : List S61 → Int → Int
  | [], a => a
  | x :: l, a => lastN t l (if x.f0 = t then x.f1 else a)
theorem lastN_none (t : Int) : ∀ (l : List S61) (b a : Int), ordB b l = true → t ≤ b → lastN t l a = a
  | [], _, _, _, _ => rfl
  | x :: l, b, a, h, hb => by
    obtain ⟨h1, h2⟩ := ord_cons.1 h
    unfold lastN
    rw [if_neg (show ¬ x.f0 = t by omega)]
    exact lastN_none t l x.f0 a h2 (by omega)
theorem lastN_num (t : Int) : ∀ (l : List S61) (b : Int), ordB b l = true → lastN t l 0 = numOf t l
  | [], _, _ => rfl
  | x :: l, b, h => by
    obtain ⟨h1, h2⟩ := ord_cons.1 h
    unfold lastN numOf
    by_cases c : x.f0 = t
    · rw [if_pos c, if_pos c]
      exact lastN_none t l x.f0 _ h2 (by omega)
    · rw [if_neg c, if_neg c]
      exact lastN_num t l x.f0 h2
theorem getOne_loop (L : List S61) (lost all t a b : Int) (hL : L.length ≤ 4) : ∀ (suf pre : List S61) (n : Int), pre ++ suf = L → a = lastN t suf n → wrap64 (a + lost) = b → EV (fun k => laws_FnTopGetOne.l0 k t a b n (pre.length : Int) L lost all) true := by
  intro suf
  induction suf with
  | nil =>
    intro pre n e ha hb
    obtain rfl : pre = L := by simpa using e
    obtain rfl : a = n := ha
    refine EV.succ ?_
    simp only [laws_FnTopGetOne.l0, if_neg (show ¬ (pre.length : Int) < (pre.length : Int) by omega), if_true, hb]
    exact (EV.pure _).cast (by simp)
  | cons x suf ih =>
    intro pre n e ha hb
    have hl : (L.length : Int) = pre.length + suf.length + 1 := by rw [← e]; exact len_mid _ _ _
    have hx : rd_T61 L (pre.length : Int) = x := by rw [← e]; exact rdS_mid _ _ _ _ rfl
    have hst : wrap64 ((pre.length : Int) + 1) = ((pre ++ [x]).length : Int) := by rw [len_snoc]; exact w64 (by omega) (by omega)
    refine EV.succ ?_
    simp only [laws_FnTopGetOne.l0, hx, if_pos (show (pre.length : Int) < (L.length : Int) by omega), if_pos (show (0 : Int) ≤ (pre.length : Int) by omega), hst]
    unfold lastN at ha
    by_cases c : x.f0 = t
    · rw [if_pos c] at ha
      simp only [if_pos c]
      exact ih (pre ++ [x]) _ (by rw [← app_mid]; exact e) ha hb
    · rw [if_neg c] at ha
      simp only [if_neg c]
      exact ih (pre ++ [x]) _ (by rw [← app_mid]; exact e) ha hb
theorem FnTopGetOne : laws_FnTopGetOne.Pure := by
  intro l _ _ hw
  refine EV.get (Tot.true ?_)
  unfold laws_FnTopGetOne.f
  by_cases hl : (l.length : Int) > 1048576
  · simp only [if_pos hl]
    exact Tot.pure _ rfl
  simp only [if_neg hl]
  refine Tot.bind (drawTopGet_tot l hw) ?_
  rintro ⟨L, x, y, t⟩ hf
  simp only at hf
  refine Tot.bind (Tot.of (spec_TopGet_ev L x y t (by omega)) rfl) ?_
  rintro _ rfl
  refine Tot.bind (Tot.of (impl_TopGet_ev L x y t) rfl) ?_
  rintro _ rfl
  simp only [if_true]
  refine Tot.succ ?_
  by_cases c : topB L x y = true ∧ 0 ≤ t ∧ t ≤ 63
  · obtain ⟨c1, c2, c3⟩ := topB_iff.1 c.1
    have hb := numOf_bd t L (-1) c2
    have e : topGet L x y t = (numOf t L, numOf t L + x) := by unfold topGet; rw [if_pos c]
    simp only [e, decide_eq_false (show ¬ numOf t L < 0 by omega), laws_FnTopGetOne.j0, Bool.false_eq_true, if_false]
    exact Tot.of (getOne_loop L x y t _ _ c1.1 L [] 0 rfl (lastN_num t L (-1) c2).symm (w64 (by omega) (by omega))) rfl
  · have e : topGet L x y t = (-1, -1) := by unfold topGet; rw [if_neg c]
    simp only [e, decide_eq_true (show (-1 : Int) < 0 by omega), laws_FnTopGetOne.j0, if_true]
    exact Tot.pure _ rfl

end Go.Proofs.Ytiaopahggjfggaa.Pure
