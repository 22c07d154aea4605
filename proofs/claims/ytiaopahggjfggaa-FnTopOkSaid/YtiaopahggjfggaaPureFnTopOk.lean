/- FnTopOk: what is lost is not more than a part of all, for every code of at most 2^20 bytes. -/
import Derived.Test.YtiaopahggjfggaaTopD
import Derived.Test.YtiaopahggjfggaaPAx59
namespace Go.Proofs.Ytiaopahggjfggaa.Pure
open Go.RowKit Go.Proofs.Ytiaopahggjfggaa.PA Go.Proofs.YtiaopahggjfggaaW.PrintWords Go.Proofs.YtiaopahggjfggaaW.PrintLast Go.Proofs.Ytiaopahggjfggaa.Ev

theorem drawTopOk_tot (l : List Int) (h : ∀ x ∈ l, (Lit.int .u8 x).wf = true) : Tot (fun k => spec_DrawTopOk.f k l) (fun r => r.1.length ≤ 7) := by
  obtain ⟨b, hb, e⟩ := open_ev l h
  simp only [spec_DrawTopOk.f, e, Option.bind_some]
  refine Tot.bind (l71Top_tot hb (by omega) (by omega)) ?_
  rintro ⟨k, a, c, q⟩ ⟨h0, h1, h2⟩
  simp only at h0 h1 h2
  refine Tot.bind (pick_tot (p := q) 4 hb h1 (by omega) (by omega)) ?_
  rintro ⟨v, q'⟩ ⟨h0', h1', rfl⟩
  by_cases c0 : v = 0
  · simp only [if_pos c0]
    refine Tot.bind (pick_tot 3 hb (by omega) (by omega) (by omega)) ?_
    intro _ _
    exact Tot.pure _ (by simp only; omega)
  simp only [if_neg c0]
  by_cases c1 : v = 1
  · simp only [if_pos c1, if_pos (show k.length < 8796093022208 by omega)]
    exact Tot.pure _ (by simp; omega)
  simp only [if_neg c1]
  exact Tot.pure _ (by simp only; omega)
theorem topOk_loop (L : List S61) (lost all : Int) (h : topB L lost all = true) : ∀ (suf pre : List S61), pre ++ suf = L → EV (fun k => laws_FnTopOk.l0 k (sumN pre) (pre.length : Int) L lost all) true := by
  obtain ⟨c1, c2, c3⟩ := topB_iff.1 h
  intro suf
  induction suf with
  | nil =>
    intro pre e
    obtain rfl : pre = L := by simpa using e
    have hs := sumN_bd pre (-1) c2
    refine EV.succ ?_
    simp only [laws_FnTopOk.l0, if_neg (show ¬ (pre.length : Int) < (pre.length : Int) by omega)]
    rw [w64 (x := 5 * lost) (by omega) (by omega), w64 (x := sumN pre + 5 * lost) (by omega) (by omega)]
    simp only [if_pos c3]
    exact (EV.pure _).cast (decide_eq_true (by omega))
  | cons x suf ih =>
    intro pre e
    have hl : (L.length : Int) = pre.length + suf.length + 1 := by rw [← e]; exact len_mid _ _ _
    have hx : rd_T61 L (pre.length : Int) = x := by rw [← e]; exact rdS_mid _ _ _ _ rfl
    have hb := sumN_bd (pre ++ [x]) (-1) (ord_pre (suf := suf) (by rw [← app_mid, e]; exact c2))
    have hs : sumN (pre ++ [x]) = sumN pre + x.f1 := by rw [sumN_app]; simp [sumN]
    have hn : ((pre ++ [x]).length : Int) = pre.length + 1 := len_snoc _ _
    refine EV.succ ?_
    simp only [laws_FnTopOk.l0, hx, if_pos (show (pre.length : Int) < (L.length : Int) by omega), if_pos (show (0 : Int) ≤ (pre.length : Int) by omega)]
    rw [w64 (x := sumN pre + x.f1) (by omega) (by omega), w64 (x := (pre.length : Int) + 1) (by omega) (by omega), ← len_snoc pre x, ← hs]
    exact ih (pre ++ [x]) (by rw [← app_mid]; exact e)
theorem FnTopOk : laws_FnTopOk.Pure := by
  intro l _ _ hw
  refine EV.get (Tot.true ?_)
  unfold laws_FnTopOk.f
  by_cases hl : (l.length : Int) > 1048576
  · simp only [if_pos hl]
    exact Tot.pure _ rfl
  simp only [if_neg hl]
  refine Tot.bind (drawTopOk_tot l hw) ?_
  rintro ⟨L, x, y⟩ hf
  simp only at hf
  refine Tot.bind (Tot.of (impl_TopOk_ev L x y) rfl) ?_
  rintro _ rfl
  refine Tot.bind (Tot.of (spec_TopOk_ev L x y (by omega)) rfl) ?_
  rintro _ rfl
  simp only [bne_self_eq_false, Bool.false_eq_true, if_false]
  cases h : topB L x y
  · refine Tot.succ ?_
    simp only [laws_FnTopOk.j0, Bool.not_false, if_true]
    refine Tot.bind (Tot.of (spec_TopOk_ev L x y (by omega)) rfl) ?_
    rintro _ rfl
    exact Tot.pure _ (by rw [h]; rfl)
  · refine Tot.succ ?_
    simp only [laws_FnTopOk.j0, Bool.not_true, Bool.false_eq_true, if_false]
    exact Tot.of (topOk_loop L x y h L [] rfl) rfl

end Go.Proofs.Ytiaopahggjfggaa.Pure
