/- FnFewOk: parts of marks that are kept are such, for every code of at most 2^20 bytes. -/
import Derived.Test.YtiaopahggjfggaaFewB
import Derived.Test.YtiaopahggjfggaaPAx27
namespace Go.Proofs.Ytiaopahggjfggaa.Pure
open Go.RowKit Go.Proofs.Ytiaopahggjfggaa.PA Go.Proofs.YtiaopahggjfggaaW.PrintWords Go.Proofs.YtiaopahggjfggaaW.PrintLast Go.Proofs.Ytiaopahggjfggaa.Ev

theorem drawOk_tot (l : List Int) (h : ∀ x ∈ l, (Lit.int .u8 x).wf = true) : Tot (fun k => spec_DrawFewOk.f k l) (fun r => r.length ≤ 8) := by
  obtain ⟨b, hb, e⟩ := open_ev l h
  simp only [spec_DrawFewOk.f, e, Option.bind_some]
  refine Tot.bind (l71Few_tot hb (by omega) (by omega)) ?_
  rintro ⟨f, q⟩ ⟨h0, h1, h2⟩
  simp only at h0 h1 h2
  refine Tot.bind (pick_tot (p := q) 4 hb h1 (by omega) (by omega)) ?_
  rintro ⟨v, q'⟩ ⟨g0, g1, rfl⟩
  by_cases c0 : v = 0
  · simp only [if_pos c0, if_pos (show f.length < 17592186044416 by omega)]
    exact Tot.pure _ (by simp; omega)
  simp only [if_neg c0]
  by_cases c1 : v = 1
  · simp only [if_pos c1]
    refine Tot.bind (pick_tot 3 hb (by omega) (by omega) (by omega)) ?_
    rintro ⟨v', q'⟩ ⟨g0', g1', rfl⟩
    simp only
    rw [if_pos (by simp; omega)]
    exact Tot.pure _ (by simp; omega)
  simp only [if_neg c1]
  exact Tot.pure _ (by omega)
theorem parts_loop (L : List Int) (h : fewB L = true) : ∀ (m : Nat) (i : Int), 0 ≤ i → i + m = L.length → EV (fun k => laws_FnFewOk.l0 k i L) true := by
  obtain ⟨h1, h2⟩ := fewB_iff.1 h
  intro m
  induction m with
  | zero =>
    intro i h0 hi
    refine EV.succ ?_
    simp only [laws_FnFewOk.l0, if_neg (show ¬ i < (L.length : Int) by omega)]
    exact (EV.pure _).cast (decide_eq_true (by omega))
  | succ m ih =>
    intro i h0 hi
    have d : fewB (L.drop i.toNat) = true := fewB_iff.2 ⟨by simp; omega, asc_drop _ h2⟩
    have t : fewB (L.take i.toNat) = true := fewB_iff.2 ⟨by simp; omega, asc_take _ h2⟩
    refine EV.succ ?_
    simp only [laws_FnFewOk.l0, if_pos (show i < (L.length : Int) by omega), if_pos h0, if_pos (show i ≤ (L.length : Int) by omega)]
    refine EV.bind ((impl_FewOk_ev (L.drop i.toNat) (by simp; omega)).cast d) ?_
    simp only [if_true]
    refine EV.bind ((impl_FewOk_ev (L.take i.toNat) (by simp; omega)).cast t) ?_
    simp only [if_true]
    rw [w64 (x := i + 1) (by omega) (by omega)]
    exact ih (i + 1) (by omega) (by omega)
theorem FnFewOk : laws_FnFewOk.Pure := by
  intro l _ _ hw
  refine EV.get (Tot.true ?_)
  unfold laws_FnFewOk.f
  by_cases hl : (l.length : Int) > 1048576
  · simp only [if_pos hl]
    exact Tot.pure _ rfl
  simp only [if_neg hl]
  refine Tot.bind (drawOk_tot l hw) ?_
  intro f hf
  refine Tot.bind (Tot.of (impl_FewOk_ev f (by omega)) rfl) ?_
  rintro _ rfl
  refine Tot.bind (Tot.of (spec_FewOk_ev f (by omega)) rfl) ?_
  rintro _ rfl
  simp only [bne_self_eq_false, Bool.false_eq_true, if_false]
  cases h : fewB f
  · refine Tot.succ ?_
    simp only [laws_FnFewOk.j0, Bool.not_false, if_true]
    refine Tot.bind (Tot.of (spec_FewOk_ev f (by omega)) rfl) ?_
    rintro _ rfl
    exact Tot.pure _ (by rw [h]; rfl)
  · refine Tot.succ ?_
    simp only [laws_FnFewOk.j0, Bool.not_true, Bool.false_eq_true, if_false]
    exact Tot.of (parts_loop f h f.length 0 (by omega) (by omega)) rfl

end Go.Proofs.Ytiaopahggjfggaa.Pure
