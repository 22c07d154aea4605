/- The draws of things (l71Things) tell something for every code. No condition. -/
import Derived.Test.YtiaopahggjfggaaThing
import Derived.Test.YtiaopahggjfggaaPAx51
namespace Go.Proofs.Ytiaopahggjfggaa.Ev
open Go.RowKit Go.Proofs.YtiaopahggjfggaaW.PrintWords Go.Proofs.YtiaopahggjfggaaW.PrintLast Go.Proofs.Ytiaopahggjfggaa.PA

theorem things_l0 {b : List Int} (hb : Code b) : ∀ (m : Nat) (out : List Int) (p : Int), 0 ≤ p → p + 2 * m ≤ 800000000 → out.length ≤ 1000000 - m → m ≤ 1000000 → (∀ x ∈ out, 0 ≤ x ∧ x ≤ 63) →
    Tot (fun k => spec_l71Things.l0 k out (m : Int) b p) (fun r => r.1.length ≤ out.length + m ∧ (∀ x ∈ r.1, 0 ≤ x ∧ x ≤ 63) ∧ p ≤ r.2 ∧ r.2 ≤ p + 2 * m) := by
  intro m
  induction m with
  | zero =>
    intro out p h0 h1 h2 _ h3
    refine Tot.succ ?_
    simp only [spec_l71Things.l0, if_neg (show ¬ ((0 : Nat) : Int) > 0 by omega)]
    exact Tot.pure _ ⟨by simp, h3, by simp only; omega, by simp only; omega⟩
  | succ m ih =>
    intro out p h0 h1 h2 hm h3
    refine Tot.succ ?_
    simp only [spec_l71Things.l0, if_pos (show ((m + 1 : Nat) : Int) > 0 by omega)]
    refine Tot.bind (thing_tot hb h0 (by omega)) ?_
    rintro ⟨v, q⟩ ⟨a0, a1, a2, a3⟩
    simp only at a0 a1 a2 a3
    have e1 : wrap64 (((m + 1 : Nat) : Int) - 1) = (m : Int) := by rw [w64 (by omega) (by omega)]; omega
    simp only [in_eq, Option.bind_some, e1]
    by_cases c : 0 ≤ v ∧ v ≤ 63
    · simp only [decide_eq_true c, if_true, if_pos (show out.length < 17592186044416 by omega)]
      refine (ih (out ++ [v]) q (by omega) (by omega) (by simp; omega) (by omega) ?_).mono fun r hr => ?_
      · intro x hx
        rcases List.mem_append.1 hx with hx | hx
        · exact h3 x hx
        · obtain rfl := List.mem_singleton.1 hx
          exact c
      · simp only [List.length_append, List.length_cons, List.length_nil] at hr
        exact ⟨by omega, hr.2.1, by omega, by omega⟩
    · simp only [decide_eq_false c, Bool.false_eq_true, if_false]
      refine (ih out q (by omega) (by omega) (by omega) (by omega) h3).mono fun r hr => ?_
      exact ⟨by omega, hr.2.1, by omega, by omega⟩
theorem things_tot {b : List Int} {p : Int} (m : Int) (hb : Code b) (hp : 0 ≤ p) (hp1 : p ≤ 700000000) (hm : 0 ≤ m) (hm1 : m ≤ 10000) :
    Tot (fun k => spec_l71Things.f k b p m) (fun r => (r.1.length : Int) ≤ m ∧ (∀ x ∈ r.1, 0 ≤ x ∧ x ≤ 63) ∧ p ≤ r.2 ∧ r.2 ≤ p + 1 + 2 * m) := by
  unfold spec_l71Things.f
  rw [w64 (x := m + 1) (by omega) (by omega)]
  refine Tot.bind (pick_tot (m + 1) hb hp (by omega) (by omega)) ?_
  rintro ⟨v, q⟩ ⟨h0, h1, rfl⟩
  simp only at h0 h1
  obtain ⟨n, rfl⟩ := Int.eq_ofNat_of_zero_le h0
  refine (things_l0 hb n [] (p + 1) (by omega) (by omega) (by simp) (by omega) (fun x hx => by cases hx)).mono fun r hr => ?_
  simp only [List.length_nil] at hr
  exact ⟨by omega, hr.2.1, by omega, by omega⟩

end Go.Proofs.Ytiaopahggjfggaa.Ev
