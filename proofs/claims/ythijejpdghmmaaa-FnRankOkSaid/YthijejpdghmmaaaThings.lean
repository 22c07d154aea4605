/- The draws of things (l71Thing, l71Things) tell something for every code. No condition. -/
import Derived.Test.YthijejpdghmmaaaPick
import Derived.Test.YthijejpdghmmaaaPAx23
import Derived.Test.YthijejpdghmmaaaPAx24
namespace Go.Proofs.Ythijejpdghmmaaa.Ev
open Go.RowKit Go.Proofs.YthijejpdghmmaaaW.PrintWords Go.Proofs.YthijejpdghmmaaaW.PrintLast Go.Proofs.Ythijejpdghmmaaa.PA

theorem thing_last {b : List Int} {p : Int} {c : Bool} (hb : Code b) (hp : 0 ≤ p) (hp1 : p ≤ 900000000) :
    Tot (fun k => spec_l71Thing.j0 k c b p) (fun r => -1 ≤ r.1 ∧ r.1 ≤ 64 ∧ p ≤ r.2 ∧ r.2 ≤ p + 1) := by
  refine Tot.succ ?_
  simp only [spec_l71Thing.j0]
  cases c
  · simp only [Bool.false_eq_true, if_false, Option.bind_some]
    refine Tot.bind (pick_tot 6 hb hp (by omega) (by omega)) ?_
    rintro ⟨v, q⟩ ⟨h0, h1, rfl⟩
    simp only at h0 h1
    simp only [if_pos h0]
    rw [if_pos (show v < (([3, 5, 9, 17, 33, 40] : List Int).length : Int) by simp; omega)]
    refine Tot.pure _ ⟨?_, ?_, by simp; omega, by simp⟩
    all_goals
      dsimp only
      have : v = 0 ∨ v = 1 ∨ v = 2 ∨ v = 3 ∨ v = 4 ∨ v = 5 := by omega
      rcases this with rfl | rfl | rfl | rfl | rfl | rfl <;> decide
  · simp only [if_true]
    refine Tot.bind (pick_tot 64 hb hp (by omega) (by omega)) ?_
    rintro ⟨v, q⟩ ⟨h0, h1, rfl⟩
    simp only at h0 h1
    exact Tot.pure _ ⟨by simp only; omega, by simp only; omega, by simp only; omega, by simp only; omega⟩
theorem thing_tot {b : List Int} {p : Int} (hb : Code b) (hp : 0 ≤ p) (hp1 : p ≤ 800000000) :
    Tot (fun k => spec_l71Thing.f k b p) (fun r => -1 ≤ r.1 ∧ r.1 ≤ 64 ∧ p ≤ r.2 ∧ r.2 ≤ p + 2) := by
  unfold spec_l71Thing.f
  refine Tot.bind (pick_tot 12 hb hp (by omega) (by omega)) ?_
  rintro ⟨v, q⟩ ⟨h0, h1, rfl⟩
  simp only at h0 h1
  simp only [Option.bind_some]
  have last : ∀ c : Bool, Tot (fun k => spec_l71Thing.j0 k c b (p + 1)) (fun r => -1 ≤ r.1 ∧ r.1 ≤ 64 ∧ p ≤ r.2 ∧ r.2 ≤ p + 2) :=
    fun c => (thing_last hb (by omega) (by omega)).mono fun r hr => by omega
  by_cases c0 : v = 0
  · simp only [if_pos c0]
    refine Tot.bind (pick_tot 4 hb (by omega) (by omega) (by omega)) ?_
    rintro ⟨v', q⟩ ⟨h0', h1', rfl⟩
    simp only at h0' h1'
    simp only [if_pos h0']
    rw [if_pos (show v' < (([-1, 64, 0, 63] : List Int).length : Int) by simp; omega)]
    refine Tot.pure _ ⟨?_, ?_, by simp only; omega, by simp only; omega⟩
    all_goals
      dsimp only
      have : v' = 0 ∨ v' = 1 ∨ v' = 2 ∨ v' = 3 := by omega
      rcases this with rfl | rfl | rfl | rfl <;> decide
  simp only [if_neg c0]
  by_cases c1 : v = 1
  · simp only [if_pos c1]
    exact last _
  simp only [if_neg c1]
  by_cases c2 : v = 2
  · simp only [if_pos c2]
    exact last _
  simp only [if_neg c2]
  exact last _

theorem things_l0 {b : List Int} (hb : Code b) : ∀ (m : Nat) (out : List Int) (p : Int), 0 ≤ p → p + 2 * m ≤ 800000000 → out.length ≤ 1000000 - m → m ≤ 1000000 → (∀ x ∈ out, 0 ≤ x ∧ x ≤ 63) →
    Tot (fun k => spec_l71Things.l0 k out (m : Int) b p) (fun r => r.1.length ≤ out.length + m ∧ (∀ x ∈ r.1, 0 ≤ x ∧ x ≤ 63) ∧ p ≤ r.2 ∧ r.2 ≤ p + 2 * m) := by
  intro m
  induction m with
  | zero =>
    intro out p h0 h1 h2 _ h3
    refine Tot.succ ?_
    simp only [spec_l71Things.l0, if_neg (show ¬ ((0 : Nat) : Int) > 0 by omega)]
    exact Tot.pure _ ⟨by simp, h3, by simp only; omega, by simp only; omega⟩
  | succ m ih =>
    intro out p h0 h1 h2 hm h3
    refine Tot.succ ?_
    simp only [spec_l71Things.l0, if_pos (show ((m + 1 : Nat) : Int) > 0 by omega)]
    refine Tot.bind (thing_tot hb h0 (by omega)) ?_
    rintro ⟨v, q⟩ ⟨a0, a1, a2, a3⟩
    simp only at a0 a1 a2 a3
    have e1 : wrap64 (((m + 1 : Nat) : Int) - 1) = (m : Int) := by rw [w64 (by omega) (by omega)]; omega
    simp only [in_eq, Option.bind_some, e1]
    by_cases c : 0 ≤ v ∧ v ≤ 63
    · simp only [decide_eq_true c, if_true, if_pos (show out.length < 17592186044416 by omega)]
      refine (ih (out ++ [v]) q (by omega) (by omega) (by simp; omega) (by omega) ?_).mono fun r hr => ?_
      · intro x hx
        rcases List.mem_append.1 hx with hx | hx
        · exact h3 x hx
        · obtain rfl := List.mem_singleton.1 hx
          exact c
      · simp only [List.length_append, List.length_cons, List.length_nil] at hr
        exact ⟨by omega, hr.2.1, by omega, by omega⟩
    · simp only [decide_eq_false c, Bool.false_eq_true, if_false]
      refine (ih out q (by omega) (by omega) (by omega) (by omega) h3).mono fun r hr => ?_
      exact ⟨by omega, hr.2.1, by omega, by omega⟩
theorem things_tot {b : List Int} {p : Int} (m : Int) (hb : Code b) (hp : 0 ≤ p) (hp1 : p ≤ 700000000) (hm : 0 ≤ m) (hm1 : m ≤ 10000) :
    Tot (fun k => spec_l71Things.f k b p m) (fun r => (r.1.length : Int) ≤ m ∧ (∀ x ∈ r.1, 0 ≤ x ∧ x ≤ 63) ∧ p ≤ r.2 ∧ r.2 ≤ p + 1 + 2 * m) := by
  unfold spec_l71Things.f
  rw [w64 (x := m + 1) (by omega) (by omega)]
  refine Tot.bind (pick_tot (m + 1) hb hp (by omega) (by omega)) ?_
  rintro ⟨v, q⟩ ⟨h0, h1, rfl⟩
  simp only at h0 h1
  obtain ⟨n, rfl⟩ := Int.eq_ofNat_of_zero_le h0
  refine (things_l0 hb n [] (p + 1) (by omega) (by omega) (by simp) (by omega) (fun x hx => by cases hx)).mono fun r hr => ?_
  simp only [List.length_nil] at hr
  exact ⟨by omega, hr.2.1, by omega, by omega⟩

end Go.Proofs.Ythijejpdghmmaaa.Ev
