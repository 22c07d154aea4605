/- The draw of a thing (l71Thing) tells something for every code. No condition. -/
import Derived.Test.YtdnffhagegcboaaPick
import Derived.Test.YtdnffhagegcboaaPAx22
namespace Go.Proofs.Ytdnffhagegcboaa.Ev
open Go.RowKit Go.Proofs.YtdnffhagegcboaaW.PrintWords Go.Proofs.YtdnffhagegcboaaW.PrintLast Go.Proofs.Ytdnffhagegcboaa.PA

theorem thing_last {b : List Int} {p : Int} {c : Bool} (hb : Code b) (hp : 0 ≤ p) (hp1 : p ≤ 900000000) :
    Tot (fun k => spec_l71Thing.j0 k c b p) (fun r => -1 ≤ r.1 ∧ r.1 ≤ 64 ∧ p ≤ r.2 ∧ r.2 ≤ p + 1) := by
  refine Tot.succ ?_
  simp only [spec_l71Thing.j0]
  cases c
  · simp only [Bool.false_eq_true, if_false, Option.bind_some]
    refine Tot.bind (pick_tot 6 hb hp (by omega) (by omega)) ?_
    rintro ⟨v, q⟩ ⟨h0, h1, rfl⟩
    simp only at h0 h1
    simp only [if_pos h0]
    rw [if_pos (show v < (([3, 5, 9, 17, 33, 40] : List Int).length : Int) by simp; omega)]
    refine Tot.pure _ ⟨?_, ?_, by simp; omega, by simp⟩
    all_goals
      dsimp only
      have : v = 0 ∨ v = 1 ∨ v = 2 ∨ v = 3 ∨ v = 4 ∨ v = 5 := by omega
      rcases this with rfl | rfl | rfl | rfl | rfl | rfl <;> decide
  · simp only [if_true]
    refine Tot.bind (pick_tot 64 hb hp (by omega) (by omega)) ?_
    rintro ⟨v, q⟩ ⟨h0, h1, rfl⟩
    simp only at h0 h1
    exact Tot.pure _ ⟨by simp only; omega, by simp only; omega, by simp only; omega, by simp only; omega⟩
theorem thing_tot {b : List Int} {p : Int} (hb : Code b) (hp : 0 ≤ p) (hp1 : p ≤ 800000000) :
    Tot (fun k => spec_l71Thing.f k b p) (fun r => -1 ≤ r.1 ∧ r.1 ≤ 64 ∧ p ≤ r.2 ∧ r.2 ≤ p + 2) := by
  unfold spec_l71Thing.f
  refine Tot.bind (pick_tot 12 hb hp (by omega) (by omega)) ?_
  rintro ⟨v, q⟩ ⟨h0, h1, rfl⟩
  simp only at h0 h1
  simp only [Option.bind_some]
  have last : ∀ c : Bool, Tot (fun k => spec_l71Thing.j0 k c b (p + 1)) (fun r => -1 ≤ r.1 ∧ r.1 ≤ 64 ∧ p ≤ r.2 ∧ r.2 ≤ p + 2) :=
    fun c => (thing_last hb (by omega) (by omega)).mono fun r hr => by omega
  by_cases c0 : v = 0
  · simp only [if_pos c0]
    refine Tot.bind (pick_tot 4 hb (by omega) (by omega) (by omega)) ?_
    rintro ⟨v', q⟩ ⟨h0', h1', rfl⟩
    simp only at h0' h1'
    simp only [if_pos h0']
    rw [if_pos (show v' < (([-1, 64, 0, 63] : List Int).length : Int) by simp; omega)]
    refine Tot.pure _ ⟨?_, ?_, by simp only; omega, by simp only; omega⟩
    all_goals
      dsimp only
      have : v' = 0 ∨ v' = 1 ∨ v' = 2 ∨ v' = 3 := by omega
      rcases this with rfl | rfl | rfl | rfl <;> decide
  simp only [if_neg c0]
  by_cases c1 : v = 1
  · simp only [if_pos c1]
    exact last _
  simp only [if_neg c1]
  by_cases c2 : v = 2
  · simp only [if_pos c2]
    exact last _
  simp only [if_neg c2]
  exact last _

end Go.Proofs.Ytdnffhagegcboaa.Ev
