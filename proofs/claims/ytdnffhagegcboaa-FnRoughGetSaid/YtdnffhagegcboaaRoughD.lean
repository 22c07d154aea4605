/- The draw of rough counts (l71Rough) tells something for every code. No condition. -/
import Derived.Test.YtdnffhagegcboaaRoughE
import Derived.Test.YtdnffhagegcboaaThing
import Derived.Test.YtdnffhagegcboaaPAx15
namespace Go.Proofs.Ytdnffhagegcboaa.Ev
open Go.RowKit Go.Proofs.YtdnffhagegcboaaW.PrintWords Go.Proofs.YtdnffhagegcboaaW.PrintLast Go.Proofs.Ytdnffhagegcboaa.PA

theorem l71Rough_l0 {b : List Int} (hb : Code b) : ∀ (m : Nat) (L : List (List Int)) (p : Int), 0 ≤ p → p + 2 * m ≤ 800000000 → m ≤ 11 → roughB L = true → (L.headD []).sum ≤ 8 * (11 - (m : Int)) →
    Tot (fun k => spec_l71Rough.l0 k (m : Int) b p L) (fun r => p ≤ r.2 ∧ r.2 ≤ p + 2 * m + 2) := by
  intro m
  induction m with
  | zero =>
    intro L p h0 h1 _ hL hs
    obtain ⟨a, b', c, rfl, ra, rb, rc, sb, sc, s0, s1⟩ := roughB_open hL
    have hs' : a.sum ≤ 8 * (11 - ((0 : Nat) : Int)) := hs
    refine Tot.succ ?_
    simp only [spec_l71Rough.l0, if_neg (show ¬ ((0 : Nat) : Int) > 0 by omega)]
    refine Tot.bind (pick_tot 24 hb h0 (by omega) (by omega)) ?_
    rintro ⟨v, q⟩ ⟨g0, g1, rfl⟩
    have la := (rowB_iff.1 ra).1
    have lb := (rowB_iff.1 rb).1
    by_cases c0 : v = 0
    · simp only [if_pos c0, show rd_L1 [a, b', c] 0 = a from rfl, if_pos (show (0 : Int) < (([a, b', c] : List (List Int)).length : Int) by simp), if_pos (show (0 : Int) < (a.length : Int) by omega)]
      exact Tot.pure _ ⟨by simp only; omega, by simp only; omega⟩
    simp only [if_neg c0]
    by_cases c1 : v = 1
    · simp only [if_pos c1, if_pos (show (1 : Int) ≤ (([a, b', c] : List (List Int)).length : Int) by simp)]
      exact Tot.pure _ ⟨by simp only; omega, by simp only; omega⟩
    simp only [if_neg c1]
    by_cases c2 : v = 2
    · simp only [if_pos c2, show rd_L1 [a, b', c] 1 = b' from rfl, if_pos (show (1 : Int) < (([a, b', c] : List (List Int)).length : Int) by simp), if_pos (show b'.length < 17592186044416 by omega)]
      exact Tot.pure _ ⟨by simp only; omega, by simp only; omega⟩
    simp only [if_neg c2]
    by_cases c3 : v = 3
    · simp only [if_pos c3, show rd_L1 [a, b', c] 0 = a from rfl, if_pos (show (0 : Int) < (([a, b', c] : List (List Int)).length : Int) by simp)]
      refine Tot.bind (Tot.of (l1Sum_row ra) rfl) ?_
      rintro _ rfl
      refine Tot.bind (pick_tot 3 hb (by omega) (by omega) (by omega)) ?_
      rintro ⟨v', q⟩ ⟨g0', g1', rfl⟩
      refine Tot.bind (Tot.of (spec_RoughAdd_ev _ 7 _) rfl) ?_
      rintro _ rfl
      exact Tot.pure _ ⟨by simp only; omega, by simp only; omega⟩
    simp only [if_neg c3]
    exact Tot.pure _ ⟨by simp only; omega, by simp only; omega⟩
  | succ m ih =>
    intro L p h0 h1 hm hL hs
    refine Tot.succ ?_
    simp only [spec_l71Rough.l0, if_pos (show ((m + 1 : Nat) : Int) > 0 by omega)]
    refine Tot.bind (pick_tot 64 hb h0 (by omega) (by omega)) ?_
    rintro ⟨v, q⟩ ⟨g0, g1, rfl⟩
    refine Tot.bind (pick_tot 9 hb (by omega) (by omega) (by omega)) ?_
    rintro ⟨n, q⟩ ⟨n0, n1, rfl⟩
    simp only at g0 g1 n0 n1
    have hd : 0 ≤ v ∧ v ≤ 63 := ⟨g0, by omega⟩
    have hn : n ≤ 2000 - (L.headD []).sum := by omega
    have hok := addL_ok hL hd n0 hn
    have hadd : roughAdd L v n = (addL L v n, true) := if_pos ⟨hL, hd, n0, hn⟩
    refine Tot.bind (Tot.of ((spec_RoughAdd_ev L v n).cast hadd) rfl) ?_
    rintro _ rfl
    have e1 : wrap64 (((m + 1 : Nat) : Int) - 1) = (m : Int) := by rw [w64 (by omega) (by omega)]; omega
    simp only [e1]
    refine (ih _ (p + 1 + 1) (by omega) (by omega) (by omega) hok.1 (by rw [hok.2]; omega)).mono fun r hr => ⟨by omega, by omega⟩
theorem l71Rough_tot {b : List Int} {p : Int} (hb : Code b) (hp : 0 ≤ p) (hp1 : p ≤ 500000000) :
    Tot (fun k => spec_l71Rough.f k b p) (fun r => p ≤ r.2 ∧ r.2 ≤ p + 100) := by
  unfold spec_l71Rough.f
  refine Tot.bind (Tot.of spec_RoughNew_ev rfl) ?_
  rintro _ rfl
  refine Tot.bind (pick_tot 12 hb hp (by omega) (by omega)) ?_
  rintro ⟨v, q⟩ ⟨g0, g1, rfl⟩
  simp only at g0 g1
  obtain ⟨n, rfl⟩ := Int.eq_ofNat_of_zero_le g0
  refine (l71Rough_l0 hb n zeros (p + 1) (by omega) (by omega) (by omega) zeros_ok ?_).mono fun r hr => ⟨by omega, by omega⟩
  have : (zeros.headD []).sum = 0 := by decide
  omega

end Go.Proofs.Ytdnffhagegcboaa.Ev
