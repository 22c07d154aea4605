/- Plain facts on RankSpan: both functions tell the same; a knot's halves, its own thing, the knots above a thing; the drawn knot. No condition. -/
import Derived.Test.YthijejpdghmmaaaPick
import Derived.Test.YthijejpdghmmaaaPAx5
import Derived.Test.YthijejpdghmmaaaPAx4
import Derived.Test.YthijejpdghmmaaaPAx9
namespace Go.Proofs.Ythijejpdghmmaaa.Ev
open Go.RowKit Go.Proofs.YthijejpdghmmaaaW.PrintWords Go.Proofs.YthijejpdghmmaaaW.PrintLast Go.Proofs.Ythijejpdghmmaaa.PA

def spanOf (q : Int) : Int × Int := (spec_l4Span.f 8 q).getD (0, 0)
def spanAt (q : Int) : Int × Int := if 1 ≤ q ∧ q ≤ 127 then spanOf q else (1, 0)
theorem span_dec : ∀ n : Fin 128, 1 ≤ n.val → spec_l4Span.f 8 (n.val : Int) = some (spanOf n.val) ∧ impl_RankSpan.f 10 (n.val : Int) = some (spanOf n.val) ∧ 0 ≤ (spanOf n.val).1 ∧ (spanOf n.val).1 ≤ (spanOf n.val).2 ∧ (spanOf n.val).2 ≤ 63 := by
  decide +kernel
theorem nat_of {q : Int} {m : Nat} (h1 : 1 ≤ q) (h2 : q < (m : Int)) : ∃ n : Fin m, q = (n.val : Int) ∧ 1 ≤ n.val := by
  obtain ⟨a, rfl⟩ := Int.eq_ofNat_of_zero_le (show 0 ≤ q by omega)
  exact ⟨⟨a, by omega⟩, rfl, by show 1 ≤ a; omega⟩
theorem span_range {q : Int} (h1 : 1 ≤ q) (h2 : q ≤ 127) : 0 ≤ (spanOf q).1 ∧ (spanOf q).1 ≤ (spanOf q).2 ∧ (spanOf q).2 ≤ 63 := by
  obtain ⟨n, rfl, h⟩ := nat_of (m := 128) h1 (by omega)
  exact (span_dec n h).2.2
theorem spec_l4Span_ev {q : Int} (h1 : 1 ≤ q) (h2 : q ≤ 127) : EV (fun k => spec_l4Span.f k q) (spanOf q) := by
  obtain ⟨n, rfl, h⟩ := nat_of (m := 128) h1 (by omega)
  exact EV.of_mono (fun k => spec_l4Span.mono _ k) 8 (span_dec n h).1
theorem spec_RankSpan_ev (q : Int) : EV (fun k => spec_RankSpan.f k q) (spanAt q) := by
  unfold spec_RankSpan.f spanAt
  simp only [in_eq, Option.bind_some]
  by_cases h : 1 ≤ q ∧ q ≤ 127
  · simp only [h, and_self, decide_true, if_true]
    exact EV.bind (spec_l4Span_ev h.1 h.2) (EV.pure _)
  · simp only [h, decide_false, Bool.false_eq_true, if_false]
    exact EV.pure _
theorem impl_RankSpan_ev (q : Int) : EV (fun k => impl_RankSpan.f k q) (spanAt q) := by
  unfold spanAt
  by_cases h : 1 ≤ q ∧ q ≤ 127
  · rw [if_pos h]
    obtain ⟨n, rfl, h'⟩ := nat_of (m := 128) h.1 (by omega)
    exact EV.of_mono (fun k => impl_RankSpan.mono _ k) 10 (span_dec n h').2.1
  · rw [if_neg h]
    unfold impl_RankSpan.f
    by_cases h1 : q < 1
    · simp only [if_pos h1]
      refine EV.succ ?_
      simp only [impl_RankSpan.j0, if_true]
      exact EV.pure _
    · simp only [if_neg h1]
      have : decide (q ≥ 128) = true := by simp; omega
      rw [this]
      refine EV.succ ?_
      simp only [impl_RankSpan.j0, if_true]
      exact EV.pure _

theorem half_dec : ∀ n : Fin 64, 1 ≤ n.val → (spanOf (n.val : Int)).1 = (spanOf (2 * (n.val : Int))).1 ∧ (spanOf (2 * (n.val : Int))).2 + 1 = (spanOf (2 * (n.val : Int) + 1)).1 ∧ (spanOf (2 * (n.val : Int) + 1)).2 = (spanOf (n.val : Int)).2 ∧ (spanOf (2 * (n.val : Int))).2 - (spanOf (2 * (n.val : Int))).1 = (spanOf (2 * (n.val : Int) + 1)).2 - (spanOf (2 * (n.val : Int) + 1)).1 := by
  decide +kernel
theorem leaf_dec : ∀ n : Fin 128, 64 ≤ n.val → spanOf (n.val : Int) = ((n.val : Int) - 64, (n.val : Int) - 64) := by
  decide +kernel
theorem span_half {q : Int} (h1 : 1 ≤ q) (h2 : q ≤ 63) : (spanOf q).1 = (spanOf (2 * q)).1 ∧ (spanOf (2 * q)).2 + 1 = (spanOf (2 * q + 1)).1 ∧ (spanOf (2 * q + 1)).2 = (spanOf q).2 ∧ (spanOf (2 * q)).2 - (spanOf (2 * q)).1 = (spanOf (2 * q + 1)).2 - (spanOf (2 * q + 1)).1 := by
  obtain ⟨n, rfl, h⟩ := nat_of (m := 64) h1 (by omega)
  exact half_dec n h
theorem span_leaf {q : Int} (h1 : 64 ≤ q) (h2 : q ≤ 127) : spanOf q = (q - 64, q - 64) := by
  obtain ⟨n, rfl, _⟩ := nat_of (m := 128) (q := q) (by omega) (by omega)
  exact leaf_dec n (by omega)
/-- Which knots have a thing in their midst: those above it. -/
def onWay (t q : Int) : Prop := q = (64 + t) / 2 ∨ q = (64 + t) / 4 ∨ q = (64 + t) / 8 ∨ q = (64 + t) / 16 ∨ q = (64 + t) / 32 ∨ q = (64 + t) / 64
instance (t q : Int) : Decidable (onWay t q) := by unfold onWay; infer_instance
theorem way_dec : ∀ n : Fin 128, ∀ t : Fin 64, 1 ≤ n.val → (spanOf (n.val : Int)).1 ≤ (t.val : Int) → ¬ (spanOf (n.val : Int)).2 ≤ (t.val : Int) → n.val < 64 ∧ onWay (t.val : Int) (n.val : Int) := by
  decide +kernel
theorem span_way {q t : Int} (h1 : 1 ≤ q) (h2 : q ≤ 127) (t0 : 0 ≤ t) (t1 : t ≤ 63) (a : (spanOf q).1 ≤ t) (b : ¬ (spanOf q).2 ≤ t) : q < 64 ∧ onWay t q := by
  obtain ⟨n, rfl, h⟩ := nat_of (m := 128) h1 (by omega)
  obtain ⟨u, rfl⟩ := Int.eq_ofNat_of_zero_le t0
  have := way_dec n ⟨u, by omega⟩ h a b
  exact ⟨by omega, this.2⟩
/-- Going up from a thing's own knot one comes to a knot of which it is, and to no other. -/
def upTo (q : Int) : Nat → Int → Int
  | 0, x => x
  | d + 1, x => if x > q then upTo q d (x / 2) else x
theorem up_dec : ∀ n : Fin 128, ∀ t : Fin 64, 1 ≤ n.val → decide (upTo (n.val : Int) 7 (64 + (t.val : Int)) = (n.val : Int)) = decide ((spanOf (n.val : Int)).1 ≤ (t.val : Int) ∧ (t.val : Int) ≤ (spanOf (n.val : Int)).2) ∧ ¬ upTo (n.val : Int) 7 (64 + (t.val : Int)) > (n.val : Int) := by
  decide +kernel
theorem span_up {q t : Int} (h1 : 1 ≤ q) (h2 : q ≤ 127) (t0 : 0 ≤ t) (t1 : t ≤ 63) : decide (upTo q 7 (64 + t) = q) = decide ((spanOf q).1 ≤ t ∧ t ≤ (spanOf q).2) ∧ ¬ upTo q 7 (64 + t) > q := by
  obtain ⟨n, rfl, h⟩ := nat_of (m := 128) h1 (by omega)
  obtain ⟨u, rfl⟩ := Int.eq_ofNat_of_zero_le t0
  exact up_dec n ⟨u, by omega⟩ h

theorem drawRankSpan_tot (l : List Int) (h : ∀ x ∈ l, (Lit.int .u8 x).wf = true) : Tot (fun k => spec_DrawRankSpan.f k l) (fun r => -2 ≤ r ∧ r ≤ 129) := by
  obtain ⟨b, hb, e⟩ := open_ev l h
  simp only [spec_DrawRankSpan.f, e, Option.bind_some]
  refine Tot.bind (pick_tot 132 hb (by omega) (by omega) (by omega)) ?_
  rintro ⟨v, q'⟩ ⟨h0, h1, rfl⟩
  simp only at h0 h1
  refine Tot.pure _ ?_
  rw [w64 (by omega) (by omega)]
  omega

end Go.Proofs.Ythijejpdghmmaaa.Ev
