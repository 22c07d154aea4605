/- What RankBelow tells is at most six parts apart. No condition. -/
import Derived.Test.YthijejpdghmmaaaRankA
namespace Go.Proofs.Ythijejpdghmmaaa.Ev
open Go.RowKit Go.Proofs.YthijejpdghmmaaaW.PrintWords Go.Proofs.YthijejpdghmmaaaW.PrintLast Go.Proofs.Ythijejpdghmmaaa.PA

def one (p : Prop) [Decidable p] : Int := if p then 1 else 0
/-- How many knots of the way lie behind b. -/
def left (t b : Int) : Int := one (b < (64 + t) / 2) + one (b < (64 + t) / 4) + one (b < (64 + t) / 8) + one (b < (64 + t) / 16) + one (b < (64 + t) / 32) + one (b < (64 + t) / 64)
theorem one_bd (p : Prop) [Decidable p] : 0 ≤ one p ∧ one p ≤ 1 := by unfold one; split <;> omega
theorem one_le {p q : Prop} [Decidable p] [Decidable q] (h : p → q) : one p ≤ one q := by
  unfold one
  by_cases hp : p
  · rw [if_pos hp, if_pos (h hp)]; omega
  · rw [if_neg hp]; split <;> omega
theorem one_lt {p q : Prop} [Decidable p] [Decidable q] (h : ¬ p) (h' : q) : one p + 1 ≤ one q := by
  unfold one
  rw [if_neg h, if_pos h']; omega
theorem left_bd (t b : Int) : 0 ≤ left t b ∧ left t b ≤ 6 := by
  unfold left
  have h1 := one_bd (b < (64 + t) / 2); have h2 := one_bd (b < (64 + t) / 4); have h3 := one_bd (b < (64 + t) / 8)
  have h4 := one_bd (b < (64 + t) / 16); have h5 := one_bd (b < (64 + t) / 32); have h6 := one_bd (b < (64 + t) / 64)
  omega
theorem left_le (t : Int) {b c : Int} (h : b ≤ c) : left t c ≤ left t b := by
  unfold left
  have h1 := one_le (p := c < (64 + t) / 2) (q := b < (64 + t) / 2) (by omega); have h2 := one_le (p := c < (64 + t) / 4) (q := b < (64 + t) / 4) (by omega)
  have h3 := one_le (p := c < (64 + t) / 8) (q := b < (64 + t) / 8) (by omega); have h4 := one_le (p := c < (64 + t) / 16) (q := b < (64 + t) / 16) (by omega)
  have h5 := one_le (p := c < (64 + t) / 32) (q := b < (64 + t) / 32) (by omega); have h6 := one_le (p := c < (64 + t) / 64) (q := b < (64 + t) / 64) (by omega)
  omega
theorem left_lt (t : Int) {b c : Int} (h : b < c) (w : onWay t c) : left t c + 1 ≤ left t b := by
  unfold left
  have h1 := one_le (p := c < (64 + t) / 2) (q := b < (64 + t) / 2) (by omega); have h2 := one_le (p := c < (64 + t) / 4) (q := b < (64 + t) / 4) (by omega)
  have h3 := one_le (p := c < (64 + t) / 8) (q := b < (64 + t) / 8) (by omega); have h4 := one_le (p := c < (64 + t) / 16) (q := b < (64 + t) / 16) (by omega)
  have h5 := one_le (p := c < (64 + t) / 32) (q := b < (64 + t) / 32) (by omega); have h6 := one_le (p := c < (64 + t) / 64) (q := b < (64 + t) / 64) (by omega)
  rcases w with w | w | w | w | w | w
  · have := one_lt (p := c < (64 + t) / 2) (q := b < (64 + t) / 2) (by omega) (by omega); omega
  · have := one_lt (p := c < (64 + t) / 4) (q := b < (64 + t) / 4) (by omega) (by omega); omega
  · have := one_lt (p := c < (64 + t) / 8) (q := b < (64 + t) / 8) (by omega) (by omega); omega
  · have := one_lt (p := c < (64 + t) / 16) (q := b < (64 + t) / 16) (by omega) (by omega); omega
  · have := one_lt (p := c < (64 + t) / 32) (q := b < (64 + t) / 32) (by omega) (by omega); omega
  · have := one_lt (p := c < (64 + t) / 64) (q := b < (64 + t) / 64) (by omega) (by omega); omega
theorem mul_le_of (m : Int) {x y : Int} (hm : 0 ≤ m) (h : x ≤ y) : m * x ≤ m * y := Int.mul_le_mul_of_nonneg_left h hm
/-- What is told is at most six parts apart. -/
theorem gap (t a : Int) (t0 : 0 ≤ t) (t1 : t ≤ 63) (ha : 0 ≤ a / 8) : ∀ (l : List S43) (b s p q : Int), 0 ≤ b → okFrom l b s a = true → q - p + (a / 8) * left t b ≤ 6 * (a / 8) → p ≤ q →
    (belowS l t p q).1 ≤ (belowS l t p q).2 ∧ (belowS l t p q).2 - (belowS l t p q).1 ≤ 6 * (a / 8) := by
  intro l
  induction l with
  | nil =>
    intro b s p q hb h h1 h2
    have := mul_le_of (a / 8) ha (left_bd t b).1
    unfold belowS
    exact ⟨h2, by simp only; omega⟩
  | cons x l ih =>
    intro b s p q hb h h1 h2
    unfold okFrom at h
    by_cases c : b < x.f0 ∧ x.f0 ≤ 127 ∧ 1 ≤ x.f1 ∧ x.f1 ≤ 2000 ∧ (64 ≤ x.f0 ∨ x.f1 ≤ a / 8)
    · rw [if_pos c] at h
      have r := span_range (q := x.f0) (by omega) c.2.1
      have m1 := mul_le_of (a / 8) ha (left_le t (b := b) (c := x.f0) (by omega))
      unfold belowS
      by_cases c1 : (spanOf x.f0).2 ≤ t
      · rw [if_pos c1, if_pos (by omega)]
        exact ih x.f0 (s + x.f1) _ _ (by omega) h (by omega) (by omega)
      · rw [if_neg c1]
        by_cases c2 : (spanOf x.f0).1 ≤ t
        · rw [if_pos c2]
          have w := span_way (q := x.f0) (by omega) c.2.1 t0 t1 c2 c1
          have m2 := mul_le_of (a / 8) ha (left_lt t (b := b) (c := x.f0) c.1 w.2)
          rw [Int.mul_add, Int.mul_one] at m2
          exact ih x.f0 (s + x.f1) _ _ (by omega) h (by omega) (by omega)
        · rw [if_neg c2]
          exact ih x.f0 (s + x.f1) _ _ (by omega) h (by omega) h2
    · rw [if_neg c] at h
      cases h
theorem gap_all {l : List S43} {a t : Int} (h : rankOk l a = true) (t0 : 0 ≤ t) (t1 : t ≤ 63) :
    (belowS l t 0 0).1 ≤ (belowS l t 0 0).2 ∧ (belowS l t 0 0).2 - (belowS l t 0 0).1 ≤ 6 * (a / 8) := by
  obtain ⟨a0, a1, ok⟩ := rankOk_range h
  have ha : 0 ≤ a / 8 := by omega
  have := mul_le_of (a / 8) ha (left_bd t 0).2
  exact gap t a t0 t1 ha l 0 0 0 0 (by omega) ok (by omega) (by omega)
end Go.Proofs.Ythijejpdghmmaaa.Ev
