/- The draws of knots (l71Rank and what is drawn with it) tell something for every code: fewer than 1000 knots. No condition. -/
import Derived.Test.YthijejpdghmmaaaThings
import Derived.Test.YthijejpdghmmaaaRankA
import Derived.Test.YthijejpdghmmaaaPAx25
import Derived.Test.YthijejpdghmmaaaPAx27
import Derived.Test.YthijejpdghmmaaaPAx26
import Derived.Test.YthijejpdghmmaaaPAx28
import Derived.Test.YthijejpdghmmaaaPAx29
import Derived.Test.YthijejpdghmmaaaPAx30
import Derived.Test.YthijejpdghmmaaaPAx40
import Derived.Test.YthijejpdghmmaaaPAx41
namespace Go.Proofs.Ythijejpdghmmaaa.Ev
open Go.RowKit Go.Proofs.YthijejpdghmmaaaW.PrintWords Go.Proofs.YthijejpdghmmaaaW.PrintLast Go.Proofs.Ythijejpdghmmaaa.PA

theorem nums_l0 (L : List S43) (hk : Knots L) (hL : L.length < 1125899906842624) : ∀ (suf pre : List S43) (nums : List Int), pre ++ suf = L → nums.length = 128 →
    Tot (fun k => spec_l4Nums.l0 k L nums (pre.length : Int)) (fun r => r.length = 128) := by
  intro suf
  induction suf with
  | nil =>
    intro pre nums e hn
    have hl : L.length = pre.length := by rw [← e]; simp
    refine Tot.succ ?_
    simp only [spec_l4Nums.l0, hl, if_neg (show ¬ (pre.length : Int) < (pre.length : Int) by omega)]
    exact Tot.pure _ hn
  | cons x suf ih =>
    intro pre nums e hn
    have hl : (L.length : Int) = pre.length + suf.length + 1 := by rw [← e]; exact len_mid _ _ _
    have hx : rd_T43 L (pre.length : Int) = x := by rw [← e]; exact rdS_mid _ _ _ _ rfl
    have kx := hk x (by rw [← e]; simp)
    have hst : wrap64 ((pre.length : Int) + 1) = ((pre ++ [x]).length : Int) := by rw [len_snoc]; exact w64 (by omega) (by omega)
    refine Tot.succ ?_
    simp only [spec_l4Nums.l0, hx, if_pos (show (pre.length : Int) < (L.length : Int) by omega), if_pos (show (0 : Int) ≤ (pre.length : Int) by omega), if_pos (show 0 ≤ x.f0 by omega), if_pos (show x.f0 < (nums.length : Int) by omega), hst]
    exact ih (pre ++ [x]) _ (by rw [← app_mid]; exact e) (by simp [hn])
theorem nums_tot (l : List S43) (hk : Knots l) (hL : l.length < 1125899906842624) : Tot (fun k => spec_l4Nums.f k l) (fun r => r.length = 128) := by
  unfold spec_l4Nums.f
  simp only [if_pos (show 128 ≤ 35184372088832 by omega)]
  exact nums_l0 l hk hL l [] _ rfl (by simp)
theorem squeeze_l0 (a : Int) : ∀ (m : Nat) (l : List Int), l.length = 128 → m ≤ 63 → Tot (fun k => spec_l4Squeeze.l0 k l a (2 * (m : Int))) (fun r => r.length = 128) := by
  intro m
  induction m with
  | zero =>
    intro l hl _
    refine Tot.succ ?_
    simp only [spec_l4Squeeze.l0, if_neg (show ¬ 2 * ((0 : Nat) : Int) ≥ 2 by omega)]
    exact Tot.pure _ hl
  | succ m ih =>
    intro l hl hm
    have e1 : wrap64 (2 * ((m + 1 : Nat) : Int) + 1) = 2 * ((m + 1 : Nat) : Int) + 1 := w64 (by omega) (by omega)
    have e2 : wrap64 (Int.tdiv (2 * ((m + 1 : Nat) : Int)) 2) = ((m + 1 : Nat) : Int) := by rw [tdiv2 (by omega), w64 (by omega) (by omega)]; omega
    have e3 : wrap64 (2 * ((m + 1 : Nat) : Int) - 2) = 2 * (m : Int) := by rw [w64 (by omega) (by omega)]; omega
    refine Tot.succ ?_
    simp only [spec_l4Squeeze.l0, e1, e2, e3, if_pos (show 2 * ((m + 1 : Nat) : Int) ≥ 2 by omega), if_pos (show 0 ≤ 2 * ((m + 1 : Nat) : Int) by omega), if_pos (show 2 * ((m + 1 : Nat) : Int) < (l.length : Int) by omega),
      if_pos (show 0 ≤ 2 * ((m + 1 : Nat) : Int) + 1 by omega), if_pos (show 2 * ((m + 1 : Nat) : Int) + 1 < (l.length : Int) by omega), if_pos (show 0 ≤ ((m + 1 : Nat) : Int) by omega), if_pos (show ((m + 1 : Nat) : Int) < (l.length : Int) by omega)]
    by_cases c : wrap64 (rd l (2 * ((m + 1 : Nat) : Int)) + rd l (2 * ((m + 1 : Nat) : Int) + 1)) > 0
    · simp only [if_pos c]
      by_cases d : wrap64 (wrap64 (rd l (2 * ((m + 1 : Nat) : Int)) + rd l (2 * ((m + 1 : Nat) : Int) + 1)) + rd l ((m + 1 : Nat) : Int)) ≤ wrap64 (Int.tdiv a 8)
      · simp only [if_pos d]
        exact ih _ (by simp [hl]) (by omega)
      · simp only [if_neg d]
        exact ih _ hl (by omega)
    · simp only [if_neg c]
      exact ih _ hl (by omega)
theorem squeeze_tot (a : Int) (l : List Int) (hl : l.length = 128) : Tot (fun k => spec_l4Squeeze.f k l a) (fun r => r.length = 128) := by
  unfold spec_l4Squeeze.f
  rw [show wrap64 ((l.length : Int) - 2) = 2 * ((63 : Nat) : Int) by rw [w64 (by omega) (by omega)]; omega]
  exact squeeze_l0 a 63 l hl (by omega)
theorem list_l0 (l : List Int) (hl : l.length = 128) : ∀ (m : Nat) (out : List S43) (i : Int), 0 ≤ i → i + m = 128 → (out.length : Int) ≤ i → Tot (fun k => spec_l4List.l0 k l out i) (fun r => r.length ≤ 128) := by
  intro m
  induction m with
  | zero =>
    intro out i h0 h1 h2
    refine Tot.succ ?_
    simp only [spec_l4List.l0, if_neg (show ¬ i < (l.length : Int) by omega)]
    exact Tot.pure _ (by omega)
  | succ m ih =>
    intro out i h0 h1 h2
    have e1 : wrap64 (i + 1) = i + 1 := w64 (by omega) (by omega)
    refine Tot.succ ?_
    simp only [spec_l4List.l0, e1, if_pos (show i < (l.length : Int) by omega), if_pos h0]
    by_cases c : rd l i > 0
    · simp only [if_pos c, if_pos (show out.length < 8796093022208 by omega)]
      exact ih _ _ (by omega) (by omega) (by simp; omega)
    · simp only [if_neg c]
      exact ih _ _ (by omega) (by omega) (by omega)
theorem list_tot (l : List Int) (hl : l.length = 128) : Tot (fun k => spec_l4List.f k l) (fun r => r.length ≤ 128) :=
  list_l0 l hl 127 [] 1 (by omega) (by omega) (by simp)
theorem rankAdd_tot (l : List S43) (a t : Int) (hl : l.length < 1125899906842624) : Tot (fun k => spec_RankAdd.f k l a t) (fun r => r.1.length ≤ 128) := by
  unfold spec_RankAdd.f
  have stop : Tot (fun k => spec_RankAdd.j0 k t true l a) (fun r => r.1.length ≤ 128) := by
    refine Tot.succ ?_
    simp only [spec_RankAdd.j0, if_true]
    exact Tot.pure _ (by simp)
  refine Tot.bind (Tot.of (spec_RankOk_ev l a hl) rfl) ?_
  rintro _ rfl
  by_cases c : rankOk l a = true
  · simp only [c, if_true, in_eq, Option.bind_some]
    by_cases d : 0 ≤ t ∧ t ≤ 63
    · simp only [decide_eq_true d, if_true]
      by_cases e : a ≥ 2000
      · simp only [decide_eq_true e]
        exact stop
      · simp only [decide_eq_false e]
        have hk := okFrom_knots l 0 0 a (by omega) (rankOk_range c).2.2
        have e1 : wrap64 (64 + t) = 64 + t := w64 (by omega) (by omega)
        refine Tot.succ ?_
        simp only [spec_RankAdd.j0, Bool.false_eq_true, if_false, e1]
        refine Tot.bind (nums_tot l hk hl) ?_
        intro nums hn
        simp only [if_pos (show 0 ≤ 64 + t by omega), if_pos (show 64 + t < (nums.length : Int) by omega)]
        refine Tot.bind (squeeze_tot _ _ (by simp [hn])) ?_
        intro sq hs
        refine Tot.bind (list_tot sq hs) ?_
        intro r hr
        exact Tot.pure _ hr
    · simp only [decide_eq_false d, Bool.false_eq_true, if_false]
      exact stop
  · simp only [c]
    exact stop
theorem l71Rank_l0 {b : List Int} {p : Int} (L : List Int) (hb : Code b) (hp : 0 ≤ p) (hp1 : p ≤ 500000000) (hL : L.length ≤ 10000) : ∀ (suf pre : List Int) (l : List S43) (a : Int), pre ++ suf = L → l.length ≤ 128 →
    Tot (fun k => spec_l71Rank.l0 k L (pre.length : Int) b p l a) (fun r => r.1.length ≤ 200 ∧ p ≤ r.2.2 ∧ r.2.2 ≤ p + 3) := by
  intro suf
  induction suf with
  | nil =>
    intro pre l a e hl
    have hl' : L.length = pre.length := by rw [← e]; simp
    refine Tot.succ ?_
    simp only [spec_l71Rank.l0, hl', if_neg (show ¬ (pre.length : Int) < (pre.length : Int) by omega)]
    refine Tot.bind (pick_tot 24 hb hp (by omega) (by omega)) ?_
    rintro ⟨v, q⟩ ⟨h0, h1, rfl⟩
    simp only at h0 h1
    by_cases c0 : v = 0
    · simp only [if_pos c0]
      exact Tot.pure _ ⟨by simp only; omega, by simp only; omega, by simp only; omega⟩
    simp only [if_neg c0]
    by_cases c1 : v = 1
    · simp only [if_pos c1, Option.bind_some]
      refine Tot.bind (pick_tot 3 hb (by omega) (by omega) (by omega)) ?_
      rintro ⟨v', q⟩ ⟨h0', h1', rfl⟩
      simp only at h0' h1'
      simp only [if_pos h0', if_pos (show l.length < 8796093022208 by omega)]
      rw [if_pos (show v' < (([127, 128, 5] : List Int).length : Int) by simp; omega)]
      exact Tot.pure _ ⟨by simp; omega, by simp only; omega, by simp only; omega⟩
    simp only [if_neg c1]
    by_cases c2 : v = 2
    · simp only [if_pos c2]
      refine Tot.bind (pick_tot 3 hb (by omega) (by omega) (by omega)) ?_
      rintro ⟨v', q⟩ ⟨h0', h1', rfl⟩
      refine Tot.bind (pick_tot 9 hb (by simp only; omega) (by simp only; omega) (by omega)) ?_
      rintro ⟨v'', q⟩ ⟨h0'', h1'', rfl⟩
      simp only [Option.bind_some]
      rw [if_pos (by simp; omega)]
      exact Tot.pure _ ⟨by simp; omega, by simp only; omega, by simp only; omega⟩
    simp only [if_neg c2]
    exact Tot.pure _ ⟨by simp only; omega, by simp only; omega, by simp only; omega⟩
  | cons x suf ih =>
    intro pre l a e hl
    have hl' : (L.length : Int) = pre.length + suf.length + 1 := by rw [← e]; exact len_mid _ _ _
    have hst : wrap64 ((pre.length : Int) + 1) = ((pre ++ [x]).length : Int) := by rw [len_snoc]; exact w64 (by omega) (by omega)
    refine Tot.succ ?_
    simp only [spec_l71Rank.l0, if_pos (show (pre.length : Int) < (L.length : Int) by omega), if_pos (show (0 : Int) ≤ (pre.length : Int) by omega), hst]
    refine Tot.bind (rankAdd_tot l a _ (by omega)) ?_
    rintro ⟨l', a', c'⟩ hr
    exact ih (pre ++ [x]) l' a' (by rw [← app_mid]; exact e) hr
theorem l71Rank_tot {b : List Int} {p : Int} (hb : Code b) (hp : 0 ≤ p) (hp1 : p ≤ 400000000) :
    Tot (fun k => spec_l71Rank.f k b p) (fun r => r.1.length ≤ 200 ∧ p ≤ r.2.2 ∧ r.2.2 ≤ p + 100) := by
  unfold spec_l71Rank.f
  refine Tot.bind (things_tot 40 hb hp (by omega) (by omega) (by omega)) ?_
  rintro ⟨L, q⟩ ⟨h0, _, h1, h2⟩
  simp only at h0 h1 h2
  exact (l71Rank_l0 L hb (by omega) (by omega) (by omega) L [] [] 0 rfl (by simp)).mono fun r hr => ⟨hr.1, by omega, by omega⟩
theorem drawRankOk_tot (l : List Int) (h : ∀ x ∈ l, (Lit.int .u8 x).wf = true) : Tot (fun k => spec_DrawRankOk.f k l) (fun r => r.1.length ≤ 200) := by
  obtain ⟨b, hb, e⟩ := open_ev l h
  simp only [spec_DrawRankOk.f, e, Option.bind_some]
  refine Tot.bind (l71Rank_tot hb (by omega) (by omega)) ?_
  rintro ⟨k, a, q⟩ ⟨h0, h1, h2⟩
  simp only at h0 h1 h2
  refine Tot.bind (pick_tot (p := q) 3 hb h1 (by omega) (by omega)) ?_
  rintro ⟨v, q'⟩ ⟨h0', h1', rfl⟩
  by_cases c0 : v = 0
  · simp only [if_pos c0]
    refine Tot.bind (pick_tot 3 hb (by omega) (by omega) (by omega)) ?_
    intro _ _
    exact Tot.pure _ h0
  · simp only [if_neg c0]
    exact Tot.pure _ h0
theorem drawRankBelow_tot (l : List Int) (h : ∀ x ∈ l, (Lit.int .u8 x).wf = true) : Tot (fun k => spec_DrawRankBelow.f k l) (fun r => r.1.length ≤ 200) := by
  obtain ⟨b, hb, e⟩ := open_ev l h
  simp only [spec_DrawRankBelow.f, spec_DrawRankAdd.f, e, Option.bind_some]
  refine Tot.bind (P := fun r => r.1.length ≤ 200) ?_ ?_
  · refine Tot.bind (l71Rank_tot hb (by omega) (by omega)) ?_
    rintro ⟨k, a, q⟩ ⟨h0, h1, h2⟩
    simp only at h0 h1 h2
    refine Tot.bind (thing_tot (p := q) hb h1 (by omega)) ?_
    intro _ _
    exact Tot.pure _ h0
  · rintro ⟨k, a, q⟩ h0
    exact Tot.pure _ h0
end Go.Proofs.Ythijejpdghmmaaa.Ev
