/- What the program's and the reference's RankOk and RankBelow tell: plain functions over lists, the same for both. Conditions: lists shorter than 2^50. -/
import Derived.Test.YthijejpdghmmaaaRankS
import Derived.Test.YthijejpdghmmaaaPAx14
import Derived.Test.YthijejpdghmmaaaPAx18
import Derived.Test.YthijejpdghmmaaaPAx32
import Derived.Test.YthijejpdghmmaaaPAx35
import Derived.Test.YthijejpdghmmaaaPAx34
import Derived.Test.YthijejpdghmmaaaPAx33
namespace Go.Proofs.Ythijejpdghmmaaa.Ev
open Go.RowKit Go.Proofs.YthijejpdghmmaaaW.PrintWords Go.Proofs.YthijejpdghmmaaaW.PrintLast Go.Proofs.Ythijejpdghmmaaa.PA

/-! RankOk -/
def okFrom : List S43 → Int → Int → Int → Bool
  | [], _, s, a => s == a
  | x :: l, b, s, a => if b < x.f0 ∧ x.f0 ≤ 127 ∧ 1 ≤ x.f1 ∧ x.f1 ≤ 2000 ∧ (64 ≤ x.f0 ∨ x.f1 ≤ a / 8) then okFrom l x.f0 (s + x.f1) a else false
def rankOk (l : List S43) (a : Int) : Bool := if 0 ≤ a ∧ a ≤ 2000 then okFrom l 0 0 a else false
theorem rdS_mid (pre suf : List S43) (x : S43) (i : Int) (h : i = (pre.length : Int)) : rd_T43 (pre ++ x :: suf) i = x := by
  subst h
  unfold rd_T43
  rw [Int.toNat_natCast]
  exact getD_mid _ _ _ _
theorem rdS_last (pre suf : List S43) (y : S43) (i : Int) (h : i = (pre.length : Int)) : rd_T43 ((pre ++ [y]) ++ suf) i = y := by
  rw [← app_mid]
  exact rdS_mid _ _ _ _ h
theorem false_and1 {p : Prop} [Decidable p] (h : ¬ p) {α : Type} (a b : α) : (if p then a else b) = b := if_neg h

theorem impl_RankOk_l0 (a : Int) (L : List S43) (ha : 0 ≤ a ∧ a ≤ 2000) (hL : L.length < 1125899906842624) : ∀ (suf pre : List S43) (b s : Int), pre ++ suf = L → 0 ≤ s → s ≤ 2000 * pre.length →
    EV (fun k => impl_RankOk.l0 k b s L (L.length : Int) (pre.length : Int) L a) (okFrom suf b s a) := by
  intro suf
  induction suf with
  | nil =>
    intro pre b s e h0 h1
    have hl : L.length = pre.length := by rw [← e]; simp
    refine EV.succ ?_
    simp only [impl_RankOk.l0, hl, if_neg (show ¬ (pre.length : Int) < (pre.length : Int) by omega)]
    exact EV.pure _
  | cons x suf ih =>
    intro pre b s e h0 h1
    have hl : (L.length : Int) = pre.length + suf.length + 1 := by rw [← e]; exact len_mid _ _ _
    have hx : rd_T43 L (pre.length : Int) = x := by rw [← e]; exact rdS_mid _ _ _ _ rfl
    have h8 : wrap64 (Int.tdiv a 8) = a / 8 := by rw [tdiv8 ha.1]; exact w64 (by omega) (by omega)
    have stop : ∀ q r : Int, EV (fun k => impl_RankOk.j2 k s L (L.length : Int) (pre.length : Int) true L a q r) false := by
      intro q r
      refine EV.succ ?_
      simp only [impl_RankOk.j2, if_true]
      exact EV.pure _
    refine EV.succ ?_
    simp only [impl_RankOk.l0, hx, if_pos (show (pre.length : Int) < (L.length : Int) by omega), if_pos (show (0 : Int) ≤ (pre.length : Int) by omega)]
    by_cases c1 : x.f0 ≤ b
    · simp only [if_pos c1]
      exact (stop _ _).cast (by unfold okFrom; rw [if_neg (by omega)])
    simp only [if_neg c1]
    by_cases c2 : x.f0 ≥ 128
    · simp only [if_pos c2]
      exact (stop _ _).cast (by unfold okFrom; rw [if_neg (by omega)])
    simp only [if_neg c2]
    by_cases c3 : x.f1 < 1
    · simp only [if_pos c3]
      exact (stop _ _).cast (by unfold okFrom; rw [if_neg (by omega)])
    simp only [if_neg c3]
    by_cases c4 : x.f1 > 2000
    · simp only [decide_eq_true c4]
      exact (stop _ _).cast (by unfold okFrom; rw [if_neg (by omega)])
    simp only [decide_eq_false c4]
    refine EV.succ ?_
    have go : EV (fun k => impl_RankOk.l0 k x.f0 (wrap64 (s + x.f1)) L (L.length : Int) (wrap64 ((pre.length : Int) + 1)) L a) (okFrom suf x.f0 (s + x.f1) a) := by
      rw [w64 (x := s + x.f1) (by omega) (by omega), w64 (x := (pre.length : Int) + 1) (by omega) (by omega), ← len_snoc pre x]
      exact ih (pre ++ [x]) x.f0 (s + x.f1) (by rw [← app_mid]; exact e) (by omega) (by rw [len_snoc]; omega)
    simp only [impl_RankOk.j2, Bool.false_eq_true, if_false, h8]
    by_cases c5 : x.f0 < 64
    · simp only [if_pos c5]
      by_cases c6 : x.f1 > a / 8
      · simp only [if_pos c6]
        exact (EV.pure false).cast (by unfold okFrom; rw [if_neg (by omega)])
      · simp only [if_neg c6]
        exact go.cast (by conv => rhs; unfold okFrom; rw [if_pos (by omega)])
    · simp only [if_neg c5]
      exact go.cast (by conv => rhs; unfold okFrom; rw [if_pos (by omega)])

theorem impl_RankOk_ev (l : List S43) (a : Int) (hl : l.length < 1125899906842624) : EV (fun k => impl_RankOk.f k l a) (rankOk l a) := by
  unfold impl_RankOk.f rankOk
  have stop : EV (fun k => impl_RankOk.j0 k true l a) false := by
    refine EV.succ ?_
    simp only [impl_RankOk.j0, if_true]
    exact EV.pure _
  by_cases c1 : a < 0
  · simp only [if_pos c1]
    exact stop.cast (by rw [if_neg (by omega)])
  · simp only [if_neg c1]
    by_cases c2 : a > 2000
    · simp only [decide_eq_true c2]
      exact stop.cast (by rw [if_neg (by omega)])
    · simp only [decide_eq_false c2]
      refine EV.succ ?_
      simp only [impl_RankOk.j0, Bool.false_eq_true, if_false]
      rw [if_pos (by omega)]
      exact impl_RankOk_l0 a l (by omega) hl l [] 0 0 rfl (by omega) (by simp)

theorem spec_RankOk_l0 (a : Int) (L : List S43) (ha : 0 ≤ a ∧ a ≤ 2000) (hL : L.length < 1125899906842624) : ∀ (suf pre : List S43) (b s : Int), pre ++ suf = L → 0 ≤ s → s ≤ 2000 * pre.length → 0 ≤ b →
    ((pre = [] ∧ b = 0) ∨ ∃ p y, pre = p ++ [y] ∧ y.f0 = b) → EV (fun k => spec_RankOk.l0 k s (pre.length : Int) L a) (okFrom suf b s a) := by
  intro suf
  induction suf with
  | nil =>
    intro pre b s e h0 h1 _ _
    have hl : L.length = pre.length := by rw [← e]; simp
    refine EV.succ ?_
    simp only [spec_RankOk.l0, hl, if_neg (show ¬ (pre.length : Int) < (pre.length : Int) by omega)]
    exact EV.pure _
  | cons x suf ih =>
    intro pre b s e h0 h1 hb hp
    have hl : (L.length : Int) = pre.length + suf.length + 1 := by rw [← e]; exact len_mid _ _ _
    have hx : rd_T43 L (pre.length : Int) = x := by rw [← e]; exact rdS_mid _ _ _ _ rfl
    have h8 : wrap64 (Int.tdiv a 8) = a / 8 := by rw [tdiv8 ha.1]; exact w64 (by omega) (by omega)
    have go : b < x.f0 → x.f0 ≤ 127 → 1 ≤ x.f1 → x.f1 ≤ 2000 → EV (fun k => if x.f0 < 64 then (if x.f1 > a / 8 then some false else spec_RankOk.l0 k (wrap64 (s + x.f1)) (wrap64 ((pre.length : Int) + 1)) L a) else spec_RankOk.l0 k (wrap64 (s + x.f1)) (wrap64 ((pre.length : Int) + 1)) L a) (okFrom (x :: suf) b s a) := by
      intro d1 d2 d3 d4
      have g : EV (fun k => spec_RankOk.l0 k (wrap64 (s + x.f1)) (wrap64 ((pre.length : Int) + 1)) L a) (okFrom suf x.f0 (s + x.f1) a) := by
        rw [w64 (x := s + x.f1) (by omega) (by omega), w64 (x := (pre.length : Int) + 1) (by omega) (by omega), ← len_snoc pre x]
        exact ih (pre ++ [x]) x.f0 (s + x.f1) (by rw [← app_mid]; exact e) (by omega) (by rw [len_snoc]; omega) (by omega) (.inr ⟨pre, x, rfl, rfl⟩)
      by_cases c5 : x.f0 < 64
      · simp only [if_pos c5]
        by_cases c6 : x.f1 > a / 8
        · simp only [if_pos c6]
          exact (EV.pure false).cast (by unfold okFrom; rw [if_neg (by omega)])
        · simp only [if_neg c6]
          exact g.cast (by conv => rhs; unfold okFrom; rw [if_pos (by omega)])
      · simp only [if_neg c5]
        exact g.cast (by conv => rhs; unfold okFrom; rw [if_pos (by omega)])
    refine EV.succ ?_
    simp only [spec_RankOk.l0, hx, if_pos (show (pre.length : Int) < (L.length : Int) by omega), if_pos (show (0 : Int) ≤ (pre.length : Int) by omega), in_eq, Option.bind_some, h8]
    by_cases c1 : 1 ≤ x.f0 ∧ x.f0 ≤ 127
    · simp only [decide_eq_true c1, if_true]
      by_cases c2 : 1 ≤ x.f1 ∧ x.f1 ≤ 2000
      · simp only [decide_eq_true c2, if_true]
        rcases hp with ⟨rfl, rfl⟩ | ⟨p, y, rfl, rfl⟩
        · simp only [List.length_nil, Int.natCast_zero, if_neg (show ¬ (0 : Int) > 0 by omega)]
          simpa using go (by omega) c1.2 c2.1 c2.2
        · have hp1 : ((p ++ [y]).length : Int) = p.length + 1 := len_snoc _ _
          have hy : rd_T43 L (wrap64 (((p ++ [y]).length : Int) - 1)) = y := by rw [← e]; exact rdS_last _ _ _ _ (by rw [w64 (by omega) (by omega)]; omega)
          have hw : wrap64 (((p ++ [y]).length : Int) - 1) = p.length := by rw [w64 (by omega) (by omega)]; omega
          simp only [if_pos (show ((p ++ [y]).length : Int) > 0 by omega), hw, if_pos (show (0 : Int) ≤ (p.length : Int) by omega), if_pos (show (p.length : Int) < (L.length : Int) by omega)]
          rw [hw] at hy
          simp only [hy]
          by_cases c3 : y.f0 ≥ x.f0
          · simp only [if_pos c3]
            exact (EV.pure false).cast (by unfold okFrom; rw [if_neg (by omega)])
          · simp only [if_neg c3]
            exact go (by omega) c1.2 c2.1 c2.2
      · simp only [decide_eq_false c2, Bool.false_eq_true, if_false]
        exact (EV.pure false).cast (by unfold okFrom; rw [if_neg (by omega)])
    · simp only [decide_eq_false c1, Bool.false_eq_true, if_false]
      exact (EV.pure false).cast (by unfold okFrom; rw [if_neg (by omega)])

theorem spec_RankOk_ev (l : List S43) (a : Int) (hl : l.length < 1125899906842624) : EV (fun k => spec_RankOk.f k l a) (rankOk l a) := by
  unfold spec_RankOk.f rankOk
  simp only [in_eq, Option.bind_some]
  by_cases c : 0 ≤ a ∧ a ≤ 2000
  · simp only [decide_eq_true c, if_true]
    rw [if_pos c]
    exact spec_RankOk_l0 a l c hl l [] 0 0 rfl (by omega) (by simp) (by omega) (.inl ⟨rfl, rfl⟩)
  · simp only [decide_eq_false c, Bool.false_eq_true, if_false]
    rw [if_neg c]
    exact EV.pure _

/-! what is ok -/
def Knots (l : List S43) : Prop := ∀ x ∈ l, 1 ≤ x.f0 ∧ x.f0 ≤ 127 ∧ 1 ≤ x.f1 ∧ x.f1 ≤ 2000
theorem okFrom_knots : ∀ (l : List S43) (b s a : Int), 0 ≤ b → okFrom l b s a = true → Knots l
  | [], _, _, _, _, _ => fun x hx => by cases hx
  | x :: l, b, s, a, hb, h => by
    unfold okFrom at h
    by_cases c : b < x.f0 ∧ x.f0 ≤ 127 ∧ 1 ≤ x.f1 ∧ x.f1 ≤ 2000 ∧ (64 ≤ x.f0 ∨ x.f1 ≤ a / 8)
    · rw [if_pos c] at h
      have ih := okFrom_knots l x.f0 (s + x.f1) a (by omega) h
      intro y hy
      rcases List.mem_cons.1 hy with rfl | hy
      · omega
      · exact ih y hy
    · rw [if_neg c] at h
      cases h
theorem rankOk_range {l : List S43} {a : Int} (h : rankOk l a = true) : 0 ≤ a ∧ a ≤ 2000 ∧ okFrom l 0 0 a = true := by
  unfold rankOk at h
  by_cases c : 0 ≤ a ∧ a ≤ 2000
  · rw [if_pos c] at h
    exact ⟨c.1, c.2, h⟩
  · rw [if_neg c] at h
    cases h

/-! RankBelow -/
def belowS : List S43 → Int → Int → Int → Int × Int
  | [], _, p, q => (p, q)
  | x :: l, t, p, q => belowS l t (if (spanOf x.f0).2 ≤ t then p + x.f1 else p) (if (spanOf x.f0).1 ≤ t then q + x.f1 else q)
theorem impl_upTo_l0 (t : Int) (L : List S43) (hk : Knots L) (hL : L.length < 1125899906842624) : ∀ (suf pre : List S43) (p q : Int), pre ++ suf = L → 0 ≤ p → p ≤ 2000 * pre.length → 0 ≤ q → q ≤ 2000 * pre.length →
    EV (fun k => impl_Rank_upTo.l0 k t p q L (L.length : Int) (pre.length : Int)) (belowS suf t p q) := by
  intro suf
  induction suf with
  | nil =>
    intro pre p q e _ _ _ _
    have hl : L.length = pre.length := by rw [← e]; simp
    refine EV.succ ?_
    simp only [impl_Rank_upTo.l0, hl, if_neg (show ¬ (pre.length : Int) < (pre.length : Int) by omega)]
    exact EV.pure _
  | cons x suf ih =>
    intro pre p q e p0 p1 q0 q1
    have hl : (L.length : Int) = pre.length + suf.length + 1 := by rw [← e]; exact len_mid _ _ _
    have hx : rd_T43 L (pre.length : Int) = x := by rw [← e]; exact rdS_mid _ _ _ _ rfl
    have kx := hk x (by rw [← e]; simp)
    have hs : EV (fun k => impl_RankSpan.f k x.f0) (spanOf x.f0) := (impl_RankSpan_ev x.f0).cast (by unfold spanAt; rw [if_pos ⟨kx.1, kx.2.1⟩])
    refine EV.succ ?_
    simp only [impl_Rank_upTo.l0, hx, if_pos (show (pre.length : Int) < (L.length : Int) by omega), if_pos (show (0 : Int) ≤ (pre.length : Int) by omega)]
    refine EV.bind hs ?_
    have hst : wrap64 ((pre.length : Int) + 1) = ((pre ++ [x]).length : Int) := by rw [len_snoc]; exact w64 (by omega) (by omega)
    simp only [w64 (x := p + x.f1) (by omega) (by omega), w64 (x := q + x.f1) (by omega) (by omega), hst]
    have e' : (pre ++ [x]) ++ suf = L := by rw [← app_mid]; exact e
    have hn := len_snoc pre x
    unfold belowS
    by_cases c1 : (spanOf x.f0).2 ≤ t <;> by_cases c2 : (spanOf x.f0).1 ≤ t <;> simp only [c1, c2, if_true, if_false]
    all_goals (refine ih (pre ++ [x]) _ _ e' ?_ ?_ ?_ ?_ <;> omega)
theorem impl_upTo_ev (l : List S43) (a t : Int) (hk : Knots l) (hL : l.length < 1125899906842624) : EV (fun k => impl_Rank_upTo.f k l a t) (belowS l t 0 0) :=
  impl_upTo_l0 t l hk hL l [] 0 0 rfl (by omega) (by simp) (by omega) (by simp)
def belowR (l : List S43) (a t : Int) : Int × Int := if rankOk l a = true ∧ 0 ≤ t ∧ t ≤ 63 then belowS l t 0 0 else (-1, -1)
theorem thing_eq (t : Int) : impl_isThing.f t = some (decide (0 ≤ t ∧ t ≤ 63)) := by
  unfold impl_isThing.f
  by_cases h : t ≥ 0
  · rw [if_pos h]
    congr 1
    apply decide_eq_decide.2
    omega
  · rw [if_neg h, decide_eq_false (by omega)]
theorem impl_RankBelow_ev (l : List S43) (a t : Int) (hL : l.length < 1125899906842624) : EV (fun k => impl_RankBelow.f k l a t) (belowR l a t) := by
  unfold impl_RankBelow.f belowR
  refine EV.bind (impl_RankOk_ev l a hL) ?_
  by_cases c : rankOk l a = true
  · simp only [c, if_true, thing_eq, Option.bind_some]
    by_cases d : 0 ≤ t ∧ t ≤ 63
    · simp only [decide_eq_true d, if_true]
      rw [if_pos ⟨trivial, d⟩]
      exact EV.bind (impl_upTo_ev l a t (okFrom_knots l 0 0 a (by omega) (rankOk_range c).2.2) hL) (EV.pure _)
    · simp only [decide_eq_false d, Bool.false_eq_true, if_false]
      rw [if_neg (fun h => d h.2)]
      exact EV.pure _
  · simp only [c]
    exact (EV.pure (-1, -1)).cast (by rw [if_neg (fun h => by cases h.1)])
theorem spec_RankBelow_l0 (a t : Int) (L : List S43) (hk : Knots L) (hL : L.length < 1125899906842624) : ∀ (suf pre : List S43) (p q : Int), pre ++ suf = L → 0 ≤ p → p ≤ 2000 * pre.length → 0 ≤ q → q ≤ 2000 * pre.length →
    EV (fun k => spec_RankBelow.l0 k t p q (pre.length : Int) L a) (belowS suf t p q) := by
  intro suf
  induction suf with
  | nil =>
    intro pre p q e _ _ _ _
    have hl : L.length = pre.length := by rw [← e]; simp
    refine EV.succ ?_
    simp only [spec_RankBelow.l0, hl, if_neg (show ¬ (pre.length : Int) < (pre.length : Int) by omega)]
    exact EV.pure _
  | cons x suf ih =>
    intro pre p q e p0 p1 q0 q1
    have hl : (L.length : Int) = pre.length + suf.length + 1 := by rw [← e]; exact len_mid _ _ _
    have hx : rd_T43 L (pre.length : Int) = x := by rw [← e]; exact rdS_mid _ _ _ _ rfl
    have kx := hk x (by rw [← e]; simp)
    refine EV.succ ?_
    simp only [spec_RankBelow.l0, hx, if_pos (show (pre.length : Int) < (L.length : Int) by omega), if_pos (show (0 : Int) ≤ (pre.length : Int) by omega)]
    refine EV.bind (spec_l4Span_ev kx.1 kx.2.1) ?_
    have hst : wrap64 ((pre.length : Int) + 1) = ((pre ++ [x]).length : Int) := by rw [len_snoc]; exact w64 (by omega) (by omega)
    simp only [w64 (x := p + x.f1) (by omega) (by omega), w64 (x := q + x.f1) (by omega) (by omega), hst]
    have e' : (pre ++ [x]) ++ suf = L := by rw [← app_mid]; exact e
    have hn := len_snoc pre x
    unfold belowS
    by_cases c1 : (spanOf x.f0).2 ≤ t <;> by_cases c2 : (spanOf x.f0).1 ≤ t <;> simp only [c1, c2, if_true, if_false]
    all_goals (refine ih (pre ++ [x]) _ _ e' ?_ ?_ ?_ ?_ <;> omega)
theorem spec_RankBelow_ev (l : List S43) (a t : Int) (hL : l.length < 1125899906842624) : EV (fun k => spec_RankBelow.f k l a t) (belowR l a t) := by
  unfold spec_RankBelow.f belowR
  have stop : EV (fun k => spec_RankBelow.j0 k t true l a) (-1, -1) := by
    refine EV.succ ?_
    simp only [spec_RankBelow.j0, if_true]
    exact EV.pure _
  refine EV.bind (spec_RankOk_ev l a hL) ?_
  by_cases c : rankOk l a = true
  · simp only [c, if_true, in_eq, Option.bind_some]
    by_cases d : 0 ≤ t ∧ t ≤ 63
    · simp only [decide_eq_true d, Bool.not_true]
      rw [if_pos ⟨trivial, d⟩]
      refine EV.succ ?_
      simp only [spec_RankBelow.j0, Bool.false_eq_true, if_false]
      exact spec_RankBelow_l0 a t l (okFrom_knots l 0 0 a (by omega) (rankOk_range c).2.2) hL l [] 0 0 rfl (by omega) (by simp) (by omega) (by simp)
    · simp only [decide_eq_false d, Bool.not_false]
      rw [if_neg (fun h => d h.2)]
      exact stop
  · simp only [c]
    exact stop.cast (by rw [if_neg (fun h => by cases h.1)])

/-! up to the last thing it is all -/
theorem belowS_add : ∀ (l : List S43) (t p q : Int), belowS l t p q = ((belowS l t 0 0).1 + p, (belowS l t 0 0).2 + q)
  | [], t, p, q => by simp [belowS]
  | x :: l, t, p, q => by
    unfold belowS
    rw [belowS_add l t (if (spanOf x.f0).2 ≤ t then p + x.f1 else p), belowS_add l t (if (spanOf x.f0).2 ≤ t then 0 + x.f1 else 0)]
    by_cases c1 : (spanOf x.f0).2 ≤ t <;> by_cases c2 : (spanOf x.f0).1 ≤ t <;> simp only [c1, c2, if_true, if_false, Prod.mk.injEq] <;> constructor <;> omega
theorem belowS_all : ∀ (l : List S43) (b s a : Int), 0 ≤ b → okFrom l b s a = true → belowS l 63 s s = (a, a)
  | [], b, s, a, _, h => by
    unfold okFrom at h
    have : s = a := by simpa using h
    simp [belowS, this]
  | x :: l, b, s, a, hb, h => by
    unfold okFrom at h
    by_cases c : b < x.f0 ∧ x.f0 ≤ 127 ∧ 1 ≤ x.f1 ∧ x.f1 ≤ 2000 ∧ (64 ≤ x.f0 ∨ x.f1 ≤ a / 8)
    · rw [if_pos c] at h
      have r := span_range (q := x.f0) (by omega) c.2.1
      unfold belowS
      rw [if_pos r.2.2, if_pos (by omega)]
      exact belowS_all l x.f0 (s + x.f1) a (by omega) h
    · rw [if_neg c] at h
      cases h

end Go.Proofs.Ythijejpdghmmaaa.Ev
