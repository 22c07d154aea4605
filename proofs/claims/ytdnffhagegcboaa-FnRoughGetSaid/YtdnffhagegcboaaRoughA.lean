/- What the program's and the reference's RoughOk, RoughAll tell: plain functions over lists, the same for both; places. Conditions: rows shorter than 2^40. -/
import Derived.Test.YtdnffhagegcboaaPick
import Derived.Test.YtdnffhagegcboaaPAx7
import Derived.Test.YtdnffhagegcboaaPAx4
import Derived.Test.YtdnffhagegcboaaPAx3
import Derived.Test.YtdnffhagegcboaaPAx6
import Derived.Test.YtdnffhagegcboaaPAx18
namespace Go.Proofs.Ytdnffhagegcboaa.Ev
open Go.RowKit Go.Proofs.YtdnffhagegcboaaW.PrintWords Go.Proofs.YtdnffhagegcboaaW.PrintLast Go.Proofs.Ytdnffhagegcboaa.PA

theorem thing_eq (a : Int) : impl_isThing.f a = some (decide (0 ≤ a ∧ a ≤ 63)) := by
  unfold impl_isThing.f
  by_cases h : a ≥ 0
  · rw [if_pos h]
    by_cases g : a < 64
    · simp [show 0 ≤ a from h, g, show a ≤ 63 by omega]
    · simp [g, show ¬ a ≤ 63 by omega]
  · rw [if_neg h]
    simp [show ¬ 0 ≤ a by omega]

/-! one row -/
def inB (x : Int) : Bool := decide (0 ≤ x ∧ x ≤ 2000)
def rowB (p : List Int) : Bool := decide (p.length = 8) && p.all inB
theorem inB_iff {x : Int} : inB x = true ↔ 0 ≤ x ∧ x ≤ 2000 := by unfold inB; simp
theorem rowB_iff {p : List Int} : rowB p = true ↔ p.length = 8 ∧ ∀ x ∈ p, 0 ≤ x ∧ x ≤ 2000 := by
  unfold rowB
  simp [inB]
theorem sum_bd : ∀ (p : List Int), (∀ x ∈ p, 0 ≤ x ∧ x ≤ 2000) → 0 ≤ p.sum ∧ p.sum ≤ 2000 * (p.length : Int)
  | [], _ => by simp
  | x :: p, h => by
    have := sum_bd p (fun y hy => h y (List.mem_cons_of_mem _ hy))
    have hx := h x (by simp)
    simp only [List.sum_cons, List.length_cons]
    omega
theorem sum_snoc (p : List Int) (x : Int) : (p ++ [x]).sum = p.sum + x := by simp
theorem l1Sum_l0 (L : List Int) (hL : L.length ≤ 1099511627776) (hr : ∀ x ∈ L, 0 ≤ x ∧ x ≤ 2000) : ∀ (suf pre : List Int), pre ++ suf = L →
    EV (fun k => spec_l1Sum.l0 k L pre.sum (pre.length : Int)) L.sum := by
  intro suf
  induction suf with
  | nil =>
    intro pre e
    obtain rfl : pre = L := by simpa using e
    refine EV.succ ?_
    simp only [spec_l1Sum.l0, if_neg (show ¬ (pre.length : Int) < (pre.length : Int) by omega)]
    exact EV.pure _
  | cons x suf ih =>
    intro pre e
    have hl : (L.length : Int) = pre.length + suf.length + 1 := by rw [← e]; exact len_mid _ _ _
    have hx : rd L (pre.length : Int) = x := by rw [← e]; exact rd_mid _ _ _ _ rfl
    have hb := sum_bd pre (fun y hy => hr y (by rw [← e]; simp [hy]))
    have hx' := hr x (by rw [← e]; simp)
    refine EV.succ ?_
    simp only [spec_l1Sum.l0, hx, if_pos (show (pre.length : Int) < (L.length : Int) by omega), if_pos (show (0 : Int) ≤ (pre.length : Int) by omega)]
    rw [w64 (x := pre.sum + x) (by omega) (by omega), w64 (x := (pre.length : Int) + 1) (by omega) (by omega), ← len_snoc pre x, ← sum_snoc]
    exact ih (pre ++ [x]) (by rw [← app_mid]; exact e)
theorem l1Sum_ev (L : List Int) (hL : L.length ≤ 1099511627776) (hr : ∀ x ∈ L, 0 ≤ x ∧ x ≤ 2000) : EV (fun k => spec_l1Sum.f k L) L.sum :=
  l1Sum_l0 L hL hr L [] rfl
theorem l1Sum_row {p : List Int} (h : rowB p = true) : EV (fun k => spec_l1Sum.f k p) p.sum :=
  l1Sum_ev p (by rw [(rowB_iff.1 h).1]; omega) (rowB_iff.1 h).2
def rowAllR (p : List Int) : Int × Bool := if rowB p then (p.sum, decide (p.sum ≤ 2000)) else (0, false)
theorem rowAll_l0 (L : List Int) (hL : L.length = 8) : ∀ (suf pre : List Int), pre ++ suf = L → (∀ x ∈ pre, 0 ≤ x ∧ x ≤ 2000) →
    EV (fun k => impl_rowAll.l0 k pre.sum L (L.length : Int) (pre.length : Int)) (if suf.all inB then (L.sum, decide (L.sum ≤ 2000)) else (0, false)) := by
  intro suf
  induction suf with
  | nil =>
    intro pre e _
    obtain rfl : pre = L := by simpa using e
    refine EV.succ ?_
    simp only [impl_rowAll.l0, if_neg (show ¬ (pre.length : Int) < (pre.length : Int) by omega)]
    exact EV.pure _
  | cons x suf ih =>
    intro pre e hp
    have hl : (L.length : Int) = pre.length + suf.length + 1 := by rw [← e]; exact len_mid _ _ _
    have hx : rd L (pre.length : Int) = x := by rw [← e]; exact rd_mid _ _ _ _ rfl
    have hb := sum_bd pre hp
    refine EV.succ ?_
    simp only [impl_rowAll.l0, hx, if_pos (show (pre.length : Int) < (L.length : Int) by omega), if_pos (show (0 : Int) ≤ (pre.length : Int) by omega)]
    by_cases c1 : x < 0
    · simp only [if_pos c1]
      exact (EV.pure _).cast (by simp [inB, show ¬ 0 ≤ x by omega])
    · simp only [if_neg c1]
      by_cases c2 : x > 2000
      · simp only [if_pos c2]
        exact (EV.pure _).cast (by simp [inB, show ¬ x ≤ 2000 by omega])
      · simp only [if_neg c2]
        rw [w64 (x := pre.sum + x) (by omega) (by omega), w64 (x := (pre.length : Int) + 1) (by omega) (by omega), ← len_snoc pre x, ← sum_snoc]
        refine (ih (pre ++ [x]) (by rw [← app_mid]; exact e) ?_).cast (by simp [inB, show 0 ≤ x by omega, show x ≤ 2000 by omega])
        intro y hy
        rcases List.mem_append.1 hy with hy | hy
        · exact hp y hy
        · obtain rfl := List.mem_singleton.1 hy
          omega
theorem rowAll_ev (p : List Int) : EV (fun k => impl_rowAll.f k p) (rowAllR p) := by
  unfold impl_rowAll.f rowAllR
  by_cases h : (p.length : Int) = 8
  · simp only [if_pos h]
    exact (rowAll_l0 p (by omega) p [] rfl (fun x hx => by cases hx)).cast (by simp [rowB, show p.length = 8 by omega])
  · simp only [if_neg h]
    exact (EV.pure _).cast (by simp [rowB, show ¬ p.length = 8 by omega])

/-! all three -/
def roughB : List (List Int) → Bool
  | [a, b, c] => rowB a && rowB b && rowB c && decide (b.sum = a.sum) && decide (c.sum = a.sum) && decide (a.sum ≤ 2000)
  | _ => false
theorem three {L : List (List Int)} (h : L.length = 3) : ∃ a b c, L = [a, b, c] := by
  match L, h with
  | [a, b, c], _ => exact ⟨a, b, c, rfl⟩
theorem roughB_len {L : List (List Int)} (h : ¬ L.length = 3) : roughB L = false := by
  match L with
  | [] => rfl
  | [_] => rfl
  | [_, _] => rfl
  | [a, b, c] => exact absurd rfl h
  | _ :: _ :: _ :: _ :: _ => rfl
theorem roughB_iff {a b c : List Int} : roughB [a, b, c] = true ↔ rowB a = true ∧ rowB b = true ∧ rowB c = true ∧ b.sum = a.sum ∧ c.sum = a.sum ∧ a.sum ≤ 2000 := by
  unfold roughB
  simp [and_assoc]
theorem roughB_open {L : List (List Int)} (h : roughB L = true) : ∃ a b c, L = [a, b, c] ∧ rowB a = true ∧ rowB b = true ∧ rowB c = true ∧ b.sum = a.sum ∧ c.sum = a.sum ∧ 0 ≤ a.sum ∧ a.sum ≤ 2000 := by
  by_cases e : L.length = 3
  · obtain ⟨a, b, c, rfl⟩ := three e
    obtain ⟨h1, h2, h3, h4, h5, h6⟩ := roughB_iff.1 h
    exact ⟨a, b, c, rfl, h1, h2, h3, h4, h5, (sum_bd a (rowB_iff.1 h1).2).1, h6⟩
  · rw [roughB_len e] at h
    cases h
theorem impl_RoughOk_ev (L : List (List Int)) : EV (fun k => impl_RoughOk.f k L) (roughB L) := by
  unfold impl_RoughOk.f
  by_cases h : (L.length : Int) = 3
  · obtain ⟨a, b, c, rfl⟩ := three (L := L) (by omega)
    simp only [if_pos h, if_pos (show 0 < (([a, b, c] : List (List Int)).length : Int) by simp), show rd_L1 [a, b, c] 0 = a from rfl]
    refine EV.bind (rowAll_ev a) ?_
    have step : ∀ (i : Nat) (p : List Int) (R : Bool), i < 3 → rd_L1 [a, b, c] (i : Int) = p → EV (fun k => impl_RoughOk.l0 k (rowAllR a).1 [a, b, c] 3 ((i + 1 : Nat) : Int)) R →
        EV (fun k => impl_RoughOk.l0 k (rowAllR a).1 [a, b, c] 3 (i : Int)) ((rowAllR p).2 && decide ((rowAllR p).1 = (rowAllR a).1) && R) := by
      intro i p R hi hp hR
      refine EV.succ ?_
      simp only [impl_RoughOk.l0, if_pos (show (i : Int) < 3 by omega), if_pos (show 0 ≤ (i : Int) by omega), if_pos (show (i : Int) < (([a, b, c] : List (List Int)).length : Int) by simp; omega), hp]
      refine EV.bind (rowAll_ev p) ?_
      cases h2 : (rowAllR p).2
      · simp only [Bool.false_eq_true, if_false]
        exact EV.pure _
      · simp only [if_true]
        by_cases h1 : (rowAllR p).1 = (rowAllR a).1
        · simp only [if_pos h1, w64 (x := (i : Int) + 1) (by omega) (by omega)]
          exact hR.cast (by simp [h1])
        · simp only [if_neg h1]
          exact (EV.pure _).cast (by simp [h1])
    have e3 : EV (fun k => impl_RoughOk.l0 k (rowAllR a).1 [a, b, c] 3 ((2 + 1 : Nat) : Int)) true := by
      refine EV.succ ?_
      simp only [impl_RoughOk.l0, if_neg (show ¬ ((2 + 1 : Nat) : Int) < 3 by omega)]
      exact EV.pure _
    refine (step 0 a _ (by omega) rfl (step 1 b _ (by omega) rfl (step 2 c _ (by omega) rfl e3))).cast ?_
    unfold roughB rowAllR
    cases ra : rowB a
    · simp [ra]
    cases rb : rowB b
    · simp [ra, rb]
    cases rc : rowB c
    · simp [ra, rb, rc]
    by_cases g1 : a.sum ≤ 2000 <;> by_cases g2 : b.sum = a.sum <;> by_cases g3 : c.sum = a.sum <;> simp [ra, rb, rc, g1, g2, g3]
  · simp only [if_neg h]
    exact (EV.pure _).cast (roughB_len (by omega)).symm
theorem spec_row_l1 (L : List (List Int)) (i : Int) (p : List Int) (hp : rd_L1 L i = p) (h0 : 0 ≤ i) (h1 : i < (L.length : Int)) (hl8 : p.length = 8) (R : Bool)
    (ht : rowB p = true → EV (fun k => (spec_l1Sum.f k p).bind fun t205 => (if 0 < (L.length : Int) then ((spec_l1Sum.f k (rd_L1 L 0)).bind fun t207 => (if t205 = t207 then ((spec_l1Sum.f k p).bind fun t209 => (if t209 > 2000 then (some false) else (spec_RoughOk.l0 k (wrap64 (i + 1)) L))) else (some false))) else (none))) R) :
    ∀ (suf pre : List Int), pre ++ suf = p → (∀ x ∈ pre, 0 ≤ x ∧ x ≤ 2000) → EV (fun k => spec_RoughOk.l1 k i (pre.length : Int) L) (suf.all inB && R) := by
  intro suf
  induction suf with
  | nil =>
    intro pre e hpre
    obtain rfl : pre = p := by simpa using e
    refine EV.succ ?_
    simp only [spec_RoughOk.l1, if_neg (show ¬ (pre.length : Int) < 8 by omega), if_pos h0, if_pos h1, hp]
    exact (ht (rowB_iff.2 ⟨hl8, hpre⟩)).cast (by simp)
  | cons x suf ih =>
    intro pre e hpre
    have hl : (p.length : Int) = pre.length + suf.length + 1 := by rw [← e]; exact len_mid _ _ _
    have hx : rd p (pre.length : Int) = x := by rw [← e]; exact rd_mid _ _ _ _ rfl
    refine EV.succ ?_
    simp only [spec_RoughOk.l1, if_pos (show (pre.length : Int) < 8 by omega), if_pos h0, if_pos h1, hp, if_pos (show 0 ≤ (pre.length : Int) by omega), if_pos (show (pre.length : Int) < (p.length : Int) by omega), hx, in_eq, Option.bind_some]
    by_cases c : 0 ≤ x ∧ x ≤ 2000
    · simp only [decide_eq_true c, if_true]
      rw [w64 (x := (pre.length : Int) + 1) (by omega) (by omega), ← len_snoc pre x]
      refine (ih (pre ++ [x]) (by rw [← app_mid]; exact e) ?_).cast (by simp [inB, c])
      intro y hy
      rcases List.mem_append.1 hy with hy | hy
      · exact hpre y hy
      · obtain rfl := List.mem_singleton.1 hy
        exact c
    · simp only [decide_eq_false c, Bool.false_eq_true, if_false]
      exact (EV.pure _).cast (by simp only [List.all_cons, inB, decide_eq_false c]; rfl)
theorem spec_row (L : List (List Int)) (a : List Int) (ha : rd_L1 L 0 = a) (i : Int) (p : List Int) (hp : rd_L1 L i = p) (h0 : 0 ≤ i) (h1 : i < 3) (hL : L.length = 3) (R : Bool) (hb : rowB p = true → rowB a = true)
    (hR : EV (fun k => spec_RoughOk.l0 k (i + 1) L) R) : EV (fun k => spec_RoughOk.l0 k i L) (rowB p && decide (p.sum = a.sum) && decide (p.sum ≤ 2000) && R) := by
  refine EV.succ ?_
  simp only [spec_RoughOk.l0, if_pos h1, if_pos h0, if_pos (show i < (L.length : Int) by omega), hp]
  by_cases h8 : (p.length : Int) = 8
  · simp only [if_pos h8]
    have key := spec_row_l1 L i p hp h0 (by omega) (by omega) (decide (p.sum = a.sum) && decide (p.sum ≤ 2000) && R) (fun hr => ?_) p [] rfl (fun x hx => by cases hx)
    · exact key.cast (by simp [rowB, show p.length = 8 by omega, Bool.and_assoc])
    · refine EV.bind (l1Sum_row hr) ?_
      simp only [if_pos (show 0 < (L.length : Int) by omega), ha]
      refine EV.bind (l1Sum_row (hb hr)) ?_
      by_cases g : p.sum = a.sum
      · simp only [if_pos g]
        refine EV.bind (l1Sum_row hr) ?_
        rw [w64 (x := i + 1) (by omega) (by omega)]
        by_cases g2 : p.sum > 2000
        · simp only [if_pos g2]
          exact (EV.pure _).cast (by simp [show ¬ p.sum ≤ 2000 by omega])
        · simp only [if_neg g2]
          exact hR.cast (by simp [g, show a.sum ≤ 2000 by omega])
      · simp only [if_neg g]
        exact (EV.pure _).cast (by simp [g])
  · simp only [if_neg h8]
    exact (EV.pure _).cast (by simp [rowB, show ¬ p.length = 8 by omega])
theorem spec_RoughOk_ev (L : List (List Int)) : EV (fun k => spec_RoughOk.f k L) (roughB L) := by
  unfold spec_RoughOk.f
  by_cases h : (L.length : Int) = 3
  · obtain ⟨a, b, c, rfl⟩ := three (L := L) (by omega)
    simp only [if_pos h]
    cases ra : rowB a
    · have : EV (fun k => spec_RoughOk.l0 k 0 [a, b, c]) false := by
        refine EV.succ ?_
        simp only [spec_RoughOk.l0, if_pos (show (0 : Int) < 3 by omega), if_pos (show (0 : Int) ≤ 0 by omega), if_pos (show (0 : Int) < (([a, b, c] : List (List Int)).length : Int) by simp), show rd_L1 [a, b, c] 0 = a from rfl]
        by_cases h8 : (a.length : Int) = 8
        · simp only [if_pos h8]
          have key := spec_row_l1 [a, b, c] 0 a rfl (by omega) (by simp) (by omega) false (fun hr => by rw [ra] at hr; cases hr) a [] rfl (fun x hx => by cases hx)
          exact key.cast (by simp)
        · simp only [if_neg h8]
          exact EV.pure _
      exact this.cast (by simp [roughB, ra])
    · have e3 : EV (fun k => spec_RoughOk.l0 k (2 + 1) [a, b, c]) true := by
        refine EV.succ ?_
        simp only [spec_RoughOk.l0, if_neg (show ¬ ((2 : Int) + 1) < 3 by omega)]
        exact EV.pure _
      have e2 := spec_row [a, b, c] a rfl 2 c rfl (by omega) (by omega) rfl _ (fun _ => ra) e3
      have e1 := spec_row [a, b, c] a rfl 1 b rfl (by omega) (by omega) rfl _ (fun _ => ra) e2
      have e0 := spec_row [a, b, c] a rfl 0 a rfl (by omega) (by omega) rfl _ (fun _ => ra) e1
      refine e0.cast ?_
      unfold roughB
      rw [ra]
      cases rb : rowB b
      · simp [rb]
      cases rc : rowB c
      · simp [rb, rc]
      by_cases g1 : a.sum ≤ 2000 <;> by_cases g2 : b.sum = a.sum <;> by_cases g3 : c.sum = a.sum <;> simp [ra, rb, rc, g1, g2, g3]
  · simp only [if_neg h]
    exact (EV.pure _).cast (roughB_len (by omega)).symm

end Go.Proofs.Ytdnffhagegcboaa.Ev
