/- The exact laws' own functions over roughs (szRough, toRough, eqRough); lkInts, lkRough of the same. Conditions: rows of at most 2^63 - 1. -/
import Derived.Test.YtdnffhagegcboaaEv
import Derived.Test.YtdnffhagegcboaaPAx26
import Derived.Test.YtdnffhagegcboaaPAx31
import Derived.Test.YtdnffhagegcboaaPAx16
namespace Go.Proofs.Ytdnffhagegcboaa.Ev
open Go.RowKit Go.Proofs.YtdnffhagegcboaaW.PrintWords Go.Proofs.YtdnffhagegcboaaW.PrintLast Go.Proofs.Ytdnffhagegcboaa.PA

theorem rdL_mid (pre suf : List (List Int)) (x : List Int) (i : Int) (h : i = (pre.length : Int)) : rd_L2 (pre ++ x :: suf) i = x := by
  subst h
  unfold rd_L2
  rw [Int.toNat_natCast]
  exact getD_mid _ _ _ _
theorem toIntS_l0 (L : List Int) (hL : L.length < 1125899906842624) : ∀ (suf pre : List Int), pre ++ suf = L →
    EV (fun k => laws_toIntS.l0 k L (pre ++ List.replicate suf.length 0) (pre.length : Int)) L := by
  intro suf
  induction suf with
  | nil =>
    intro pre e
    obtain rfl : pre = L := by simpa using e
    refine EV.succ ?_
    simp only [laws_toIntS.l0, if_neg (show ¬ (pre.length : Int) < (pre.length : Int) by omega)]
    exact (EV.pure _).cast (by simp)
  | cons x suf ih =>
    intro pre e
    have hl : (L.length : Int) = pre.length + suf.length + 1 := by rw [← e]; exact len_mid _ _ _
    have hx : rd L (pre.length : Int) = x := by rw [← e]; exact rd_mid _ _ _ _ rfl
    have hs : (pre ++ List.replicate (x :: suf).length 0).set (pre.length : Int).toNat x = (pre ++ [x]) ++ List.replicate suf.length 0 := by
      rw [List.length_cons, List.replicate_succ, set_mid _ _ _ _ _ (by simp)]
      simp
    have hn : (pre.length : Int) < ((pre ++ List.replicate (x :: suf).length 0).length : Int) := by simp; omega
    refine EV.succ ?_
    simp only [laws_toIntS.l0, hx, if_pos (show (pre.length : Int) < (L.length : Int) by omega), if_pos (show (0 : Int) ≤ (pre.length : Int) by omega), if_pos hn, hs]
    rw [w64 (x := (pre.length : Int) + 1) (by omega) (by omega), ← len_snoc pre x]
    exact ih (pre ++ [x]) (by rw [← app_mid]; exact e)
theorem toIntS_ev (l : List Int) (h : l.length ≤ 1048576) : EV (fun k => laws_toIntS.f k l) l := by
  unfold laws_toIntS.f
  simp only [if_pos (show 0 ≤ (l.length : Int) by omega), Int.toNat_natCast, if_pos (show l.length ≤ 35184372088832 by omega)]
  exact toIntS_l0 l (by omega) l [] rfl
theorem toIntSS_l0 (L : List (List Int)) (hL : L.length < 1125899906842624) (hi : ∀ x ∈ L, x.length ≤ 1048576) : ∀ (suf pre : List (List Int)), pre ++ suf = L →
    EV (fun k => laws_toIntSS.l0 k L (pre ++ List.replicate suf.length []) (pre.length : Int)) L := by
  intro suf
  induction suf with
  | nil =>
    intro pre e
    obtain rfl : pre = L := by simpa using e
    refine EV.succ ?_
    simp only [laws_toIntSS.l0, if_neg (show ¬ (pre.length : Int) < (pre.length : Int) by omega)]
    exact (EV.pure _).cast (by simp)
  | cons x suf ih =>
    intro pre e
    have hl : (L.length : Int) = pre.length + suf.length + 1 := by rw [← e]; exact len_mid _ _ _
    have hx : rd_L2 L (pre.length : Int) = x := by rw [← e]; exact rdL_mid _ _ _ _ rfl
    have hs : (pre ++ List.replicate (x :: suf).length []).set (pre.length : Int).toNat x = (pre ++ [x]) ++ List.replicate suf.length [] := by
      rw [List.length_cons, List.replicate_succ, set_mid _ _ _ _ _ (by simp)]
      simp
    have hn : (pre.length : Int) < ((pre ++ List.replicate (x :: suf).length ([] : List Int)).length : Int) := by simp; omega
    refine EV.succ ?_
    simp only [laws_toIntSS.l0, hx, if_pos (show (pre.length : Int) < (L.length : Int) by omega), if_pos (show (0 : Int) ≤ (pre.length : Int) by omega)]
    refine EV.bind (toIntS_ev x (hi x (by rw [← e]; simp))) ?_
    simp only [if_pos hn, hs]
    rw [w64 (x := (pre.length : Int) + 1) (by omega) (by omega), ← len_snoc pre x]
    exact ih (pre ++ [x]) (by rw [← app_mid]; exact e)
theorem toRough_ev (l : List (List Int)) (h : l.length ≤ 1048576) (hi : ∀ x ∈ l, x.length ≤ 1048576) : EV (fun k => laws_toRough.f k l) l := by
  unfold laws_toRough.f laws_toIntSS.f
  simp only [if_pos (show 0 ≤ (l.length : Int) by omega), Int.toNat_natCast, if_pos (show l.length ≤ 11728124029610 by omega)]
  refine EV.bind (toIntSS_l0 l (by omega) hi l [] rfl) ?_
  exact EV.pure _
theorem eqIntS_l0 (L : List Int) (hL : L.length < 1125899906842624) : ∀ (suf pre : List Int), pre ++ suf = L → EV (fun k => laws_eqIntS.l0 k L L (pre.length : Int)) true := by
  intro suf
  induction suf with
  | nil =>
    intro pre e
    obtain rfl : pre = L := by simpa using e
    refine EV.succ ?_
    simp only [laws_eqIntS.l0, if_neg (show ¬ (pre.length : Int) < (pre.length : Int) by omega)]
    exact EV.pure _
  | cons x suf ih =>
    intro pre e
    have hl : (L.length : Int) = pre.length + suf.length + 1 := by rw [← e]; exact len_mid _ _ _
    refine EV.succ ?_
    simp only [laws_eqIntS.l0, if_pos (show (pre.length : Int) < (L.length : Int) by omega), if_pos (show (0 : Int) ≤ (pre.length : Int) by omega), if_true]
    rw [w64 (x := (pre.length : Int) + 1) (by omega) (by omega), ← len_snoc pre x]
    exact ih (pre ++ [x]) (by rw [← app_mid]; exact e)
theorem eqIntS_ev (l : List Int) (h : l.length < 1125899906842624) : EV (fun k => laws_eqIntS.f k l l) true := by
  unfold laws_eqIntS.f
  simp only [if_true]
  exact eqIntS_l0 l h l [] rfl
theorem eqIntSS_l0 (L : List (List Int)) (hL : L.length < 1125899906842624) (hi : ∀ x ∈ L, x.length < 1125899906842624) : ∀ (suf pre : List (List Int)), pre ++ suf = L → EV (fun k => laws_eqIntSS.l0 k L L (pre.length : Int)) true := by
  intro suf
  induction suf with
  | nil =>
    intro pre e
    obtain rfl : pre = L := by simpa using e
    refine EV.succ ?_
    simp only [laws_eqIntSS.l0, if_neg (show ¬ (pre.length : Int) < (pre.length : Int) by omega)]
    exact EV.pure _
  | cons x suf ih =>
    intro pre e
    have hl : (L.length : Int) = pre.length + suf.length + 1 := by rw [← e]; exact len_mid _ _ _
    have hx : rd_L2 L (pre.length : Int) = x := by rw [← e]; exact rdL_mid _ _ _ _ rfl
    refine EV.succ ?_
    simp only [laws_eqIntSS.l0, if_pos (show (pre.length : Int) < (L.length : Int) by omega), if_pos (show (0 : Int) ≤ (pre.length : Int) by omega), hx]
    refine EV.bind (eqIntS_ev x (hi x (by rw [← e]; simp))) ?_
    simp only [if_true]
    rw [w64 (x := (pre.length : Int) + 1) (by omega) (by omega), ← len_snoc pre x]
    exact ih (pre ++ [x]) (by rw [← app_mid]; exact e)
theorem eqRough_ev (l : List (List Int)) (h : l.length < 1125899906842624) (hi : ∀ x ∈ l, x.length < 1125899906842624) : EV (fun k => laws_eqRough.f k l l) true := by
  unfold laws_eqRough.f laws_eqIntSS.f
  simp only [if_true]
  refine EV.bind (eqIntSS_l0 l h hi l [] rfl) ?_
  simp only [if_true]
  exact EV.pure _
theorem szIntS_eq (l : List Int) (a : Int) (h0 : 0 ≤ a) (h1 : a ≤ 1048576) (h : l.length ≤ 9223372036854775807) : laws_szIntS.f l a = some (if a < (l.length : Int) then (-1 : Int) else a - l.length) := by
  unfold laws_szIntS.f
  rw [w64 (x := a - (l.length : Int)) (by omega) (by omega)]
  by_cases c : a < (l.length : Int)
  · rw [if_pos (show a - (l.length : Int) < 0 by omega), if_pos c]
  · rw [if_neg (show ¬ a - (l.length : Int) < 0 by omega), if_neg c]
theorem szIntSS_l0 (L : List (List Int)) (hL : L.length ≤ 1048576) (hi : ∀ x ∈ L, x.length ≤ 9223372036854775807) : ∀ (suf pre : List (List Int)) (a : Int), pre ++ suf = L → 0 ≤ a → a ≤ 1048576 → (∀ x ∈ pre, x.length ≤ 1048576) →
    Tot (fun k => laws_szIntSS.l0 k L a (pre.length : Int)) (fun r => r ≤ 1048576 ∧ (r < 0 ∨ ∀ x ∈ L, x.length ≤ 1048576)) := by
  intro suf
  induction suf with
  | nil =>
    intro pre a e h0 h1 hp
    obtain rfl : pre = L := by simpa using e
    refine Tot.succ ?_
    simp only [laws_szIntSS.l0, if_neg (show ¬ (pre.length : Int) < (pre.length : Int) by omega)]
    exact Tot.pure _ ⟨h1, .inr hp⟩
  | cons x suf ih =>
    intro pre a e h0 h1 hp
    have hl : (L.length : Int) = pre.length + suf.length + 1 := by rw [← e]; exact len_mid _ _ _
    have hx : rd_L2 L (pre.length : Int) = x := by rw [← e]; exact rdL_mid _ _ _ _ rfl
    refine Tot.succ ?_
    simp only [laws_szIntSS.l0, hx, if_pos (show (pre.length : Int) < (L.length : Int) by omega), if_pos (show (0 : Int) ≤ (pre.length : Int) by omega), szIntS_eq x a h0 h1 (hi x (by rw [← e]; simp)), Option.bind_some]
    by_cases c : a < (x.length : Int)
    · simp only [if_pos c, if_pos (show (-1 : Int) < 0 by omega)]
      exact Tot.pure _ ⟨by omega, .inl (by omega)⟩
    · simp only [if_neg c, if_neg (show ¬ a - (x.length : Int) < 0 by omega)]
      rw [w64 (x := (pre.length : Int) + 1) (by omega) (by omega), ← len_snoc pre x]
      refine ih (pre ++ [x]) _ (by rw [← app_mid]; exact e) (by omega) (by omega) ?_
      intro y hy
      rcases List.mem_append.1 hy with hy | hy
      · exact hp y hy
      · obtain rfl := List.mem_singleton.1 hy
        omega
/-- szRough tells something; where that is not below 0 all is short. -/
theorem szRough_tot (l : List (List Int)) (a : Int) (h0 : 0 ≤ a) (h1 : a ≤ 1048576) (h : l.length ≤ 9223372036854775807) (hi : ∀ x ∈ l, x.length ≤ 9223372036854775807) :
    Tot (fun k => laws_szRough.f k l a) (fun r => r ≤ 1048576 ∧ (r < 0 ∨ (l.length ≤ 1048576 ∧ ∀ x ∈ l, x.length ≤ 1048576))) := by
  unfold laws_szRough.f laws_szIntSS.f
  refine Tot.bind (P := fun r => r ≤ 1048576 ∧ (r < 0 ∨ (l.length ≤ 1048576 ∧ ∀ x ∈ l, x.length ≤ 1048576))) ?_ ?_
  · rw [w64 (x := a - (l.length : Int)) (by omega) (by omega)]
    by_cases c : a - (l.length : Int) < 0
    · simp only [if_pos c]
      exact Tot.pure _ ⟨by omega, .inl (by omega)⟩
    · simp only [if_neg c]
      refine (szIntSS_l0 l (by omega) hi l [] _ rfl (by omega) (by omega) (fun x hx => by cases hx)).mono fun r hr => ⟨hr.1, hr.2.imp id fun h => ⟨by omega, h⟩⟩
  · intro r hr
    by_cases c : r < 0
    · simp only [if_pos c]
      exact Tot.pure _ ⟨by omega, .inl (by omega)⟩
    · simp only [if_neg c]
      exact Tot.pure _ hr

end Go.Proofs.Ytdnffhagegcboaa.Ev
