/- The exact laws' own functions over marks (szFew, toFew, eqFew). Conditions: lists of at most 2^63 - 1. -/
import Derived.Test.YtiaopahggjfggaaEv
import Derived.Test.YtiaopahggjfggaaPAx12
import Derived.Test.YtiaopahggjfggaaPAx15
import Derived.Test.YtiaopahggjfggaaPAx18
namespace Go.Proofs.Ytiaopahggjfggaa.Ev
open Go.RowKit Go.Proofs.YtiaopahggjfggaaW.PrintWords Go.Proofs.YtiaopahggjfggaaW.PrintLast Go.Proofs.Ytiaopahggjfggaa.PA

theorem toIntS_l0 (L : List Int) (hL : L.length < 1125899906842624) : ∀ (suf pre : List Int), pre ++ suf = L →
    EV (fun k => laws_toIntS.l0 k L (pre ++ List.replicate suf.length 0) (pre.length : Int)) L := by
  intro suf
  induction suf with
  | nil =>
    intro pre e
    obtain rfl : pre = L := by simpa using e
    refine EV.succ ?_
    simp only [laws_toIntS.l0, if_neg (show ¬ (pre.length : Int) < (pre.length : Int) by omega)]
    exact (EV.pure _).cast (by simp)
  | cons x suf ih =>
    intro pre e
    have hl : (L.length : Int) = pre.length + suf.length + 1 := by rw [← e]; exact len_mid _ _ _
    have hx : rd L (pre.length : Int) = x := by rw [← e]; exact rd_mid _ _ _ _ rfl
    have hs : (pre ++ List.replicate (x :: suf).length 0).set (pre.length : Int).toNat x = (pre ++ [x]) ++ List.replicate suf.length 0 := by
      rw [List.length_cons, List.replicate_succ, set_mid _ _ _ _ _ (by simp)]
      simp
    have hn : (pre.length : Int) < ((pre ++ List.replicate (x :: suf).length 0).length : Int) := by simp; omega
    refine EV.succ ?_
    simp only [laws_toIntS.l0, hx, if_pos (show (pre.length : Int) < (L.length : Int) by omega), if_pos (show (0 : Int) ≤ (pre.length : Int) by omega), if_pos hn, hs]
    rw [w64 (x := (pre.length : Int) + 1) (by omega) (by omega), ← len_snoc pre x]
    exact ih (pre ++ [x]) (by rw [← app_mid]; exact e)
theorem toFew_ev (l : List Int) (h : l.length ≤ 1048576) : EV (fun k => laws_toFew.f k l) l := by
  unfold laws_toFew.f laws_toIntS.f
  simp only [if_pos (show 0 ≤ (l.length : Int) by omega), Int.toNat_natCast, if_pos (show l.length ≤ 35184372088832 by omega)]
  refine EV.bind (toIntS_l0 l (by omega) l [] rfl) ?_
  exact EV.pure _
theorem eqIntS_l0 (L : List Int) (hL : L.length < 1125899906842624) : ∀ (suf pre : List Int), pre ++ suf = L → EV (fun k => laws_eqIntS.l0 k L L (pre.length : Int)) true := by
  intro suf
  induction suf with
  | nil =>
    intro pre e
    obtain rfl : pre = L := by simpa using e
    refine EV.succ ?_
    simp only [laws_eqIntS.l0, if_neg (show ¬ (pre.length : Int) < (pre.length : Int) by omega)]
    exact EV.pure _
  | cons x suf ih =>
    intro pre e
    have hl : (L.length : Int) = pre.length + suf.length + 1 := by rw [← e]; exact len_mid _ _ _
    refine EV.succ ?_
    simp only [laws_eqIntS.l0, if_pos (show (pre.length : Int) < (L.length : Int) by omega), if_pos (show (0 : Int) ≤ (pre.length : Int) by omega), if_true]
    rw [w64 (x := (pre.length : Int) + 1) (by omega) (by omega), ← len_snoc pre x]
    exact ih (pre ++ [x]) (by rw [← app_mid]; exact e)
theorem eqFew_ev (l : List Int) (h : l.length < 1125899906842624) : EV (fun k => laws_eqFew.f k l l) true := by
  unfold laws_eqFew.f laws_eqIntS.f
  simp only [if_true]
  refine EV.bind (eqIntS_l0 l h l [] rfl) ?_
  simp only [if_true]
  exact EV.pure _
theorem szFew_eq (l : List Int) (a : Int) (h0 : 0 ≤ a) (h1 : a ≤ 1048576) (h : l.length ≤ 9223372036854775807) : laws_szFew.f l a = some (if a < (l.length : Int) then (-1 : Int) else a - l.length) := by
  unfold laws_szFew.f laws_szIntS.f
  rw [w64 (x := a - (l.length : Int)) (by omega) (by omega)]
  by_cases c : a < (l.length : Int)
  · rw [if_pos (show a - (l.length : Int) < 0 by omega), if_pos c]
    rfl
  · rw [if_neg (show ¬ a - (l.length : Int) < 0 by omega), if_neg c]
    simp only [Option.bind_some]
    rw [if_neg (show ¬ a - (l.length : Int) < 0 by omega)]

end Go.Proofs.Ytiaopahggjfggaa.Ev
