/- The exact laws' own functions over ranks (szRank, toRank, eqRank). Conditions: lists of at most 2^63 - 1. -/
import Derived.Test.YthijejpdghmmaaaRankA
import Derived.Test.YthijejpdghmmaaaPAx13
import Derived.Test.YthijejpdghmmaaaPAx17
import Derived.Test.YthijejpdghmmaaaPAx21
namespace Go.Proofs.Ythijejpdghmmaaa.Ev
open Go.RowKit Go.Proofs.YthijejpdghmmaaaW.PrintWords Go.Proofs.YthijejpdghmmaaaW.PrintLast Go.Proofs.Ythijejpdghmmaaa.PA

theorem szRank_eq (l : List S62) (a : Int) (h : l.length ≤ 9223372036854775807) : laws_szRank.f l a 1048576 = some (if (l.length : Int) > 1048576 then (-1 : Int) else (1048576 : Int) - l.length) := by
  unfold laws_szRank.f laws_szKnotS.f
  rw [w64 (x := 1048576 - (l.length : Int)) (by omega) (by omega)]
  by_cases c : (l.length : Int) > 1048576
  · rw [if_pos (show (1048576 : Int) - l.length < 0 by omega), if_pos c]
    rfl
  · rw [if_neg (show ¬ (1048576 : Int) - l.length < 0 by omega), if_neg c]
    simp only [Option.bind_some]
    rw [if_neg (show ¬ (1048576 : Int) - l.length < 0 by omega)]
def toK (x : S62) : S43 := ⟨x.f0, x.f1⟩
theorem rdS2_mid (pre suf : List S62) (x : S62) (i : Int) (h : i = (pre.length : Int)) : rd_T62 (pre ++ x :: suf) i = x := by
  subst h
  unfold rd_T62
  rw [Int.toNat_natCast]
  exact getD_mid _ _ _ _
theorem toKnotS_l0 (L : List S62) (hL : L.length < 1125899906842624) : ∀ (suf pre : List S62), pre ++ suf = L →
    EV (fun k => laws_toKnotS.l0 k L (pre.map toK ++ List.replicate suf.length z43) (pre.length : Int)) (L.map toK) := by
  intro suf
  induction suf with
  | nil =>
    intro pre e
    obtain rfl : pre = L := by simpa using e
    refine EV.succ ?_
    simp only [laws_toKnotS.l0, if_neg (show ¬ (pre.length : Int) < (pre.length : Int) by omega)]
    exact (EV.pure _).cast (by simp)
  | cons x suf ih =>
    intro pre e
    have hl : (L.length : Int) = pre.length + suf.length + 1 := by rw [← e]; exact len_mid _ _ _
    have hx : rd_T62 L (pre.length : Int) = x := by rw [← e]; exact rdS2_mid _ _ _ _ rfl
    have hs : (pre.map toK ++ List.replicate (x :: suf).length z43).set (pre.length : Int).toNat (⟨x.f0, x.f1⟩ : S43) = (pre ++ [x]).map toK ++ List.replicate suf.length z43 := by
      rw [List.length_cons, List.replicate_succ, set_mid _ _ _ _ _ (by simp)]
      simp [toK]
    have hn : (pre.length : Int) < ((pre.map toK ++ List.replicate (x :: suf).length z43).length : Int) := by simp; omega
    refine EV.succ ?_
    simp only [laws_toKnotS.l0, hx, if_pos (show (pre.length : Int) < (L.length : Int) by omega), if_pos (show (0 : Int) ≤ (pre.length : Int) by omega), laws_toKnot.f, Option.bind_some, if_pos hn, hs]
    rw [w64 (x := (pre.length : Int) + 1) (by omega) (by omega), ← len_snoc pre x]
    exact ih (pre ++ [x]) (by rw [← app_mid]; exact e)
theorem toRank_ev (l : List S62) (a : Int) (h : l.length ≤ 1048576) : EV (fun k => laws_toRank.f k l a) (l.map toK, a) := by
  unfold laws_toRank.f laws_toKnotS.f
  simp only [if_pos (show 0 ≤ (l.length : Int) by omega), Int.toNat_natCast, if_pos (show l.length ≤ 17592186044416 by omega)]
  refine EV.bind (toKnotS_l0 l (by omega) l [] rfl) ?_
  exact EV.pure _
theorem eqKnotS_l0 (L : List S43) (hL : L.length < 1125899906842624) : ∀ (suf pre : List S43), pre ++ suf = L → EV (fun k => laws_eqKnotS.l0 k L L (pre.length : Int)) true := by
  intro suf
  induction suf with
  | nil =>
    intro pre e
    obtain rfl : pre = L := by simpa using e
    refine EV.succ ?_
    simp only [laws_eqKnotS.l0, if_neg (show ¬ (pre.length : Int) < (pre.length : Int) by omega)]
    exact EV.pure _
  | cons x suf ih =>
    intro pre e
    have hl : (L.length : Int) = pre.length + suf.length + 1 := by rw [← e]; exact len_mid _ _ _
    refine EV.succ ?_
    simp only [laws_eqKnotS.l0, if_pos (show (pre.length : Int) < (L.length : Int) by omega), if_pos (show (0 : Int) ≤ (pre.length : Int) by omega), laws_eqKnot.f, if_true, Option.bind_some]
    rw [w64 (x := (pre.length : Int) + 1) (by omega) (by omega), ← len_snoc pre x]
    exact ih (pre ++ [x]) (by rw [← app_mid]; exact e)
theorem eqRank_ev (l : List S43) (a : Int) (h : l.length < 1125899906842624) : EV (fun k => laws_eqRank.f k l a l a) true := by
  unfold laws_eqRank.f laws_eqKnotS.f
  simp only [if_true]
  refine EV.bind (eqKnotS_l0 l h l [] rfl) ?_
  simp only [if_true]
  exact EV.pure _

end Go.Proofs.Ythijejpdghmmaaa.Ev
