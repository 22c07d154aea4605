/- The exact laws' own functions over tops (szTop, toTop, eqTop). Conditions: lists of at most 2^63 - 1. -/
import Derived.Test.YtiaopahggjfggaaTopA
import Derived.Test.YtiaopahggjfggaaPAx29
import Derived.Test.YtiaopahggjfggaaPAx34
import Derived.Test.YtiaopahggjfggaaPAx38
namespace Go.Proofs.Ytiaopahggjfggaa.Ev
open Go.RowKit Go.Proofs.YtiaopahggjfggaaW.PrintWords Go.Proofs.YtiaopahggjfggaaW.PrintLast Go.Proofs.Ytiaopahggjfggaa.PA

theorem szTop_eq (l : List S82) (x y a : Int) (h0 : 0 ≤ a) (h1 : a ≤ 1048576) (h : l.length ≤ 9223372036854775807) : laws_szTop.f l x y a = some (if a < (l.length : Int) then (-1 : Int) else a - l.length) := by
  unfold laws_szTop.f laws_szPairS.f
  rw [w64 (x := a - (l.length : Int)) (by omega) (by omega)]
  by_cases c : a < (l.length : Int)
  · rw [if_pos (show a - (l.length : Int) < 0 by omega), if_pos c]
    rfl
  · rw [if_neg (show ¬ a - (l.length : Int) < 0 by omega), if_neg c]
    simp only [Option.bind_some]
    rw [if_neg (show ¬ a - (l.length : Int) < 0 by omega)]
def toP (x : S82) : S61 := ⟨x.f0, x.f1⟩
theorem rdS2_mid (pre suf : List S82) (x : S82) (i : Int) (h : i = (pre.length : Int)) : rd_T82 (pre ++ x :: suf) i = x := by
  subst h
  unfold rd_T82
  rw [Int.toNat_natCast]
  exact getD_mid _ _ _ _
theorem toPairS_l0 (L : List S82) (hL : L.length < 1125899906842624) : ∀ (suf pre : List S82), pre ++ suf = L →
    EV (fun k => laws_toPairS.l0 k L (pre.map toP ++ List.replicate suf.length z61) (pre.length : Int)) (L.map toP) := by
  intro suf
  induction suf with
  | nil =>
    intro pre e
    obtain rfl : pre = L := by simpa using e
    refine EV.succ ?_
    simp only [laws_toPairS.l0, if_neg (show ¬ (pre.length : Int) < (pre.length : Int) by omega)]
    exact (EV.pure _).cast (by simp)
  | cons x suf ih =>
    intro pre e
    have hl : (L.length : Int) = pre.length + suf.length + 1 := by rw [← e]; exact len_mid _ _ _
    have hx : rd_T82 L (pre.length : Int) = x := by rw [← e]; exact rdS2_mid _ _ _ _ rfl
    have hs : (pre.map toP ++ List.replicate (x :: suf).length z61).set (pre.length : Int).toNat (⟨x.f0, x.f1⟩ : S61) = (pre ++ [x]).map toP ++ List.replicate suf.length z61 := by
      rw [List.length_cons, List.replicate_succ, set_mid _ _ _ _ _ (by simp)]
      simp [toP]
    have hn : (pre.length : Int) < ((pre.map toP ++ List.replicate (x :: suf).length z61).length : Int) := by simp; omega
    refine EV.succ ?_
    simp only [laws_toPairS.l0, hx, if_pos (show (pre.length : Int) < (L.length : Int) by omega), if_pos (show (0 : Int) ≤ (pre.length : Int) by omega), laws_toPair.f, Option.bind_some, if_pos hn, hs]
    rw [w64 (x := (pre.length : Int) + 1) (by omega) (by omega), ← len_snoc pre x]
    exact ih (pre ++ [x]) (by rw [← app_mid]; exact e)
theorem toTop_ev (l : List S82) (x y : Int) (h : l.length ≤ 1048576) : EV (fun k => laws_toTop.f k l x y) (l.map toP, x, y) := by
  unfold laws_toTop.f laws_toPairS.f
  simp only [if_pos (show 0 ≤ (l.length : Int) by omega), Int.toNat_natCast, if_pos (show l.length ≤ 17592186044416 by omega)]
  refine EV.bind (toPairS_l0 l (by omega) l [] rfl) ?_
  exact EV.pure _
theorem eqPairS_l0 (L : List S61) (hL : L.length < 1125899906842624) : ∀ (suf pre : List S61), pre ++ suf = L → EV (fun k => laws_eqPairS.l0 k L L (pre.length : Int)) true := by
  intro suf
  induction suf with
  | nil =>
    intro pre e
    obtain rfl : pre = L := by simpa using e
    refine EV.succ ?_
    simp only [laws_eqPairS.l0, if_neg (show ¬ (pre.length : Int) < (pre.length : Int) by omega)]
    exact EV.pure _
  | cons x suf ih =>
    intro pre e
    have hl : (L.length : Int) = pre.length + suf.length + 1 := by rw [← e]; exact len_mid _ _ _
    refine EV.succ ?_
    simp only [laws_eqPairS.l0, if_pos (show (pre.length : Int) < (L.length : Int) by omega), if_pos (show (0 : Int) ≤ (pre.length : Int) by omega), laws_eqPair.f, if_true, Option.bind_some]
    rw [w64 (x := (pre.length : Int) + 1) (by omega) (by omega), ← len_snoc pre x]
    exact ih (pre ++ [x]) (by rw [← app_mid]; exact e)
theorem eqTop_ev (l : List S61) (x y : Int) (h : l.length < 1125899906842624) : EV (fun k => laws_eqTop.f k l x y l x y) true := by
  unfold laws_eqTop.f laws_eqPairS.f
  simp only [if_true]
  refine EV.bind (eqPairS_l0 l h l [] rfl) ?_
  simp only [if_true]
  exact EV.pure _

end Go.Proofs.Ytiaopahggjfggaa.Ev
