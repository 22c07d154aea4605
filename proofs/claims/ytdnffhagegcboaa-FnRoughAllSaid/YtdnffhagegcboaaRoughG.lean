/- What the program's and the reference's RoughAll, RoughGet tell: the same. No condition. -/
import Derived.Test.YtdnffhagegcboaaRoughA
import Derived.Test.YtdnffhagegcboaaRoughP
import Derived.Test.YtdnffhagegcboaaPAx8
import Derived.Test.YtdnffhagegcboaaPAx5
import Derived.Test.YtdnffhagegcboaaPAx21
import Derived.Test.YtdnffhagegcboaaPAx20
namespace Go.Proofs.Ytdnffhagegcboaa.Ev
open Go.RowKit Go.Proofs.YtdnffhagegcboaaW.PrintWords Go.Proofs.YtdnffhagegcboaaW.PrintLast Go.Proofs.Ytdnffhagegcboaa.PA

theorem mn_eq (a b : Int) : mn a b = min a b := by
  unfold mn
  omega
def roughAll (L : List (List Int)) : Int := if roughB L = true then (L.headD []).sum else -1
theorem roughAll_ok {a b c : List Int} (h : roughB [a, b, c] = true) : roughAll [a, b, c] = a.sum := by unfold roughAll; rw [if_pos h]; rfl
theorem roughAll_no {L : List (List Int)} (h : ¬ roughB L = true) : roughAll L = -1 := by unfold roughAll; rw [if_neg h]
theorem impl_RoughAll_ev (L : List (List Int)) : EV (fun k => impl_RoughAll.f k L) (roughAll L) := by
  unfold impl_RoughAll.f
  refine EV.bind (impl_RoughOk_ev L) ?_
  by_cases h : roughB L = true
  · obtain ⟨a, b, c, rfl, ra, _, _, _, _, _, s⟩ := roughB_open h
    simp only [if_pos h, if_pos (show 0 < (([a, b, c] : List (List Int)).length : Int) by simp), show rd_L1 [a, b, c] 0 = a from rfl]
    refine EV.bind (rowAll_ev a) ?_
    exact (EV.pure _).cast (by rw [roughAll_ok h]; simp [rowAllR, ra])
  · simp only [if_neg h]
    exact (EV.pure _).cast (roughAll_no h).symm
theorem spec_RoughAll_ev (L : List (List Int)) : EV (fun k => spec_RoughAll.f k L) (roughAll L) := by
  unfold spec_RoughAll.f
  refine EV.bind (spec_RoughOk_ev L) ?_
  by_cases h : roughB L = true
  · obtain ⟨a, b, c, rfl, ra, _, _, _, _, _, s⟩ := roughB_open h
    simp only [if_pos h, if_pos (show 0 < (([a, b, c] : List (List Int)).length : Int) by simp), show rd_L1 [a, b, c] 0 = a from rfl]
    refine EV.bind (l1Sum_row ra) ?_
    exact (EV.pure _).cast (roughAll_ok h).symm
  · simp only [if_neg h]
    exact (EV.pure _).cast (roughAll_no h).symm
def roughGet (L : List (List Int)) (t : Int) : Int :=
  if roughB L = true ∧ 0 ≤ t ∧ t ≤ 63 then min (min (rd (L.getD 0 []) (placeOf 0 t)) (rd (L.getD 1 []) (placeOf 1 t))) (rd (L.getD 2 []) (placeOf 2 t)) else -1
theorem roughGet_no {L : List (List Int)} {t : Int} (h : ¬ (roughB L = true ∧ 0 ≤ t ∧ t ≤ 63)) : roughGet L t = -1 := by unfold roughGet; rw [if_neg h]
theorem roughGet_ok {a b c : List Int} {t : Int} (h : roughB [a, b, c] = true) (d : 0 ≤ t ∧ t ≤ 63) : roughGet [a, b, c] t = min (min (rd a (placeOf 0 t)) (rd b (placeOf 1 t))) (rd c (placeOf 2 t)) := by
  unfold roughGet
  rw [if_pos ⟨h, d⟩]
  rfl
theorem rd_row {p : List Int} (h : rowB p = true) (i : Int) : 0 ≤ rd p i ∧ rd p i ≤ 2000 := by
  unfold rd
  rw [List.getD_eq_getElem?_getD]
  cases e : p[i.toNat]? with
  | none => simp
  | some x => simpa using (rowB_iff.1 h).2 x (List.mem_of_getElem? e)
theorem row_len {p : List Int} (h : rowB p = true) : (p.length : Int) = 8 := by have := (rowB_iff.1 h).1; omega
theorem impl_RoughGet_ev (L : List (List Int)) (t : Int) : EV (fun k => impl_RoughGet.f k L t) (roughGet L t) := by
  unfold impl_RoughGet.f
  have stop : EV (fun k => impl_RoughGet.j0 k t true L) (-1) := by
    refine EV.succ ?_
    simp only [impl_RoughGet.j0, if_true]
    exact EV.pure _
  refine EV.bind (impl_RoughOk_ev L) ?_
  by_cases h : roughB L = true
  · simp only [if_pos h, thing_eq, Option.bind_some]
    by_cases d : 0 ≤ t ∧ t ≤ 63
    · obtain ⟨a, b, c, rfl, ra, rb, rc, _⟩ := roughB_open h
      simp only [decide_eq_true d, Bool.not_true]
      have p0 := place_at (i := 0) (by omega) (by omega) d.1 d.2
      have p1 := place_at (i := 1) (by omega) (by omega) d.1 d.2
      have p2 := place_at (i := 2) (by omega) (by omega) d.1 d.2
      have la := row_len ra
      have lb := row_len rb
      have lc := row_len rc
      have l3 : (([a, b, c] : List (List Int)).length : Int) = 3 := rfl
      refine EV.succ ?_
      simp only [impl_RoughGet.j0, Bool.false_eq_true, if_false, l3]
      refine EV.succ ?_
      simp only [impl_RoughGet.l0, l3, if_pos (show (0 : Int) < 3 by omega), if_pos (show (0 : Int) ≤ 0 by omega), p0.2.1, Option.bind_some, if_pos p0.2.2.1, show rd_L1 [a, b, c] 0 = a from rfl, if_pos (show placeOf 0 t < (a.length : Int) by omega), wr1]
      refine EV.succ ?_
      simp only [impl_RoughGet.l0, l3, if_pos (show (1 : Int) < 3 by omega), if_pos (show (0 : Int) ≤ 1 by omega), p1.2.1, Option.bind_some, if_pos p1.2.2.1, show rd_L1 [a, b, c] 1 = b from rfl, if_pos (show placeOf 1 t < (b.length : Int) by omega), wr2]
      refine EV.succ ?_
      simp only [impl_RoughGet.l0, l3, if_pos (show (2 : Int) < 3 by omega), if_pos (show (0 : Int) ≤ 2 by omega), p2.2.1, Option.bind_some, if_pos p2.2.2.1, show rd_L1 [a, b, c] 2 = c from rfl, if_pos (show placeOf 2 t < (c.length : Int) by omega), wr3]
      refine EV.succ ?_
      simp only [impl_RoughGet.l0, if_neg (show ¬ (3 : Int) < 3 by omega)]
      have q0 := rd_row ra (placeOf 0 t)
      refine (EV.pure _).cast ?_
      rw [roughGet_ok h d]
      simp only [mn_eq]
      omega
    · simp only [decide_eq_false d, Bool.not_false]
      exact stop.cast (roughGet_no (fun g => d g.2)).symm
  · simp only [if_neg h]
    exact stop.cast (roughGet_no (fun g => h g.1)).symm
theorem spec_RoughGet_ev (L : List (List Int)) (t : Int) : EV (fun k => spec_RoughGet.f k L t) (roughGet L t) := by
  unfold spec_RoughGet.f
  have stop : EV (fun k => spec_RoughGet.j0 k t true L) (-1) := by
    refine EV.succ ?_
    simp only [spec_RoughGet.j0, if_true]
    exact EV.pure _
  refine EV.bind (spec_RoughOk_ev L) ?_
  by_cases h : roughB L = true
  · simp only [if_pos h, in_eq, Option.bind_some]
    by_cases d : 0 ≤ t ∧ t ≤ 63
    · obtain ⟨a, b, c, rfl, ra, rb, rc, _⟩ := roughB_open h
      simp only [decide_eq_true d, Bool.not_true]
      have p0 := place_at (i := 0) (by omega) (by omega) d.1 d.2
      have p1 := place_at (i := 1) (by omega) (by omega) d.1 d.2
      have p2 := place_at (i := 2) (by omega) (by omega) d.1 d.2
      have la := row_len ra
      have lb := row_len rb
      have lc := row_len rc
      have l3 : (([a, b, c] : List (List Int)).length : Int) = 3 := rfl
      refine EV.succ ?_
      simp only [spec_RoughGet.j0, Bool.false_eq_true, if_false, l3, if_pos (show (0 : Int) < 3 by omega), p0.1, Option.bind_some, if_pos p0.2.2.1, show rd_L1 [a, b, c] 0 = a from rfl, if_pos (show placeOf 0 t < (a.length : Int) by omega)]
      refine EV.succ ?_
      simp only [spec_RoughGet.l0, l3, if_pos (show (1 : Int) < 3 by omega), if_pos (show (0 : Int) ≤ 1 by omega), p1.1, Option.bind_some, if_pos p1.2.2.1, show rd_L1 [a, b, c] 1 = b from rfl, if_pos (show placeOf 1 t < (b.length : Int) by omega), wr2]
      refine EV.succ ?_
      simp only [spec_RoughGet.l0, l3, if_pos (show (2 : Int) < 3 by omega), if_pos (show (0 : Int) ≤ 2 by omega), p2.1, Option.bind_some, if_pos p2.2.2.1, show rd_L1 [a, b, c] 2 = c from rfl, if_pos (show placeOf 2 t < (c.length : Int) by omega), wr3]
      refine EV.succ ?_
      simp only [spec_RoughGet.l0, if_neg (show ¬ (3 : Int) < 3 by omega)]
      refine (EV.pure _).cast ?_
      rw [roughGet_ok h d]
      simp only [mn_eq]
    · simp only [decide_eq_false d, Bool.not_false]
      exact stop.cast (roughGet_no (fun g => d g.2)).symm
  · simp only [if_neg h]
    exact stop.cast (roughGet_no (fun g => h g.1)).symm

end Go.Proofs.Ytdnffhagegcboaa.Ev
