/- FnRoughGet: what RoughGet tells is the least of three places, and not more than all. For every code of at most 2^20 bytes. -/
import Derived.Test.YtdnffhagegcboaaRoughDG
import Derived.Test.YtdnffhagegcboaaRoughG
import Derived.Test.YtdnffhagegcboaaPAx24
namespace Go.Proofs.Ytdnffhagegcboaa.Pure
open Go.RowKit Go.Proofs.Ytdnffhagegcboaa.PA Go.Proofs.YtdnffhagegcboaaW.PrintWords Go.Proofs.YtdnffhagegcboaaW.PrintLast Go.Proofs.Ytdnffhagegcboaa.Ev

theorem get_round {L : List (List Int)} {t n i : Int} {p : List Int} {f : Bool} (i0 : 0 ≤ i) (i1 : i ≤ 2) (hL : L.length = 3) (d : 0 ≤ t ∧ t ≤ 63) (hp : rd_L1 L i = p) (hr : rowB p = true) (hn : n ≤ rd p (placeOf i t))
    (h : EV (fun k => laws_FnRoughGet.l0 k t n (f || (rd p (placeOf i t) == n)) (i + 1) L) true) : EV (fun k => laws_FnRoughGet.l0 k t n f i L) true := by
  obtain ⟨_, q2, q3, q4⟩ := place_at i0 i1 d.1 d.2
  have h8 := (rowB_iff.1 hr).1
  refine EV.succ ?_
  simp only [laws_FnRoughGet.l0, if_pos (show i < 3 by omega), if_pos i0, if_pos (show i < (L.length : Int) by omega), q2, Option.bind_some, hp, if_pos q3, if_pos (show placeOf i t < (p.length : Int) by omega), if_neg (show ¬ rd p (placeOf i t) < n by omega), w64 (x := i + 1) (by omega) (by omega)]
  cases f
  · simp only [Bool.false_eq_true, if_false]
    simpa using h
  · simp only [if_true]
    simpa using h
theorem FnRoughGet : laws_FnRoughGet.Pure := by
  intro l _ _ hw
  refine EV.get (Tot.true ?_)
  unfold laws_FnRoughGet.f
  by_cases hl : (l.length : Int) > 1048576
  · simp only [if_pos hl]
    exact Tot.pure _ rfl
  simp only [if_neg hl]
  refine Tot.bind (drawGet_tot l hw) ?_
  rintro ⟨L, t⟩ _
  refine Tot.bind (Tot.of (impl_RoughGet_ev L t) rfl) ?_
  rintro _ rfl
  refine Tot.bind (Tot.of (spec_RoughGet_ev L t) rfl) ?_
  rintro _ rfl
  simp only [if_true]
  refine Tot.succ ?_
  by_cases c : roughB L = true ∧ 0 ≤ t ∧ t ≤ 63
  · obtain ⟨c, d⟩ := c
    obtain ⟨a, b, e, rfl, ra, rb, re, sb, se, s0, s1⟩ := roughB_open c
    have g := roughGet_ok c d
    have g0 := rd_row ra (placeOf 0 t)
    have g1 := rd_row rb (placeOf 1 t)
    have g2 := rd_row re (placeOf 2 t)
    generalize hn : roughGet [a, b, e] t = n at *
    have n0 : 0 ≤ n := by omega
    simp only [decide_eq_false (show ¬ n < 0 by omega), laws_FnRoughGet.j0, Bool.false_eq_true, if_false]
    refine Tot.of ?_ rfl
    refine get_round (p := a) (by omega) (by omega) rfl d rfl ra (by omega) ?_
    rw [show (0 : Int) + 1 = 1 from rfl]
    refine get_round (p := b) (by omega) (by omega) rfl d rfl rb (by omega) ?_
    rw [show (1 : Int) + 1 = 2 from rfl]
    refine get_round (p := e) (by omega) (by omega) rfl d rfl re (by omega) ?_
    have flag : (((false || (rd a (placeOf 0 t) == n)) || (rd b (placeOf 1 t) == n)) || (rd e (placeOf 2 t) == n)) = true := by
      by_cases e0 : rd a (placeOf 0 t) = n
      · simp [e0]
      by_cases e1 : rd b (placeOf 1 t) = n
      · simp [e1]
      have e2 : rd e (placeOf 2 t) = n := by omega
      simp [e2]
    rw [flag]
    refine EV.succ ?_
    simp only [laws_FnRoughGet.l0, show ((2 : Int) + 1) = 3 from rfl, if_neg (show ¬ (3 : Int) < 3 by omega), if_true]
    refine EV.bind ((impl_RoughAll_ev _).cast (roughAll_ok c)) ?_
    have := (addRow_at ra (placeOf 0 t)).2
    exact (EV.pure _).cast (decide_eq_true (by omega))
  · simp only [roughGet_no c, decide_eq_true (show (-1 : Int) < 0 by omega), laws_FnRoughGet.j0, if_true]
    refine Tot.bind (Tot.of ((spec_RoughGet_ev L t).cast (roughGet_no c)) rfl) ?_
    rintro _ rfl
    exact Tot.pure _ rfl

end Go.Proofs.Ytdnffhagegcboaa.Pure
