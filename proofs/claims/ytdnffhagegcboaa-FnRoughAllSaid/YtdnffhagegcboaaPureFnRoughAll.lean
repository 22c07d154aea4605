/- FnRoughAll: each row has as much together as RoughAll tells; nothing at first. For every code of at most 2^20 bytes. -/
import Derived.Test.YtdnffhagegcboaaRoughD
import Derived.Test.YtdnffhagegcboaaRoughG
import Derived.Test.YtdnffhagegcboaaRoughN
import Derived.Test.YtdnffhagegcboaaPAx17
namespace Go.Proofs.Ytdnffhagegcboaa.Pure
open Go.RowKit Go.Proofs.Ytdnffhagegcboaa.PA Go.Proofs.YtdnffhagegcboaaW.PrintWords Go.Proofs.YtdnffhagegcboaaW.PrintLast Go.Proofs.Ytdnffhagegcboaa.Ev

theorem drawAll_tot (l : List Int) (h : ∀ x ∈ l, (Lit.int .u8 x).wf = true) : Tot (fun k => spec_DrawRoughAll.f k l) (fun _ => True) := by
  obtain ⟨b, hb, e⟩ := open_ev l h
  simp only [spec_DrawRoughAll.f, e, Option.bind_some]
  refine Tot.bind (l71Rough_tot hb (by omega) (by omega)) ?_
  intro _ _
  exact Tot.pure _ trivial
theorem all_row (n i : Int) (L : List (List Int)) (p : List Int) (hp : rd_L1 L i = p) (hr : rowB p = true) (hn : p.sum = n) (i0 : 0 ≤ i) (i1 : i < (L.length : Int)) (i2 : i ≤ 2) (h : EV (fun k => laws_FnRoughAll.l0 k n (i + 1) L) true) :
    ∀ (suf pre : List Int), pre ++ suf = p → EV (fun k => laws_FnRoughAll.l1 k n i pre.sum (pre.length : Int) L) true := by
  obtain ⟨h8, hm⟩ := rowB_iff.1 hr
  intro suf
  induction suf with
  | nil =>
    intro pre e
    obtain rfl : pre = p := by simpa using e
    refine EV.succ ?_
    simp only [laws_FnRoughAll.l1, if_neg (show ¬ (pre.length : Int) < 8 by omega), if_pos hn, w64 (x := i + 1) (by omega) (by omega)]
    exact h
  | cons x suf ih =>
    intro pre e
    have hl : (p.length : Int) = pre.length + suf.length + 1 := by rw [← e]; exact len_mid _ _ _
    have hx : rd p (pre.length : Int) = x := by rw [← e]; exact rd_mid _ _ _ _ rfl
    have hst : wrap64 ((pre.length : Int) + 1) = ((pre ++ [x]).length : Int) := by rw [len_snoc]; exact w64 (by omega) (by omega)
    have hb := sum_bd pre (fun y hy => hm y (by rw [← e]; simp [hy]))
    have hx2 := hm x (by rw [← e]; simp)
    refine EV.succ ?_
    simp only [laws_FnRoughAll.l1, hp, hx, if_pos (show (pre.length : Int) < 8 by omega), if_pos i0, if_pos i1, if_pos (show (0 : Int) ≤ (pre.length : Int) by omega), if_pos (show (pre.length : Int) < (p.length : Int) by omega), hst, w64 (x := pre.sum + x) (by omega) (by omega)]
    rw [← sum_snoc]
    exact ih (pre ++ [x]) (by rw [← app_mid]; exact e)
theorem FnRoughAll : laws_FnRoughAll.Pure := by
  intro l _ _ hw
  refine EV.get (Tot.true ?_)
  unfold laws_FnRoughAll.f
  by_cases hl : (l.length : Int) > 1048576
  · simp only [if_pos hl]
    exact Tot.pure _ rfl
  simp only [if_neg hl]
  refine Tot.bind (drawAll_tot l hw) ?_
  intro L _
  refine Tot.bind (Tot.of (impl_RoughAll_ev L) rfl) ?_
  rintro _ rfl
  refine Tot.bind (Tot.of (spec_RoughAll_ev L) rfl) ?_
  rintro _ rfl
  simp only [if_true]
  refine Tot.succ ?_
  by_cases c : roughB L = true
  · obtain ⟨a, b, d, rfl, ra, rb, rd', sb, sd, s0, s1⟩ := roughB_open c
    simp only [roughAll_ok c, decide_eq_false (show ¬ a.sum < 0 by omega), laws_FnRoughAll.j0, Bool.false_eq_true, if_false]
    refine Tot.of ?_ rfl
    have last : EV (fun k => laws_FnRoughAll.l0 k a.sum 3 [a, b, d]) true := by
      refine EV.succ ?_
      simp only [laws_FnRoughAll.l0, if_neg (show ¬ (3 : Int) < 3 by omega)]
      refine EV.bind impl_RoughNew_ev ?_
      refine EV.bind (impl_RoughAll_ev zeros) ?_
      exact (EV.pure _).cast (by decide)
    have r2 : EV (fun k => laws_FnRoughAll.l0 k a.sum 2 [a, b, d]) true := by
      refine EV.succ ?_
      simp only [laws_FnRoughAll.l0, if_pos (show (2 : Int) < 3 by omega)]
      exact all_row a.sum 2 [a, b, d] d rfl rd' sd (by omega) (by simp) (by omega) last d [] rfl
    have r1 : EV (fun k => laws_FnRoughAll.l0 k a.sum 1 [a, b, d]) true := by
      refine EV.succ ?_
      simp only [laws_FnRoughAll.l0, if_pos (show (1 : Int) < 3 by omega)]
      exact all_row a.sum 1 [a, b, d] b rfl rb sb (by omega) (by simp) (by omega) r2 b [] rfl
    refine EV.succ ?_
    simp only [laws_FnRoughAll.l0, if_pos (show (0 : Int) < 3 by omega)]
    exact all_row a.sum 0 [a, b, d] a rfl ra rfl (by omega) (by simp) (by omega) r1 a [] rfl
  · simp only [roughAll_no c, decide_eq_true (show (-1 : Int) < 0 by omega), laws_FnRoughAll.j0, if_true]
    refine Tot.bind (Tot.of ((spec_RoughAll_ev L).cast (roughAll_no c)) rfl) ?_
    rintro _ rfl
    exact Tot.pure _ rfl

end Go.Proofs.Ytdnffhagegcboaa.Pure
