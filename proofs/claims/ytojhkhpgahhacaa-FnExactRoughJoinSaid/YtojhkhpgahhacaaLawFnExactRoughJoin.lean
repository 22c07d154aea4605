-- The row of the law FnExactRoughJoin: made by a program of this session (wip/tools/row2.py).
import Derived.Test.YtojhkhpgahhacaaRows
import Derived.Test.YtojhkhpgahhacaaAllFnExactRoughJoin
import Derived.Test.YtojhkhpgahhacaaPAx62
import Derived.WalkKit
import Derived.ProofKit
import Derived.OpenShut
import Derived.ChangeOld
import Derived.Below
import Derived.SizedLaws
namespace Go.Proofs.Ytojhkhpgahhacaa.fnExactRoughJoin
open Go.ChangeShapes Go.WideShapes Go.ChangeAt Go.RowKit Go.Proofs.YtojhkhpgahhacaaW.PrintWords
set_option linter.unusedVariables false
theorem own : ownKnob Try.prog.godebug = none := by kernel_rfl
theorem laidOut : laidOutB Try.prog = true := by kernel_rfl
set_option maxRecDepth 100000 in
theorem lifted (os : Os) (started : os.Started) (H : Type) (enc : TypeId × Value → H) :
    ReturnsInHanded {} Try.checked os 9 .any (Rows.fnExactRoughJoinSpec.pre6 enc Try.prog Try.f9 Rows.fnExactRoughJoinRow.domain false) (Rows.fnExactRoughJoinSpec.post enc Try.prog Try.f9 false true false false) := by
  refine returnsInHanded_of_change_sized (C := Try.checked) own started (by kernel_rfl) Try.func9
    (ChangeSpec.witness6 (enc := enc) (C := Try.checked) false ⟨#[], #[.agg #[.slice none 0 0], .agg #[.slice none 0 0]], []⟩ 8 (by kernel_rfl) (by kernel_rfl) (by kernel_rfl) (by kernel_rfl)) ?_
  intro W base args ds gs before hval0 hW hcnd hsz0 _
  have hval : ∀ (j : Nat) t v, Try.f9.params[j]? = some t → args[j]? = some v → Value.okWide Try.prog W .any base t v := hval0
  have hW' := hW
  obtain ⟨p, q, hA0, hV, rfl, hfz, hnd⟩ := hW
  have hA : DataW.TrodAll enc Try.prog W 0 (fun _ => true) true Try.f9.params.toList args.toList ds p := hA0
  rw [Try.params9] at hA hval
  obtain ⟨v0, vs0, d0, ds0, p0, q0, hargs, rfl, rfl, h0, r0⟩ := trodAll_cons hA
  obtain ⟨v1, vs1, d1, ds1, p1, q1, rfl, rfl, rfl, h1, r1⟩ := trodAll_cons r0
  obtain ⟨rfl, rfl, rfl⟩ := trodAll_nil r1
  obtain rfl : args = #[v0, v1] := by cases args; simp_all
  obtain ⟨rfl, rfl⟩ := trodVars_none hV
  have k0 := h0
  have lt0 : ∀ x ∈ p0, x.block < W.heap.size := by obtain ⟨m, hm⟩ := k0; exact DataW.trod_lt m _ _ _ hm
  obtain ⟨c0_0, y0_0, n0, rfl, _, _, g0_0⟩ := In.open_agg1 Try.underlying44 (by kernel_rfl) (by kernel_rfl) (hval 0 44 v0 rfl rfl) h0
  obtain ⟨l0_0, A0_0, b0_0, e0_0, hc0_0, hr0_0⟩ := (In.opens_slice Try.underlying23 (by kernel_rfl) (In.opens_slice Try.underlying43 (by kernel_rfl) (In.opens_int Try.underlying3))) H enc W n0 [c0_0] y0_0 g0_0
  obtain rfl : c0_0 = .slice A0_0 l0_0.length b0_0 := by simpa using e0_0
  have k1 := h1
  have lt1 : ∀ x ∈ p1, x.block < W.heap.size := by obtain ⟨m, hm⟩ := k1; exact DataW.trod_lt m _ _ _ hm
  obtain ⟨c1_0, y1_0, n1, rfl, _, _, g1_0⟩ := In.open_agg1 Try.underlying44 (by kernel_rfl) (by kernel_rfl) (hval 1 44 v1 rfl rfl) h1
  obtain ⟨l1_0, A1_0, b1_0, e1_0, hc1_0, hr1_0⟩ := (In.opens_slice Try.underlying23 (by kernel_rfl) (In.opens_slice Try.underlying43 (by kernel_rfl) (In.opens_int Try.underlying3))) H enc W n1 [c1_0] y1_0 g1_0
  obtain rfl : c1_0 = .slice A1_0 l1_0.length b1_0 := by simpa using e1_0
  clear hA0 hval0 hsz0
  obtain ⟨k, h⟩ := Pure.FnExactRoughJoin l0_0 l1_0 hr0_0.2.1 (In.inner_bd hr0_0) hr1_0.2.1 (In.inner_bd hr1_0)
  refine (PA.laws_FnExactRoughJoin.calls k A0_0 b0_0 l0_0 A1_0 b1_0 l1_0 true W hr0_0 hc0_0 hr1_0 hc1_0 h).mono fun e W' ⟨he, bel⟩ => ?_
  subst he
  exact ⟨_, rfl, _, _, _, [], _, [], hW', trodAll_mk1 (shut_bool Try.underlying4 _), (trodAll_cons_mk (Below.trod laidOut (by kernel_rfl) (of_decide_eq_true (by kernel_rfl)) k0 bel lt0) (trodAll_cons_mk (Below.trod laidOut (by kernel_rfl) (of_decide_eq_true (by kernel_rfl)) k1 bel lt1) trodAll_mk0)), rfl, bel.frame _, fun h => by cases h⟩
theorem over : Rows.fnExactRoughJoinRow.holds Try.pinned (OpenSpec.ofChange Rows.fnExactRoughJoinSpec) :=
  OpenClaim.holds_of_wide 9 Try.f9 rfl rfl rfl rfl rfl rfl rfl ⟨rfl, rfl, rfl, rfl, rfl⟩ rfl rfl rfl rfl rfl (by kernel_rfl) Try.func9 (by kernel_rfl)
    (of_decide_eq_true (by kernel_rfl)) (by unfold Func.isWrapper; first | (rw [if_pos (by decide +kernel)]; kernel_rfl) | (rw [if_neg (by decide +kernel)]; exact ⟨rfl, rfl⟩))
    (fun os started H enc _ => lifted os started H enc)
theorem proved : Rows.FnExactRoughJoinSaid := over
#print axioms proved
end Go.Proofs.Ytojhkhpgahhacaa.fnExactRoughJoin
namespace Go.Proofs.Ytojhkhpgahhacaa
/-- The row, under a short name, for the claim. -/
theorem fnExactRoughJoin_holds : Rows.FnExactRoughJoinSaid := fnExactRoughJoin.proved
end Go.Proofs.Ytojhkhpgahhacaa
