-- The row of the law FnExactTopJoin: made by a program of this session (wip/tools/row2.py).
import Derived.Test.YtlobnnakikgcnaaRows
import Derived.Test.YtlobnnakikgcnaaAllFnExactTopJoin
import Derived.Test.YtlobnnakikgcnaaPAx65
import Derived.WalkKit
import Derived.ProofKit
import Derived.OpenShut
import Derived.ChangeOld
import Derived.Below
import Derived.SizedLaws
namespace Go.Proofs.Ytlobnnakikgcnaa.fnExactTopJoin
open Go.ChangeShapes Go.WideShapes Go.ChangeAt Go.RowKit Go.Proofs.YtlobnnakikgcnaaW.PrintWords
set_option linter.unusedVariables false
theorem own : ownKnob Try.prog.godebug = none := by kernel_rfl
theorem laidOut : laidOutB Try.prog = true := by kernel_rfl
set_option maxRecDepth 100000 in
theorem lifted (os : Os) (started : os.Started) (H : Type) (enc : TypeId × Value → H) :
    ReturnsInHanded {} Try.checked os 5 .any (Rows.fnExactTopJoinSpec.pre6 enc Try.prog Try.f5 Rows.fnExactTopJoinRow.domain false) (Rows.fnExactTopJoinSpec.post enc Try.prog Try.f5 false true false false) := by
  refine returnsInHanded_of_change_sized (C := Try.checked) own started (by kernel_rfl) Try.func5
    (ChangeSpec.witness6 (enc := enc) (C := Try.checked) false ⟨#[], #[.agg #[.slice none 0 0, .int .i64 0, .int .i64 0], .agg #[.slice none 0 0, .int .i64 0, .int .i64 0]], []⟩ 8 (by kernel_rfl) (by kernel_rfl) (by kernel_rfl) (by kernel_rfl)) ?_
  intro W base args ds gs before hval0 hW hcnd hsz0 _
  have hval : ∀ (j : Nat) t v, Try.f5.params[j]? = some t → args[j]? = some v → Value.okWide Try.prog W .any base t v := hval0
  have hW' := hW
  obtain ⟨p, q, hA0, hV, rfl, hfz, hnd⟩ := hW
  have hA : DataW.TrodAll enc Try.prog W 0 (fun _ => true) true Try.f5.params.toList args.toList ds p := hA0
  rw [Try.params5] at hA hval
  obtain ⟨v0, vs0, d0, ds0, p0, q0, hargs, rfl, rfl, h0, r0⟩ := trodAll_cons hA
  obtain ⟨v1, vs1, d1, ds1, p1, q1, rfl, rfl, rfl, h1, r1⟩ := trodAll_cons r0
  obtain ⟨rfl, rfl, rfl⟩ := trodAll_nil r1
  obtain rfl : args = #[v0, v1] := by cases args; simp_all
  obtain ⟨rfl, rfl⟩ := trodVars_none hV
  have k0 := h0
  have lt0 : ∀ x ∈ p0, x.block < W.heap.size := by obtain ⟨m, hm⟩ := k0; exact DataW.trod_lt m _ _ _ hm
  obtain ⟨c0_0, c0_1, c0_2, y0_0, y0_1, y0_2, n0, rfl, _, _, g0_0, g0_1, g0_2⟩ := Go.Joins.open_agg3 Try.underlying37 (by kernel_rfl) (by kernel_rfl) (hval 0 37 v0 rfl rfl) h0
  obtain ⟨l0_0, A0_0, b0_0, e0_0, hc0_0, hr0_0⟩ := (In.opens_slice Try.underlying35 (by kernel_rfl) (In.opens_two (d := PA.k70) Try.underlying70 (by kernel_rfl) (by kernel_rfl) Try.underlying3 Try.underlying3 (fun a b => ⟨⟨a, b⟩, fun w => PA.k70_mk w ⟨a, b⟩⟩))) H enc W n0 [c0_0] y0_0 g0_0
  obtain rfl : c0_0 = .slice A0_0 l0_0.length b0_0 := by simpa using e0_0
  obtain ⟨a0_1, e0_1, _⟩ := DataW.trod_int Try.underlying3 g0_1
  obtain rfl : c0_1 = .int .i64 a0_1 := by simpa using e0_1
  obtain ⟨a0_2, e0_2, _⟩ := DataW.trod_int Try.underlying3 g0_2
  obtain rfl : c0_2 = .int .i64 a0_2 := by simpa using e0_2
  have k1 := h1
  have lt1 : ∀ x ∈ p1, x.block < W.heap.size := by obtain ⟨m, hm⟩ := k1; exact DataW.trod_lt m _ _ _ hm
  obtain ⟨c1_0, c1_1, c1_2, y1_0, y1_1, y1_2, n1, rfl, _, _, g1_0, g1_1, g1_2⟩ := Go.Joins.open_agg3 Try.underlying37 (by kernel_rfl) (by kernel_rfl) (hval 1 37 v1 rfl rfl) h1
  obtain ⟨l1_0, A1_0, b1_0, e1_0, hc1_0, hr1_0⟩ := (In.opens_slice Try.underlying35 (by kernel_rfl) (In.opens_two (d := PA.k70) Try.underlying70 (by kernel_rfl) (by kernel_rfl) Try.underlying3 Try.underlying3 (fun a b => ⟨⟨a, b⟩, fun w => PA.k70_mk w ⟨a, b⟩⟩))) H enc W n1 [c1_0] y1_0 g1_0
  obtain rfl : c1_0 = .slice A1_0 l1_0.length b1_0 := by simpa using e1_0
  obtain ⟨a1_1, e1_1, _⟩ := DataW.trod_int Try.underlying3 g1_1
  obtain rfl : c1_1 = .int .i64 a1_1 := by simpa using e1_1
  obtain ⟨a1_2, e1_2, _⟩ := DataW.trod_int Try.underlying3 g1_2
  obtain rfl : c1_2 = .int .i64 a1_2 := by simpa using e1_2
  clear hA0 hval0 hsz0
  obtain ⟨k, h⟩ := Pure.FnExactTopJoin l0_0 a0_1 a0_2 l1_0 a1_1 a1_2 hr0_0.2.1 hr1_0.2.1
  refine (PA.laws_FnExactTopJoin.calls k A0_0 b0_0 l0_0 a0_1 a0_2 A1_0 b1_0 l1_0 a1_1 a1_2 true W hr0_0 hc0_0 hr1_0 hc1_0 h).mono fun e W' ⟨he, bel⟩ => ?_
  subst he
  exact ⟨_, rfl, _, _, _, [], _, [], hW', trodAll_mk1 (shut_bool Try.underlying4 _), (trodAll_cons_mk (Below.trod laidOut (by kernel_rfl) (of_decide_eq_true (by kernel_rfl)) k0 bel lt0) (trodAll_cons_mk (Below.trod laidOut (by kernel_rfl) (of_decide_eq_true (by kernel_rfl)) k1 bel lt1) trodAll_mk0)), rfl, bel.frame _, fun h => by cases h⟩
theorem over : Rows.fnExactTopJoinRow.holds Try.pinned (OpenSpec.ofChange Rows.fnExactTopJoinSpec) :=
  OpenClaim.holds_of_wide 5 Try.f5 rfl rfl rfl rfl rfl rfl rfl ⟨rfl, rfl, rfl, rfl, rfl⟩ rfl rfl rfl rfl rfl (by kernel_rfl) Try.func5 (by kernel_rfl)
    (of_decide_eq_true (by kernel_rfl)) (by unfold Func.isWrapper; first | (rw [if_pos (by decide +kernel)]; kernel_rfl) | (rw [if_neg (by decide +kernel)]; exact ⟨rfl, rfl⟩))
    (fun os started H enc _ => lifted os started H enc)
theorem proved : Rows.FnExactTopJoinSaid := over
#print axioms proved
end Go.Proofs.Ytlobnnakikgcnaa.fnExactTopJoin
namespace Go.Proofs.Ytlobnnakikgcnaa
/-- The row, under a short name, for the claim. -/
theorem fnExactTopJoin_holds : Rows.FnExactTopJoinSaid := fnExactTopJoin.proved
end Go.Proofs.Ytlobnnakikgcnaa
