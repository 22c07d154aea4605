/- The reader of a code: l6Open and pick tell something for every code; pick tells a number from 0 to n - 1. No condition. -/
import Derived.Test.YtnolipncjjclcaaEv
import Derived.Test.YtnolipncjjclcaaPAx1
import Derived.Test.YtnolipncjjclcaaPAx7
import Derived.Test.YtnolipncjjclcaaPAx2
import Derived.Test.YtnolipncjjclcaaPAx18
import Derived.Test.YtnolipncjjclcaaWMore
import Derived.ProofKit
import Derived.OpenShut
import Derived.Deep.Slices
import Derived.Lib.SmallJoins
import Derived.Test.YtnolipncjjclcaaPAx11
import Derived.Test.YtnolipncjjclcaaPAx3
import Derived.Test.YtnolipncjjclcaaPAx21
import Derived.Test.YtnolipncjjclcaaPAx5
import Derived.Test.YtnolipncjjclcaaPAx20
import Derived.Test.YtnolipncjjclcaaPAx4
import Derived.Test.YtnolipncjjclcaaPAx6
import Derived.Test.YtnolipncjjclcaaPAx8
import Derived.Test.YtnolipncjjclcaaFewM
import Derived.Test.YtnolipncjjclcaaPAx13
import Derived.Test.YtnolipncjjclcaaPAx10
import Derived.Test.YtnolipncjjclcaaPAx14
import Derived.Test.YtnolipncjjclcaaPAx22
import Derived.Test.YtnolipncjjclcaaPAx15
import Derived.Test.YtnolipncjjclcaaPAx26
import Derived.Test.YtnolipncjjclcaaPAx28
import Derived.Test.YtnolipncjjclcaaPAx30
import Derived.Test.YtnolipncjjclcaaPAx32
import Derived.Test.YtnolipncjjclcaaPAx34
import Derived.Test.YtnolipncjjclcaaPAx35
namespace Go.Proofs.Ytnolipncjjclcaa.Ev
open Go.RowKit Go.Proofs.YtnolipncjjclcaaW.PrintWords Go.Proofs.YtnolipncjjclcaaW.PrintLast Go.Proofs.Ytnolipncjjclcaa.PA

/-- A code's bytes, cut to 2000. -/
def Code (l : List Int) : Prop := l.length ≤ 2000 ∧ ∀ x ∈ l, 0 ≤ x ∧ x ≤ 255

theorem u8_range {l : List Int} (h : ∀ x ∈ l, (Lit.int .u8 x).wf = true) : ∀ x ∈ l, 0 ≤ x ∧ x ≤ 255 := by
  intro x hx
  have := h x hx
  simp [Lit.wf, IntKind.min, IntKind.max, IntKind.bits, IntKind.signed] at this
  exact this
theorem open_ev (l : List Int) (h : ∀ x ∈ l, (Lit.int .u8 x).wf = true) : ∃ b, Code b ∧ spec_l6Open.f l = some (b, 0) := by
  have h' := u8_range h
  unfold spec_l6Open.f
  by_cases hl : (l.length : Int) > 2000
  · rw [if_pos hl, if_pos (by omega)]
    exact ⟨l.take 2000, ⟨by simp; omega, fun x hx => h' x (List.mem_of_mem_take hx)⟩, rfl⟩
  · rw [if_neg hl]
    exact ⟨l, ⟨by omega, h'⟩, rfl⟩
theorem rd_byte {l : List Int} (h : Code l) (i : Int) : 0 ≤ rd l i ∧ rd l i ≤ 255 := by
  unfold rd
  rw [List.getD_eq_getElem?_getD]
  cases e : l[i.toNat]? with
  | none => simp
  | some x => simpa using h.2 x (List.mem_of_getElem? e)
theorem xor_nonneg (x y : Int) (h0 : 0 ≤ x) (h1 : x < 1099511627776) (h2 : 0 ≤ y) (h3 : y < 1099511627776) : 0 ≤ bits .xor .i64 x y ∧ bits .xor .i64 x y < 1099511627776 := by
  obtain ⟨a, rfl⟩ := Int.eq_ofNat_of_zero_le h0
  obtain ⟨b, rfl⟩ := Int.eq_ofNat_of_zero_le h2
  have ha : a % 2 ^ 64 = a := Nat.mod_eq_of_lt (by omega)
  have hb : b % 2 ^ 64 = b := Nat.mod_eq_of_lt (by omega)
  have hx : a ^^^ b < 2 ^ 40 := Nat.xor_lt_two_pow (by omega) (by omega)
  have e : bits .xor .i64 (a : Int) (b : Int) = ((a ^^^ b : Nat) : Int) := by
    show IntKind.i64.wrap ((((BitVec.ofInt 64 (a : Int)) ^^^ (BitVec.ofInt 64 (b : Int))).toNat : Nat) : Int) = _
    rw [i64_w, BitVec.ofInt_natCast, BitVec.ofInt_natCast, BitVec.toNat_xor, BitVec.toNat_ofNat, BitVec.toNat_ofNat, ha, hb]
    exact w64 (by omega) (by omega)
  rw [e]
  omega
theorem tmod_range (x n : Int) (h0 : 0 ≤ x) (hn : 0 < n) : 0 ≤ Int.tmod x n ∧ Int.tmod x n < n :=
  ⟨Int.tmod_nonneg _ h0, Int.tmod_lt_of_pos _ hn⟩

/-- pick: a number from 0 to n - 1; the place is one further. -/
theorem pick_ev (b : List Int) (p n : Int) (hb : Code b) (hp : 0 ≤ p) (hp1 : p ≤ 1000000000) (hn : 1 ≤ n) :
    ∃ r, EV (fun k => spec_l6Rd_pick.f k b p n) (r, p + 1) ∧ 0 ≤ r ∧ r < n := by
  have hl := hb.1
  have e1 : wrap64 (p + 1) = p + 1 := w64 (by omega) (by omega)
  have e2 : wrap64 (p + 1 - 1) = p := by rw [w64 (by omega) (by omega)]; omega
  simp only [spec_l6Rd_pick.f, e1, if_neg (show ¬ n < 1 by omega)]
  by_cases hz : b = []
  · subst hz
    refine ⟨0, EV.succ ?_, by omega, by omega⟩
    simp only [spec_l6Rd_pick.j0]
    exact EV.pure _
  · have hlen : 0 < b.length := List.length_pos_iff.2 hz
    have hf : ((b.length : Int) == 0) = false := by simp; exact hz
    by_cases hlt : p < (b.length : Int)
    · refine ⟨Int.tmod (wrap64 (rd b p)) n, EV.succ ?_, ?_⟩
      · simp only [spec_l6Rd_pick.j0, hf, e2, if_pos hlt, if_pos hp, if_neg (show ¬ n = 0 by omega), Bool.false_eq_true, if_false]
        exact EV.pure _
      · have hr := rd_byte hb p
        rw [w64 (by omega) (by omega)]
        exact tmod_range _ _ hr.1 (by omega)
    · have q0 := tmod_range p (b.length : Int) hp (by omega)
      have e3 : wrap64 (p * 7) = p * 7 := w64 (by omega) (by omega)
      have e4 : wrap64 (p * 7 + 3) = p * 7 + 3 := w64 (by omega) (by omega)
      have q1 := tmod_range (p * 7 + 3) (b.length : Int) (by omega) (by omega)
      have r0 := rd_byte hb (Int.tmod p (b.length : Int))
      have r1 := rd_byte hb (Int.tmod (p * 7 + 3) (b.length : Int))
      have d0 : Int.tdiv p (b.length : Int) = p / (b.length : Int) := Int.tdiv_eq_ediv_of_nonneg hp
      have d1 : 0 ≤ p / (b.length : Int) := Int.ediv_nonneg hp (by omega)
      have d2 : p / (b.length : Int) ≤ p := Int.ediv_le_self _ hp
      generalize hA : rd b (Int.tmod p (b.length : Int)) = A at *
      generalize hB : rd b (Int.tmod (p * 7 + 3) (b.length : Int)) = B at *
      generalize hD : p / (b.length : Int) = D at *
      have w1 : wrap64 A = A := w64 (by omega) (by omega)
      have w2 : wrap64 B = B := w64 (by omega) (by omega)
      have w3 : wrap64 (A * 131) = A * 131 := w64 (by omega) (by omega)
      have w4 : wrap64 (B * 1117) = B * 1117 := w64 (by omega) (by omega)
      have w5 : wrap64 (A * 131 + B * 1117) = A * 131 + B * 1117 := w64 (by omega) (by omega)
      have w6 : wrap64 (p * 29) = p * 29 := w64 (by omega) (by omega)
      have w7 : wrap64 (A * 131 + B * 1117 + p * 29) = A * 131 + B * 1117 + p * 29 := w64 (by omega) (by omega)
      have w8 : wrap64 D = D := w64 (by omega) (by omega)
      have w9 : wrap64 (D * 53) = D * 53 := w64 (by omega) (by omega)
      have wa : wrap64 (A * 131 + B * 1117 + p * 29 + D * 53) = A * 131 + B * 1117 + p * 29 + D * 53 := w64 (by omega) (by omega)
      generalize hX : A * 131 + B * 1117 + p * 29 + D * 53 = X at *
      have X0 : 0 ≤ X := by omega
      have X1 : X < 1099511627776 := by omega
      have t64 : Int.tdiv X 64 = X / 64 := Int.tdiv_eq_ediv_of_nonneg X0
      have wb : wrap64 (X / 64) = X / 64 := w64 (by omega) (by omega)
      have xr := xor_nonneg X (X / 64) X0 X1 (by omega) (by omega)
      refine ⟨Int.tmod (bits .xor .i64 X (X / 64)) n, EV.succ ?_, tmod_range _ _ xr.1 (by omega)⟩
      simp only [spec_l6Rd_pick.j0, hf, e2, e3, e4, if_neg hlt, if_neg (show ¬ (b.length : Int) = 0 by omega), if_pos q0.1, if_pos q0.2, if_pos q1.1, if_pos q1.2,
        if_neg (show ¬ n = 0 by omega), Bool.false_eq_true, if_false, hA, hB, d0, w1, w2, w3, w4, w5, w6, w7, w8, w9, wa, hX, t64, wb]
      exact EV.pure _
/-- The same, as a step of a walk through a draw. -/
theorem pick_tot {b : List Int} {p : Int} (n : Int) (hb : Code b) (hp : 0 ≤ p) (hp1 : p ≤ 1000000000) (hn : 1 ≤ n) :
    Tot (fun k => spec_l6Rd_pick.f k b p n) (fun r => 0 ≤ r.1 ∧ r.1 < n ∧ r.2 = p + 1) := by
  obtain ⟨r, h, a, c⟩ := pick_ev b p n hb hp hp1 hn
  exact ⟨_, h, a, c, rfl⟩
theorem in_eq (a b c : Int) : spec_l6In.f a b c = some (decide (b ≤ a ∧ a ≤ c)) := by
  unfold spec_l6In.f
  by_cases h : a ≥ b
  · rw [if_pos h]
    simp [show b ≤ a from h]
  · rw [if_neg h]
    simp [show ¬ b ≤ a by omega]

end Go.Proofs.Ytnolipncjjclcaa.Ev

/- The draw of a thing (l71Thing) tells something for every code. No condition. -/
namespace Go.Proofs.Ytnolipncjjclcaa.Ev
open Go.RowKit Go.Proofs.YtnolipncjjclcaaW.PrintWords Go.Proofs.YtnolipncjjclcaaW.PrintLast Go.Proofs.Ytnolipncjjclcaa.PA

theorem thing_last {b : List Int} {p : Int} {c : Bool} (hb : Code b) (hp : 0 ≤ p) (hp1 : p ≤ 900000000) :
    Tot (fun k => spec_l71Thing.j0 k c b p) (fun r => -1 ≤ r.1 ∧ r.1 ≤ 64 ∧ p ≤ r.2 ∧ r.2 ≤ p + 1) := by
  refine Tot.succ ?_
  simp only [spec_l71Thing.j0]
  cases c
  · simp only [Bool.false_eq_true, if_false, Option.bind_some]
    refine Tot.bind (pick_tot 6 hb hp (by omega) (by omega)) ?_
    rintro ⟨v, q⟩ ⟨h0, h1, rfl⟩
    simp only at h0 h1
    simp only [if_pos h0]
    rw [if_pos (show v < (([3, 5, 9, 17, 33, 40] : List Int).length : Int) by simp; omega)]
    refine Tot.pure _ ⟨?_, ?_, by simp; omega, by simp⟩
    all_goals
      dsimp only
      have : v = 0 ∨ v = 1 ∨ v = 2 ∨ v = 3 ∨ v = 4 ∨ v = 5 := by omega
      rcases this with rfl | rfl | rfl | rfl | rfl | rfl <;> decide
  · simp only [if_true]
    refine Tot.bind (pick_tot 64 hb hp (by omega) (by omega)) ?_
    rintro ⟨v, q⟩ ⟨h0, h1, rfl⟩
    simp only at h0 h1
    exact Tot.pure _ ⟨by simp only; omega, by simp only; omega, by simp only; omega, by simp only; omega⟩
theorem thing_tot {b : List Int} {p : Int} (hb : Code b) (hp : 0 ≤ p) (hp1 : p ≤ 800000000) :
    Tot (fun k => spec_l71Thing.f k b p) (fun r => -1 ≤ r.1 ∧ r.1 ≤ 64 ∧ p ≤ r.2 ∧ r.2 ≤ p + 2) := by
  unfold spec_l71Thing.f
  refine Tot.bind (pick_tot 12 hb hp (by omega) (by omega)) ?_
  rintro ⟨v, q⟩ ⟨h0, h1, rfl⟩
  simp only at h0 h1
  simp only [Option.bind_some]
  have last : ∀ c : Bool, Tot (fun k => spec_l71Thing.j0 k c b (p + 1)) (fun r => -1 ≤ r.1 ∧ r.1 ≤ 64 ∧ p ≤ r.2 ∧ r.2 ≤ p + 2) :=
    fun c => (thing_last hb (by omega) (by omega)).mono fun r hr => by omega
  by_cases c0 : v = 0
  · simp only [if_pos c0]
    refine Tot.bind (pick_tot 4 hb (by omega) (by omega) (by omega)) ?_
    rintro ⟨v', q⟩ ⟨h0', h1', rfl⟩
    simp only at h0' h1'
    simp only [if_pos h0']
    rw [if_pos (show v' < (([-1, 64, 0, 63] : List Int).length : Int) by simp; omega)]
    refine Tot.pure _ ⟨?_, ?_, by simp only; omega, by simp only; omega⟩
    all_goals
      dsimp only
      have : v' = 0 ∨ v' = 1 ∨ v' = 2 ∨ v' = 3 := by omega
      rcases this with rfl | rfl | rfl | rfl <;> decide
  simp only [if_neg c0]
  by_cases c1 : v = 1
  · simp only [if_pos c1]
    exact last _
  simp only [if_neg c1]
  by_cases c2 : v = 2
  · simp only [if_pos c2]
    exact last _
  simp only [if_neg c2]
  exact last _

end Go.Proofs.Ytnolipncjjclcaa.Ev

/- How data that came in read by the print's kinds: whole numbers, slices, structs by value. No condition. -/
namespace Go.Proofs.Ytnolipncjjclcaa.In
open Go.RowKit Go.ChangeShapes Go.WideShapes Go.Deep Go.Joins Go.Proofs.YtnolipncjjclcaaW.PrintWords

/-- Whatever reads as data of type t is of kind d. -/
def Opens {α : Type} (d : Kd α) (P : Program) (t : TypeId) : Prop :=
  ∀ (H : Type) (enc : TypeId × Value → H) (w : World) (fuel : Nat) (cs : List Value) (x : DataW H × List MemPlace),
    DataW.trod enc P w 0 (fun _ => true) true fuel t cs = some x → ∃ v, d.K w v cs
theorem opens_int {P : Program} {t : TypeId} {k : IntKind} (hu : P.underlying t = some (.int k)) : Opens (Kd.int k) P t := by
  intro H enc w fuel cs x h
  obtain ⟨n, rfl, _⟩ := DataW.trod_int hu h
  exact ⟨n, rfl⟩
theorem opens_two {α : Type} {d : Kd α} {P : Program} {t : TypeId} {f0 f1 : Field} (hs : P.underlying t = some (.struct #[f0, f1])) (hc : P.cellsOf t = 2) (hone : oneCellFields P #[f0, f1] = true)
    (h0 : P.underlying f0.type = some (.int .i64)) (h1 : P.underlying f1.type = some (.int .i64)) (mk : ∀ a b : Int, ∃ v, ∀ w, d.K w v [.int .i64 a, .int .i64 b]) : Opens d P t := by
  intro H enc w fuel cs x h
  obtain ⟨y0, y1, n, _, hl, g0, g1⟩ := trod_struct2 hs h
  rw [hc] at hl
  obtain ⟨o0, k0⟩ := hone_of hone 0 f0 rfl
  obtain ⟨o1, k1⟩ := hone_of hone 1 f1 rfl
  rw [o0, k0] at g0
  rw [o1, k1] at g1
  match cs, hl with
  | [c0, c1], _ =>
    obtain ⟨a, e0, _⟩ := DataW.trod_int h0 g0
    obtain ⟨b, e1, _⟩ := DataW.trod_int h1 g1
    simp at e0 e1
    subst e0
    subst e1
    obtain ⟨v, hv⟩ := mk a b
    exact ⟨v, hv w⟩
theorem opens_slice {α : Type} {d : Kd α} {P : Program} {t e : TypeId} (ht : P.underlying t = some (.slice e)) (hsz : P.cellsOf e = d.sz) (hd : Opens d P e) : Opens (Kd.slice e d) P t := by
  intro H enc w fuel cs x h
  rcases open_slice ht h with ⟨rfl, _⟩ | ⟨a, len, cap, m, n, D, Pl, rfl, _, hl, hm, hmm, _, hx⟩
  · exact ⟨[], none, 0, rfl, Nat.le_refl _, Kd.C_nil _ _⟩
  · have hm' : m = cap := by simpa using hmm
    have key : ∀ j, j ≤ len → ∃ xs : List α, xs.length = j ∧ ∀ i p, xs[i]? = some p → ∃ c, c.length = d.sz ∧ d.K w p c ∧ ∀ q u, c[q]? = some u → w.cell? (a.add (i * d.sz + q)) = some u := by
      intro j
      induction j with
      | zero => exact fun _ => ⟨[], rfl, fun i p hp => by simp at hp⟩
      | succ j ih =>
        intro hj
        obtain ⟨xs, hxl, hxs⟩ := ih (by omega)
        obtain ⟨cs', h1, h2⟩ := hx j (by omega)
        obtain ⟨v, hv⟩ := hd H enc w n cs' _ h2
        obtain ⟨_, hcl, hcc⟩ := World.cells?_some h1
        refine ⟨xs ++ [v], by simp [hxl], fun i p hp => ?_⟩
        by_cases hi : i < xs.length
        · rw [List.getElem?_append_left hi] at hp
          exact hxs i p hp
        · rw [List.getElem?_append_right (by omega)] at hp
          have hij : i = j := by
            rcases Nat.lt_or_ge (i - xs.length) 1 with g | g
            · omega
            · rw [List.getElem?_eq_none (by simpa using g)] at hp
              cases hp
          subst hij
          rw [hxl] at hp
          simp at hp
          subst hp
          refine ⟨cs', by rw [hcl, hsz], hv, fun q u hu => ?_⟩
          have hq : q < cs'.length := (List.getElem?_eq_some_iff.1 hu).1
          have := hcc q (by omega)
          rw [Go.Deep.add_add, hsz] at this
          rw [this]
          exact hu
    obtain ⟨xs, hxl, hxs⟩ := key len (Nat.le_refl _)
    unfold maxLen at hm
    exact ⟨xs, some a, cap, by rw [hxl], by omega, rfl, by omega, fun _ => ⟨a, rfl, hxs⟩⟩
theorem inner_bd {α : Type} {d : Kd α} {e : Nat} {w : World} {A : Option Addr} {n : Nat} {l : List (List α)} (h : (Kd.slice e d).C w A n l) : ∀ x ∈ l, x.length ≤ 9223372036854775807 := by
  intro x hx
  obtain ⟨j, hj⟩ := List.getElem?_of_mem hx
  have hn : 0 < n := by rw [← h.1]; exact List.length_pos_of_mem hx
  obtain ⟨ad, _, hc⟩ := h.2.2 hn
  obtain ⟨c, _, ⟨A', c', _, _, hr⟩, _⟩ := hc j x hj
  exact hr.2.1
/-- A struct of one field, by value, opened. -/
theorem open_agg1 {H : Type} {enc : TypeId × Value → H} {P : Program} {w : World} {base : Nat} {spare : Nat → Bool} {held : Bool} {r : Reach} {b0 : Nat} {t : TypeId} {f0 : Field} {v : Value} {d : DataW H} {p : List MemPlace} (hs : P.underlying t = some (.struct #[f0])) (hone : oneCellFields P #[f0] = true) (hC : P.cellsOf t = 1)
    (hv : Value.okWide P w r b0 t v) (h : DataW.Trod enc P w base spare held t v d p) :
    ∃ (v0 : Value) (y0 : DataW H × List MemPlace) (n : Nat), v = .agg #[v0] ∧ d = .agg [y0.1] ∧ p = y0.2 ∧ DataW.trod enc P w base spare held n f0.type [v0] = some y0 := by
  obtain ⟨cs, rfl, hsz⟩ := okWide_struct hs hv
  obtain ⟨fuel, hf⟩ := h
  obtain ⟨y0, n, hx, _, h0⟩ := trod_struct1 hs hf
  obtain ⟨o0, k0⟩ := hone_of hone 0 f0 rfl
  simp only [Prod.mk.injEq] at hx
  rw [hC] at hsz
  obtain ⟨l⟩ := cs
  match l, hsz with
  | [c0], _ => exact ⟨c0, y0, n, rfl, hx.1, hx.2, by simpa [Value.cells, o0, k0] using h0⟩

end Go.Proofs.Ytnolipncjjclcaa.In

/- What the program's and the reference's FewOk and FewMark tell: plain functions over lists, the same for both. Conditions: lists shorter than 2^50. -/
namespace Go.Proofs.Ytnolipncjjclcaa.Ev
open Go.RowKit Go.Proofs.YtnolipncjjclcaaW.PrintWords Go.Proofs.YtnolipncjjclcaaW.PrintLast Go.Proofs.Ytnolipncjjclcaa.PA

theorem thing_eq (a : Int) : impl_isThing.f a = some (decide (0 ≤ a ∧ a ≤ 63)) := by
  unfold impl_isThing.f
  by_cases h : a ≥ 0
  · rw [if_pos h]
    by_cases g : a < 64
    · simp [show 0 ≤ a from h, g, show a ≤ 63 by omega]
    · simp [g, show ¬ a ≤ 63 by omega]
  · rw [if_neg h]
    simp [show ¬ 0 ≤ a by omega]

/-! marks -/
def markOf (t : Int) : Int := (37 * t + 11) % 64
def markR (t : Int) : Int := if 0 ≤ t ∧ t ≤ 63 then markOf t else -1
theorem markOf_bd (t : Int) : 0 ≤ markOf t ∧ markOf t ≤ 63 := by unfold markOf; omega
theorem markOf_back {t : Int} (h0 : 0 ≤ t) (h1 : t ≤ 63) : ((markOf t - 11) * 45) % 64 = t := by unfold markOf; omega
theorem markOf_inj {s t : Int} (h0 : 0 ≤ t) (h1 : t ≤ 63) (g0 : 0 ≤ s) (g1 : s ≤ 63) (h : markOf s = markOf t) : s = t := by
  rw [← markOf_back h0 h1, ← markOf_back g0 g1, h]
theorem impl_mark (t : Int) : impl_FewMark.f t = some (markR t) := by
  unfold impl_FewMark.f markR
  simp only [thing_eq, Option.bind_some]
  by_cases c : 0 ≤ t ∧ t ≤ 63
  · simp only [decide_eq_true c, if_true, if_pos c]
    rw [w64 (x := 37 * t) (by omega) (by omega), w64 (x := 37 * t + 11) (by omega) (by omega), Int.tmod_eq_emod_of_nonneg (by omega)]
    rfl
  · simp only [decide_eq_false c, Bool.false_eq_true, if_false, if_neg c]
theorem spec_mark (t : Int) : spec_FewMark.f t = some (markR t) := by
  unfold spec_FewMark.f markR
  simp only [in_eq, Option.bind_some]
  by_cases c : 0 ≤ t ∧ t ≤ 63
  · simp only [decide_eq_true c, if_true, if_pos c]
    rw [Int.mul_comm t 37, w64 (x := 37 * t) (by omega) (by omega), w64 (x := 37 * t + 11) (by omega) (by omega), Int.tmod_eq_emod_of_nonneg (by omega)]
    rfl
  · simp only [decide_eq_false c, Bool.false_eq_true, if_false, if_neg c]
theorem markR_thing {t : Int} (h : 0 ≤ t ∧ t ≤ 63) : markR t = markOf t := by unfold markR; rw [if_pos h]

/-! FewOk -/
def asc : Int → List Int → Bool
  | _, [] => true
  | b, x :: l => decide (b < x ∧ x ≤ 63) && asc x l
def fewB (l : List Int) : Bool := decide (l.length ≤ 6) && asc (-1) l
theorem fewB_iff {l : List Int} : fewB l = true ↔ l.length ≤ 6 ∧ asc (-1) l = true := by unfold fewB; simp
theorem asc_cons {b x : Int} {l : List Int} : asc b (x :: l) = true ↔ (b < x ∧ x ≤ 63) ∧ asc x l = true := by
  show (decide (b < x ∧ x ≤ 63) && asc x l) = true ↔ _
  simp
theorem asc_mono {b c : Int} (h : b ≤ c) : ∀ {l : List Int}, asc c l = true → asc b l = true
  | [], _ => rfl
  | x :: l, g => by
    obtain ⟨g1, g2⟩ := asc_cons.1 g
    exact asc_cons.2 ⟨⟨by omega, g1.2⟩, g2⟩
theorem asc_mem : ∀ {l : List Int} {b : Int}, asc b l = true → ∀ x ∈ l, b < x ∧ x ≤ 63
  | [], _, _, x, hx => by cases hx
  | y :: l, b, g, x, hx => by
    obtain ⟨g1, g2⟩ := asc_cons.1 g
    rcases List.mem_cons.1 hx with rfl | hx
    · exact g1
    · have := asc_mem g2 x hx
      omega
theorem asc_drop : ∀ {l : List Int} {b : Int} (n : Nat), asc b l = true → asc b (l.drop n) = true
  | [], _, n, _ => by simp [asc]
  | x :: l, b, 0, g => g
  | x :: l, b, n + 1, g => by
    obtain ⟨g1, g2⟩ := asc_cons.1 g
    exact asc_mono (by omega) (asc_drop n g2)
theorem asc_take : ∀ {l : List Int} {b : Int} (n : Nat), asc b l = true → asc b (l.take n) = true
  | [], _, n, _ => by simp [asc]
  | x :: l, b, 0, g => rfl
  | x :: l, b, n + 1, g => by
    obtain ⟨g1, g2⟩ := asc_cons.1 g
    exact asc_cons.2 ⟨g1, asc_take n g2⟩
theorem impl_FewOk_l0 (L : List Int) (hL : L.length < 1125899906842624) : ∀ (suf pre : List Int) (b : Int), pre ++ suf = L → EV (fun k => impl_FewOk.l0 k b L (L.length : Int) (pre.length : Int)) (asc b suf) := by
  intro suf
  induction suf with
  | nil =>
    intro pre b e
    obtain rfl : pre = L := by simpa using e
    refine EV.succ ?_
    simp only [impl_FewOk.l0, if_neg (show ¬ (pre.length : Int) < (pre.length : Int) by omega)]
    exact EV.pure _
  | cons x suf ih =>
    intro pre b e
    have hl : (L.length : Int) = pre.length + suf.length + 1 := by rw [← e]; exact len_mid _ _ _
    have hx : rd L (pre.length : Int) = x := by rw [← e]; exact rd_mid _ _ _ _ rfl
    refine EV.succ ?_
    simp only [impl_FewOk.l0, hx, if_pos (show (pre.length : Int) < (L.length : Int) by omega), if_pos (show (0 : Int) ≤ (pre.length : Int) by omega)]
    by_cases c1 : x ≤ b
    · simp only [if_pos c1]
      exact (EV.pure _).cast (by simp [asc, show ¬ b < x by omega])
    simp only [if_neg c1]
    by_cases c2 : x ≥ 64
    · simp only [if_pos c2]
      exact (EV.pure _).cast (by simp [asc, show ¬ x ≤ 63 by omega])
    simp only [if_neg c2]
    rw [w64 (x := (pre.length : Int) + 1) (by omega) (by omega), ← len_snoc pre x]
    exact (ih (pre ++ [x]) x (by rw [← app_mid]; exact e)).cast (by simp [asc, show b < x by omega, show x ≤ 63 by omega])
theorem impl_FewOk_ev (l : List Int) (h : l.length < 1125899906842624) : EV (fun k => impl_FewOk.f k l) (fewB l) := by
  unfold impl_FewOk.f fewB
  by_cases c : (l.length : Int) > 6
  · simp only [if_pos c]
    exact (EV.pure _).cast (by simp [show ¬ l.length ≤ 6 by omega])
  · simp only [if_neg c]
    exact (impl_FewOk_l0 l h l [] (-1) rfl).cast (by simp [show l.length ≤ 6 by omega])
theorem spec_FewOk_l0 (L : List Int) (hL : L.length < 1125899906842624) : ∀ (suf pre : List Int) (b : Int), pre ++ suf = L → -1 ≤ b →
    ((pre = [] ∧ b = -1) ∨ ∃ p, pre = p ++ [b] ∧ 0 ≤ b) → EV (fun k => spec_FewOk.l0 k (pre.length : Int) L) (asc b suf && decide (L.length ≤ 6)) := by
  intro suf
  induction suf with
  | nil =>
    intro pre b e hb hp
    obtain rfl : pre = L := by simpa using e
    refine EV.succ ?_
    simp only [spec_FewOk.l0, if_neg (show ¬ (pre.length : Int) < (pre.length : Int) by omega)]
    exact (EV.pure _).cast (by
      by_cases c : pre.length ≤ 6
      · simp [asc, c, show (pre.length : Int) ≤ 6 by omega]
      · simp [asc, c, show ¬ (pre.length : Int) ≤ 6 by omega])
  | cons x suf ih =>
    intro pre b e hb hp
    have hl : (L.length : Int) = pre.length + suf.length + 1 := by rw [← e]; exact len_mid _ _ _
    have hx : rd L (pre.length : Int) = x := by rw [← e]; exact rd_mid _ _ _ _ rfl
    have go : b < x → 0 ≤ x → x ≤ 63 → EV (fun k => spec_FewOk.l0 k (wrap64 ((pre.length : Int) + 1)) L) (asc b (x :: suf) && decide (L.length ≤ 6)) := by
      intro d0 d1 d2
      rw [w64 (x := (pre.length : Int) + 1) (by omega) (by omega), ← len_snoc pre x]
      exact (ih (pre ++ [x]) x (by rw [← app_mid]; exact e) (by omega) (.inr ⟨pre, rfl, d1⟩)).cast (by simp [asc, d0, d2])
    refine EV.succ ?_
    simp only [spec_FewOk.l0, hx, if_pos (show (pre.length : Int) < (L.length : Int) by omega), if_pos (show (0 : Int) ≤ (pre.length : Int) by omega), in_eq, Option.bind_some]
    by_cases c1 : 0 ≤ x ∧ x ≤ 63
    · simp only [decide_eq_true c1, if_true]
      rcases hp with ⟨rfl, rfl⟩ | ⟨p, rfl, hb0⟩
      · simp only [List.length_nil, Int.natCast_zero, if_neg (show ¬ (0 : Int) > 0 by omega)]
        simpa using go (by omega) c1.1 c1.2
      · have hp1 : ((p ++ [b]).length : Int) = p.length + 1 := len_snoc _ _
        have hw : wrap64 (((p ++ [b]).length : Int) - 1) = p.length := by rw [w64 (by omega) (by omega)]; omega
        have hy : rd L (p.length : Int) = b := by rw [← e, ← app_mid]; exact rd_mid _ _ _ _ rfl
        simp only [if_pos (show ((p ++ [b]).length : Int) > 0 by omega), hw, if_pos (show (0 : Int) ≤ (p.length : Int) by omega), if_pos (show (p.length : Int) < (L.length : Int) by omega), hy]
        by_cases c3 : b ≥ x
        · simp only [if_pos c3]
          exact (EV.pure false).cast (by simp [asc, show ¬ b < x by omega])
        · simp only [if_neg c3]
          exact go (by omega) c1.1 c1.2
    · simp only [decide_eq_false c1, Bool.false_eq_true, if_false]
      refine (EV.pure false).cast ?_
      have : ¬ (b < x ∧ x ≤ 63) := by
        rcases hp with ⟨_, rfl⟩ | ⟨_, _, hb0⟩ <;> omega
      unfold asc
      rw [decide_eq_false this]
      rfl
theorem spec_FewOk_ev (l : List Int) (h : l.length < 1125899906842624) : EV (fun k => spec_FewOk.f k l) (fewB l) := by
  unfold spec_FewOk.f fewB
  exact (spec_FewOk_l0 l h l [] (-1) rfl (by omega) (.inl ⟨rfl, rfl⟩)).cast (by rw [Bool.and_comm])

end Go.Proofs.Ytnolipncjjclcaa.Ev

/- The reference's l2Put and FewAdd; the draws of marks. Conditions: lists shorter than 2^40. -/
namespace Go.Proofs.Ytnolipncjjclcaa.Ev
open Go.RowKit Go.Proofs.YtnolipncjjclcaaW.PrintWords Go.Proofs.YtnolipncjjclcaaW.PrintLast Go.Proofs.Ytnolipncjjclcaa.PA

theorem mn_eq (a b : Int) : mn a b = min a b := by
  unfold mn
  omega
def drop1 (m : Int) (l : List Int) : List Int := l.filter (fun x => decide (x ≠ m))
def putL (m : Int) : List Int → List Int
  | [] => [m]
  | x :: l => if x ≥ m then m :: drop1 m (x :: l) else x :: putL m l
theorem putL_len (m : Int) : ∀ l : List Int, (putL m l).length ≤ l.length + 1
  | [] => by simp [putL]
  | x :: l => by
    unfold putL
    split
    · have := List.length_filter_le (fun y => decide (y ≠ m)) (x :: l)
      simp only [drop1, List.length_cons] at this ⊢
      omega
    · have := putL_len m l
      simp only [List.length_cons]
      omega
theorem take6 (l : List Int) : l.take (mn (l.length : Int) 6).toNat = l.take 6 := by
  rw [mn_eq]
  by_cases c : l.length ≤ 6
  · rw [show (min (l.length : Int) 6).toNat = l.length by omega, List.take_of_length_le (Nat.le_refl _), List.take_of_length_le c]
  · rw [show (min (l.length : Int) 6).toNat = 6 by omega]
theorem put_end (k : Nat) (L : List Int) (m : Int) (out : List Int) (hL : ¬ (L.length : Int) < (L.length : Int)) : spec_l2Put.l0 (k + 1) L m out true (L.length : Int) = some (out.take 6) := by
  have h0 : 0 ≤ mn (out.length : Int) 6 := by rw [mn_eq]; omega
  have h1 : mn (out.length : Int) 6 ≤ (out.length : Int) := by rw [mn_eq]; omega
  simp only [spec_l2Put.l0, if_neg hL, if_true, if_pos h0, if_pos h1, take6]
theorem put_done (L : List Int) (m : Int) (hL : L.length ≤ 1099511627776) : ∀ (suf pre out : List Int), pre ++ suf = L → out.length ≤ 1 + pre.length →
    EV (fun k => spec_l2Put.l0 k L m out true (pre.length : Int)) ((out ++ drop1 m suf).take 6) := by
  intro suf
  induction suf with
  | nil =>
    intro pre out e ho
    obtain rfl : pre = L := by simpa using e
    refine EV.succ ?_
    simp only [put_end _ pre m out (by omega)]
    exact (EV.pure _).cast (by simp [drop1])
  | cons x suf ih =>
    intro pre out e ho
    have hl : (L.length : Int) = pre.length + suf.length + 1 := by rw [← e]; exact len_mid _ _ _
    have hx : rd L (pre.length : Int) = x := by rw [← e]; exact rd_mid _ _ _ _ rfl
    have hst : wrap64 ((pre.length : Int) + 1) = ((pre ++ [x]).length : Int) := by rw [len_snoc]; exact w64 (by omega) (by omega)
    refine EV.succ ?_
    simp only [spec_l2Put.l0, if_pos (show (pre.length : Int) < (L.length : Int) by omega), if_true]
    refine EV.succ ?_
    simp only [spec_l2Put.j1, Bool.false_eq_true, if_false, if_pos (show (0 : Int) ≤ (pre.length : Int) by omega), if_pos (show (pre.length : Int) < (L.length : Int) by omega), hx, hst]
    by_cases c : x = m
    · simp only [if_pos c]
      exact (ih (pre ++ [x]) out (by rw [← app_mid]; exact e) (by simp; omega)).cast (by simp [drop1, c])
    · simp only [if_neg c, if_pos (show out.length < 17592186044416 by omega)]
      exact (ih (pre ++ [x]) (out ++ [x]) (by rw [← app_mid]; exact e) (by simp; omega)).cast (by simp [drop1, c])
theorem put_l0 (L : List Int) (m : Int) (hL : L.length ≤ 1099511627776) : ∀ (suf pre : List Int) (out : List Int), pre ++ suf = L → out.length ≤ pre.length →
    EV (fun k => spec_l2Put.l0 k L m out false (pre.length : Int)) ((out ++ putL m suf).take 6) := by
  intro suf
  induction suf with
  | nil =>
    intro pre out e ho
    obtain rfl : pre = L := by simpa using e
    have h0 : 0 ≤ mn ((out ++ [m]).length : Int) 6 := by rw [mn_eq]; omega
    have h1 : mn ((out ++ [m]).length : Int) 6 ≤ ((out ++ [m]).length : Int) := by rw [mn_eq]; omega
    refine EV.succ ?_
    simp only [spec_l2Put.l0, if_neg (show ¬ (pre.length : Int) < (pre.length : Int) by omega), Bool.false_eq_true, if_false, if_pos (show out.length < 17592186044416 by omega), Option.bind_some, if_pos h0, if_pos h1, take6]
    exact EV.pure _
  | cons x suf ih =>
    intro pre out e ho
    have hl : (L.length : Int) = pre.length + suf.length + 1 := by rw [← e]; exact len_mid _ _ _
    have hx : rd L (pre.length : Int) = x := by rw [← e]; exact rd_mid _ _ _ _ rfl
    have hst : wrap64 ((pre.length : Int) + 1) = ((pre ++ [x]).length : Int) := by rw [len_snoc]; exact w64 (by omega) (by omega)
    refine EV.succ ?_
    simp only [spec_l2Put.l0, if_pos (show (pre.length : Int) < (L.length : Int) by omega), Bool.false_eq_true, if_false, if_pos (show (0 : Int) ≤ (pre.length : Int) by omega), hx]
    refine EV.succ ?_
    by_cases g : x ≥ m
    · simp only [spec_l2Put.j1, decide_eq_true g, if_true, if_pos (show out.length < 17592186044416 by omega), Option.bind_some, if_pos (show (0 : Int) ≤ (pre.length : Int) by omega), if_pos (show (pre.length : Int) < (L.length : Int) by omega), hx, hst]
      by_cases c : x = m
      · simp only [if_pos c]
        exact (put_done L m hL suf (pre ++ [x]) (out ++ [m]) (by rw [← app_mid]; exact e) (by simp; omega)).cast (by simp [putL, drop1, c])
      · have hlen : (out ++ [m]).length < 17592186044416 := by simp; omega
        simp only [if_neg c, if_pos hlen]
        exact (put_done L m hL suf (pre ++ [x]) (out ++ [m] ++ [x]) (by rw [← app_mid]; exact e) (by simp; omega)).cast (by simp [putL, drop1, c, g])
    · simp only [spec_l2Put.j1, decide_eq_false g, Bool.false_eq_true, if_false, if_pos (show (0 : Int) ≤ (pre.length : Int) by omega), if_pos (show (pre.length : Int) < (L.length : Int) by omega), hx, if_neg (show ¬ x = m by omega), if_pos (show out.length < 17592186044416 by omega), hst]
      exact (ih (pre ++ [x]) (out ++ [x]) (by rw [← app_mid]; exact e) (by simp; omega)).cast (by simp [putL, g])
theorem put_ev (l : List Int) (m : Int) (h : l.length ≤ 1099511627776) : EV (fun k => spec_l2Put.f k l m) ((putL m l).take 6) :=
  put_l0 l m h l [] [] rfl (by simp)
def fewAdd (l : List Int) (t : Int) : List Int × Bool := if fewB l = true ∧ 0 ≤ t ∧ t ≤ 63 then ((putL (markOf t) l).take 6, true) else ([], false)
theorem spec_FewAdd_ev (l : List Int) (t : Int) (h : l.length ≤ 1099511627776) : EV (fun k => spec_FewAdd.f k l t) (fewAdd l t) := by
  unfold spec_FewAdd.f fewAdd
  have stop : EV (fun k => spec_FewAdd.j0 k t true l) ([], false) := by
    refine EV.succ ?_
    simp only [spec_FewAdd.j0, if_true]
    exact EV.pure _
  refine EV.bind (spec_FewOk_ev l (by omega)) ?_
  by_cases c : fewB l = true
  · simp only [if_pos c, in_eq, Option.bind_some]
    by_cases d : 0 ≤ t ∧ t ≤ 63
    · simp only [decide_eq_true d, Bool.not_true]
      rw [if_pos ⟨c, d⟩]
      refine EV.succ ?_
      simp only [spec_FewAdd.j0, Bool.false_eq_true, if_false, spec_mark, markR_thing d, Option.bind_some]
      refine EV.bind (put_ev l _ h) ?_
      exact EV.pure _
    · simp only [decide_eq_false d, Bool.not_false]
      rw [if_neg (fun g => d g.2)]
      exact stop
  · simp only [if_neg c]
    rw [if_neg (fun g => c g.1)]
    exact stop
theorem fewAdd_len (l : List Int) (t : Int) : (fewAdd l t).1.length ≤ 6 := by
  unfold fewAdd
  split
  · simp; omega
  · simp
theorem l71Few_l0 {b : List Int} (hb : Code b) : ∀ (m : Nat) (l : List Int) (p : Int), 0 ≤ p → p + 2 * m ≤ 800000000 → m ≤ 1000 → l.length ≤ 6 →
    Tot (fun k => spec_l71Few.l0 k (m : Int) b p l) (fun r => r.1.length ≤ 7 ∧ p ≤ r.2 ∧ r.2 ≤ p + m + 1) := by
  intro m
  induction m with
  | zero =>
    intro l p h0 h1 _ hl
    refine Tot.succ ?_
    simp only [spec_l71Few.l0, if_neg (show ¬ ((0 : Nat) : Int) > 0 by omega)]
    refine Tot.bind (pick_tot 24 hb h0 (by omega) (by omega)) ?_
    rintro ⟨v, q⟩ ⟨g0, g1, rfl⟩
    by_cases c0 : v = 0
    · simp only [if_pos c0, if_pos (show l.length < 17592186044416 by omega)]
      exact Tot.pure _ ⟨by simp; omega, by simp only; omega, by simp only; omega⟩
    simp only [if_neg c0]
    by_cases c1 : v = 1
    · simp only [if_pos c1, if_pos (show l.length < 17592186044416 by omega)]
      exact Tot.pure _ ⟨by simp; omega, by simp only; omega, by simp only; omega⟩
    simp only [if_neg c1]
    exact Tot.pure _ ⟨by simp only; omega, by simp only; omega, by simp only; omega⟩
  | succ m ih =>
    intro l p h0 h1 hm hl
    refine Tot.succ ?_
    simp only [spec_l71Few.l0, if_pos (show ((m + 1 : Nat) : Int) > 0 by omega)]
    refine Tot.bind (pick_tot 64 hb h0 (by omega) (by omega)) ?_
    rintro ⟨v, q⟩ ⟨g0, g1, rfl⟩
    refine Tot.bind (Tot.of (spec_FewAdd_ev l v (by omega)) rfl) ?_
    rintro _ rfl
    have e1 : wrap64 (((m + 1 : Nat) : Int) - 1) = (m : Int) := by rw [w64 (by omega) (by omega)]; omega
    simp only [e1]
    refine (ih _ (p + 1) (by omega) (by omega) (by omega) (fewAdd_len l v)).mono fun r hr => ⟨hr.1, by omega, by omega⟩
theorem l71Few_tot {b : List Int} {p : Int} (hb : Code b) (hp : 0 ≤ p) (hp1 : p ≤ 500000000) :
    Tot (fun k => spec_l71Few.f k b p) (fun r => r.1.length ≤ 7 ∧ p ≤ r.2 ∧ r.2 ≤ p + 100) := by
  unfold spec_l71Few.f
  refine Tot.bind (pick_tot 10 hb hp (by omega) (by omega)) ?_
  rintro ⟨v, q⟩ ⟨g0, g1, rfl⟩
  simp only at g0 g1
  obtain ⟨n, rfl⟩ := Int.eq_ofNat_of_zero_le g0
  exact (l71Few_l0 hb n [] (p + 1) (by omega) (by omega) (by omega) (by simp)).mono fun r hr => ⟨hr.1, by omega, by omega⟩

end Go.Proofs.Ytnolipncjjclcaa.Ev

/- Merged marks: what of them is kept is the same whatever the order. No condition. -/
namespace Go.Proofs.Ytnolipncjjclcaa.Ev
open Go.RowKit Go.Proofs.YtnolipncjjclcaaW.PrintWords Go.Proofs.YtnolipncjjclcaaW.PrintLast Go.Proofs.Ytnolipncjjclcaa.PA

theorem mem_mrg (x y : List Int) (z : Int) : z ∈ mrg x y ↔ z ∈ x ∨ z ∈ y := by
  induction x, y using mrg.induct with
  | case1 => simp [mrg]
  | case2 y l2 ih => simp [mrg_nil_l]
  | case3 x l1 ih => simp [mrg_nil_r]
  | case4 x l1 y l2 h ih =>
    rw [mrg_lt h]
    simp only [List.mem_cons, ih]
    constructor
    · rintro (h | h | h | h) <;> simp [h]
    · rintro ((h | h) | h | h) <;> simp [h]
  | case5 x l1 y l2 h h' ih =>
    rw [mrg_gt h']
    simp only [List.mem_cons, ih]
    constructor
    · rintro (h | (h | h) | h) <;> simp [h]
    · rintro ((h | h) | h | h) <;> simp [h]
  | case6 x l1 y l2 h h' ih =>
    obtain rfl : x = y := by omega
    rw [mrg_eq]
    simp only [List.mem_cons, ih]
    constructor
    · rintro (h | h | h) <;> simp [h]
    · rintro ((h | h) | h | h) <;> simp [h]
theorem asc_mrg (x y : List Int) : ∀ b, asc b x = true → asc b y = true → asc b (mrg x y) = true := by
  induction x, y using mrg.induct with
  | case1 => intro b _ _; simp [mrg, asc]
  | case2 y l2 ih => intro b _ h; rw [mrg_nil_l]; exact h
  | case3 x l1 ih => intro b h _; rw [mrg_nil_r]; exact h
  | case4 x l1 y l2 h ih =>
    intro b hx hy
    obtain ⟨h1, h2⟩ := asc_cons.1 hx
    obtain ⟨h3, h4⟩ := asc_cons.1 hy
    rw [mrg_lt h]
    exact asc_cons.2 ⟨h1, ih x h2 (asc_cons.2 ⟨by omega, h4⟩)⟩
  | case5 x l1 y l2 h h' ih =>
    intro b hx hy
    obtain ⟨h1, h2⟩ := asc_cons.1 hx
    obtain ⟨h3, h4⟩ := asc_cons.1 hy
    rw [mrg_gt h']
    exact asc_cons.2 ⟨h3, ih y (asc_cons.2 ⟨by omega, h2⟩) h4⟩
  | case6 x l1 y l2 h h' ih =>
    obtain rfl : x = y := by omega
    intro b hx hy
    obtain ⟨h1, h2⟩ := asc_cons.1 hx
    obtain ⟨h3, h4⟩ := asc_cons.1 hy
    rw [mrg_eq]
    exact asc_cons.2 ⟨h1, ih x h2 h4⟩
theorem mrg_len (x y : List Int) : x.length ≤ (mrg x y).length ∧ (mrg x y).length ≤ x.length + y.length := by
  induction x, y using mrg.induct with
  | case1 => simp [mrg]
  | case2 y l2 ih => simp [mrg_nil_l]
  | case3 x l1 ih => simp [mrg_nil_r]
  | case4 x l1 y l2 h ih => rw [mrg_lt h]; simp only [List.length_cons] at ih ⊢; omega
  | case5 x l1 y l2 h h' ih => rw [mrg_gt h']; simp only [List.length_cons] at ih ⊢; omega
  | case6 x l1 y l2 h h' ih =>
    obtain rfl : x = y := by omega
    rw [mrg_eq]
    simp only [List.length_cons] at ih ⊢
    omega
theorem mrg_comm (x y : List Int) : mrg x y = mrg y x := by
  induction x, y using mrg.induct with
  | case1 => rfl
  | case2 y l2 ih => rw [mrg_nil_l, mrg_nil_r]
  | case3 x l1 ih => rw [mrg_nil_l, mrg_nil_r]
  | case4 x l1 y l2 h ih => rw [mrg_lt h, mrg_gt h, ih]
  | case5 x l1 y l2 h h' ih => rw [mrg_gt h', mrg_lt h', ih]
  | case6 x l1 y l2 h h' ih =>
    obtain rfl : x = y := by omega
    rw [mrg_eq, mrg_eq, ih]
theorem take_mrg (x y : List Int) : ∀ n m, n ≤ m → (mrg (x.take m) y).take n = (mrg x y).take n := by
  induction x, y using mrg.induct with
  | case1 => intro n m _; simp
  | case2 y l2 ih => intro n m _; simp
  | case3 x l1 ih =>
    intro n m h
    rw [mrg_nil_r, mrg_nil_r, List.take_take]
    congr 1
    omega
  | case4 x l1 y l2 h ih =>
    intro n m hm
    cases n with
    | zero => simp
    | succ n =>
      obtain ⟨m, rfl⟩ : ∃ k, m = k + 1 := ⟨m - 1, by omega⟩
      rw [List.take_succ_cons, mrg_lt h, mrg_lt h, List.take_succ_cons, List.take_succ_cons, ih n m (by omega)]
  | case5 x l1 y l2 h h' ih =>
    intro n m hm
    cases n with
    | zero => simp
    | succ n =>
      obtain ⟨m, rfl⟩ : ∃ k, m = k + 1 := ⟨m - 1, by omega⟩
      have := ih n (m + 1) (by omega)
      rw [List.take_succ_cons] at this
      rw [List.take_succ_cons, mrg_gt h', mrg_gt h', List.take_succ_cons, List.take_succ_cons, this]
  | case6 x l1 y l2 h h' ih =>
    obtain rfl : x = y := by omega
    intro n m hm
    cases n with
    | zero => simp
    | succ n =>
      obtain ⟨m, rfl⟩ : ∃ k, m = k + 1 := ⟨m - 1, by omega⟩
      rw [List.take_succ_cons, mrg_eq, mrg_eq, List.take_succ_cons, List.take_succ_cons, ih n m (by omega)]
/-- Ascending marks are told by what stands in them. -/
theorem asc_ext : ∀ (l l' : List Int) (b b' : Int), asc b l = true → asc b' l' = true → (∀ z, z ∈ l ↔ z ∈ l') → l = l'
  | [], [], _, _, _, _, _ => rfl
  | [], y :: l', _, _, _, _, h => by
    have := (h y).2 (by simp)
    cases this
  | x :: l, [], _, _, _, _, h => by
    have := (h x).1 (by simp)
    cases this
  | x :: l, y :: l', b, b', g, g', h => by
    obtain ⟨g1, g2⟩ := asc_cons.1 g
    obtain ⟨g1', g2'⟩ := asc_cons.1 g'
    have hx := (h x).1 (by simp)
    have hy := (h y).2 (by simp)
    have e : x = y := by
      rcases List.mem_cons.1 hx with e | hx
      · exact e
      rcases List.mem_cons.1 hy with e | hy
      · exact e.symm
      have a1 := asc_mem g2' x hx
      have a2 := asc_mem g2 y hy
      omega
    subst e
    rw [asc_ext l l' x x g2 g2' (fun z => ?_)]
    constructor
    · intro hz
      have a := asc_mem g2 z hz
      rcases List.mem_cons.1 ((h z).1 (List.mem_cons_of_mem _ hz)) with e | hz'
      · omega
      · exact hz'
    · intro hz
      have a := asc_mem g2' z hz
      rcases List.mem_cons.1 ((h z).2 (List.mem_cons_of_mem _ hz)) with e | hz'
      · omega
      · exact hz'
theorem mrg_assoc {x y z : List Int} {b : Int} (hx : asc b x = true) (hy : asc b y = true) (hz : asc b z = true) : mrg (mrg x y) z = mrg x (mrg y z) :=
  asc_ext _ _ b b (asc_mrg _ _ b (asc_mrg _ _ b hx hy) hz) (asc_mrg _ _ b hx (asc_mrg _ _ b hy hz)) (fun w => by simp only [mem_mrg, or_assoc])
theorem mrg_self {x : List Int} {b : Int} (hx : asc b x = true) : mrg x x = x :=
  asc_ext _ _ b b (asc_mrg _ _ b hx hx) hx (fun w => by simp only [mem_mrg, or_self])
/-- What is kept of both. -/
def kept (a b : List Int) : List Int := (mrg a b).take 6
theorem kept_len (a b : List Int) : (kept a b).length ≤ 6 := by
  unfold kept
  rw [List.length_take]
  omega
theorem kept_asc {a b : List Int} {c : Int} (ha : asc c a = true) (hb : asc c b = true) : asc c (kept a b) = true := asc_take 6 (asc_mrg _ _ c ha hb)
theorem kept_comm (a b : List Int) : kept a b = kept b a := by
  unfold kept
  rw [mrg_comm]
theorem kept_self {a : List Int} (ha : fewB a = true) : kept a a = a := by
  obtain ⟨h1, h2⟩ := fewB_iff.1 ha
  unfold kept
  rw [mrg_self h2, List.take_of_length_le h1]
theorem kept_l (a b : List Int) : kept (kept a b) = kept (mrg a b) := by
  funext c
  exact take_mrg (mrg a b) c 6 6 (Nat.le_refl _)
theorem kept_r (a b c : List Int) : kept a (kept b c) = kept a (mrg b c) := by rw [kept_comm, kept_l, kept_comm]
theorem kept_assoc {a b c : List Int} {d : Int} (ha : asc d a = true) (hb : asc d b = true) (hc : asc d c = true) : kept (kept a b) c = kept a (kept b c) := by
  rw [kept_l, kept_r]
  unfold kept
  rw [mrg_assoc ha hb hc]
theorem kept_again {a b : List Int} {d : Int} (ha : asc d a = true) (hb : asc d b = true) : kept (kept a b) b = kept a b := by
  rw [kept_l]
  unfold kept
  rw [mrg_assoc ha hb hb, mrg_self hb]
theorem kept_few {a b : List Int} (ha : fewB a = true) (hb : fewB b = true) : fewB (kept a b) = true :=
  fewB_iff.2 ⟨kept_len a b, kept_asc (fewB_iff.1 ha).2 (fewB_iff.1 hb).2⟩
theorem one_asc (t : Int) : asc (-1) [markOf t] = true := by
  have := markOf_bd t
  exact asc_cons.2 ⟨by omega, rfl⟩
theorem one_few (t : Int) : fewB [markOf t] = true := fewB_iff.2 ⟨by simp, one_asc t⟩
/-- What is not kept is not less than what is. -/
theorem kept_rest {a b : List Int} {c : Int} (ha : asc c a = true) (hb : asc c b = true) {z : Int} (hz : z ∈ mrg a b) (hn : ¬ z ∈ kept a b) : (kept a b).length = 6 ∧ ∀ w ∈ kept a b, w < z := by
  have hm := asc_mrg _ _ c ha hb
  unfold kept at hn ⊢
  generalize mrg a b = l at *
  have key : ∀ (n : Nat) (l : List Int) (c : Int), asc c l = true → z ∈ l → ¬ z ∈ l.take n → (l.take n).length = n ∧ ∀ w ∈ l.take n, w < z := by
    intro n
    induction n with
    | zero => intro l c _ _ _; simp
    | succ n ih =>
      intro l c hl hz hn
      cases l with
      | nil => cases hz
      | cons x l =>
        obtain ⟨g1, g2⟩ := asc_cons.1 hl
        rw [List.take_succ_cons] at hn ⊢
        have hx : z ≠ x := fun e => hn (by simp [e])
        have hzl : z ∈ l := by
          rcases List.mem_cons.1 hz with e | h
          · exact absurd e hx
          · exact h
        have := ih l x g2 hzl (fun h => hn (List.mem_cons_of_mem _ h))
        refine ⟨by simp [this.1], ?_⟩
        intro w hw
        rcases List.mem_cons.1 hw with rfl | hw
        · exact (asc_mem g2 z hzl).1
        · exact this.2 w hw
  exact key 6 l c hm hz hn

/-! what the reference computes -/
theorem drop1_asc : ∀ {l : List Int} {m : Int}, asc m l = true → drop1 m l = l := by
  intro l m h
  unfold drop1
  rw [List.filter_eq_self]
  intro x hx
  have := asc_mem h x hx
  simp
  omega
theorem putL_mrg (m : Int) : ∀ (l : List Int) (b : Int), asc b l = true → putL m l = mrg l [m]
  | [], _, _ => by rw [mrg_nil_l]; rfl
  | x :: l, b, h => by
    obtain ⟨h1, h2⟩ := asc_cons.1 h
    unfold putL
    by_cases c : x ≥ m
    · rw [if_pos c]
      by_cases d : x = m
      · subst d
        rw [mrg_eq, mrg_nil_r]
        have e := drop1_asc h2
        unfold drop1 at e ⊢
        rw [List.filter_cons_of_neg (by simp), e]
      · rw [mrg_gt (by omega), mrg_nil_r, drop1_asc (asc_cons.2 ⟨by omega, h2⟩)]
    · rw [if_neg c, mrg_lt (by omega), putL_mrg m l x h2]
theorem fewAdd_kept (l : List Int) (t : Int) : fewAdd l t = if fewB l = true ∧ 0 ≤ t ∧ t ≤ 63 then (kept l [markOf t], true) else ([], false) := by
  unfold fewAdd
  by_cases c : fewB l = true ∧ 0 ≤ t ∧ t ≤ 63
  · rw [if_pos c, if_pos c, putL_mrg _ l _ (fewB_iff.1 c.1).2]
    rfl
  · rw [if_neg c, if_neg c]
/-- What FewJoin tells. -/
def joinF (a b : List Int) : List Int × Bool := if fewB a = true ∧ fewB b = true then (kept a b, true) else ([], false)
theorem fold_kept : ∀ (b a : List Int) (c : Int), asc (-1) a = true → asc c b = true → -1 ≤ c → a.length ≤ 6 → b.foldl (fun acc m => (putL m acc).take 6) a = kept a b
  | [], a, _, _, _, _, h => by
    show a = (mrg a []).take 6
    rw [mrg_nil_r, List.take_of_length_le h]
  | m :: b, a, c, ha, hb, hc, h => by
    obtain ⟨h1, h2⟩ := asc_cons.1 hb
    have hm : asc (-1) [m] = true := asc_cons.2 ⟨by omega, rfl⟩
    have hb' : asc (-1) b = true := asc_mono (by omega) h2
    show b.foldl _ ((putL m a).take 6) = _
    rw [putL_mrg m a (-1) ha]
    rw [show (mrg a [m]).take 6 = kept a [m] from rfl, fold_kept b (kept a [m]) m (kept_asc ha hm) h2 (by omega) (kept_len _ _)]
    rw [kept_assoc ha hm hb']
    rw [kept_r]
    have : mrg [m] b = m :: b := by
      cases b with
      | nil => rw [mrg_nil_r]
      | cons y b => rw [mrg_lt (asc_cons.1 h2).1.1, mrg_nil_l]
    rw [this]
theorem low_few {l : List Int} (h : fewB l = true) : fits l = true := by
  obtain ⟨h1, h2⟩ := fewB_iff.1 h
  unfold fits low
  rw [decide_eq_true h1, Bool.true_and, List.all_eq_true]
  intro x hx
  exact decide_eq_true (asc_mem h2 x hx).2
theorem least_eq {a b : List Int} (ha : fewB a = true) (hb : fewB b = true) : impl_leastOf.f a b = some (kept a b) := by
  unfold impl_leastOf.f leastF kept
  rw [low_few ha, low_few hb]
  rfl

end Go.Proofs.Ytnolipncjjclcaa.Ev

/- What FewJoin and FewAdd of the program and the reference tell: the same. The draws of two. Conditions: lists shorter than 2^40. -/
namespace Go.Proofs.Ytnolipncjjclcaa.Ev
open Go.RowKit Go.Proofs.YtnolipncjjclcaaW.PrintWords Go.Proofs.YtnolipncjjclcaaW.PrintLast Go.Proofs.Ytnolipncjjclcaa.PA

theorem spec_FewJoin_l0 (L : List Int) (hL : L.length ≤ 1048576) : ∀ (suf pre acc : List Int), pre ++ suf = L → acc.length ≤ 1099511627776 →
    EV (fun k => spec_FewJoin.l0 k acc (pre.length : Int) L) (suf.foldl (fun acc m => (putL m acc).take 6) acc, true) := by
  intro suf
  induction suf with
  | nil =>
    intro pre acc e ha
    obtain rfl : pre = L := by simpa using e
    refine EV.succ ?_
    simp only [spec_FewJoin.l0, if_neg (show ¬ (pre.length : Int) < (pre.length : Int) by omega)]
    exact EV.pure _
  | cons x suf ih =>
    intro pre acc e ha
    have hl : (L.length : Int) = pre.length + suf.length + 1 := by rw [← e]; exact len_mid _ _ _
    have hx : rd L (pre.length : Int) = x := by rw [← e]; exact rd_mid _ _ _ _ rfl
    have hst : wrap64 ((pre.length : Int) + 1) = ((pre ++ [x]).length : Int) := by rw [len_snoc]; exact w64 (by omega) (by omega)
    refine EV.succ ?_
    simp only [spec_FewJoin.l0, hx, if_pos (show (pre.length : Int) < (L.length : Int) by omega), if_pos (show (0 : Int) ≤ (pre.length : Int) by omega), hst]
    refine EV.bind (put_ev acc x ha) ?_
    exact ih (pre ++ [x]) _ (by rw [← app_mid]; exact e) (by rw [List.length_take]; omega)
theorem spec_FewJoin_ev (a b : List Int) (ha : a.length ≤ 1048576) (hb : b.length ≤ 1048576) : EV (fun k => spec_FewJoin.f k a b) (joinF a b) := by
  unfold spec_FewJoin.f joinF
  have stop : EV (fun k => spec_FewJoin.j0 k true a b) ([], false) := by
    refine EV.succ ?_
    simp only [spec_FewJoin.j0, if_true]
    exact EV.pure _
  refine EV.bind (spec_FewOk_ev a (by omega)) ?_
  by_cases c : fewB a = true
  · simp only [if_pos c]
    refine EV.bind (spec_FewOk_ev b (by omega)) ?_
    by_cases d : fewB b = true
    · rw [if_pos ⟨c, d⟩]
      simp only [d, Bool.not_true]
      refine EV.succ ?_
      simp only [spec_FewJoin.j0, Bool.false_eq_true, if_false, Option.bind_some, List.nil_append]
      simp only [if_pos (show ([] : List Int).length + a.length < 17592186044416 by simp; omega)]
      refine (spec_FewJoin_l0 b hb b [] a rfl (by omega)).cast ?_
      obtain ⟨h1, h2⟩ := fewB_iff.1 c
      obtain ⟨h3, h4⟩ := fewB_iff.1 d
      rw [fold_kept b a (-1) h2 h4 (by omega) h1]
    · rw [if_neg (fun g => d g.2)]
      simp only [d, Bool.not_false]
      exact stop
  · simp only [if_neg c]
    rw [if_neg (fun g => c g.1)]
    exact stop
theorem impl_FewJoin_ev (a b : List Int) (ha : a.length ≤ 1048576) (hb : b.length ≤ 1048576) : EV (fun k => impl_FewJoin.f k a b) (joinF a b) := by
  unfold impl_FewJoin.f joinF
  refine EV.bind (impl_FewOk_ev a (by omega)) ?_
  by_cases c : fewB a = true
  · simp only [if_pos c]
    refine EV.bind (impl_FewOk_ev b (by omega)) ?_
    by_cases d : fewB b = true
    · rw [if_pos (show fewB a = true ∧ fewB b = true from ⟨c, d⟩)]
      simp only [if_pos d, least_eq c d, Option.bind_some]
      exact EV.pure _
    · rw [if_neg (show ¬ (fewB a = true ∧ fewB b = true) from fun g => d g.2)]
      simp only [if_neg d]
      exact EV.pure _
  · simp only [if_neg c]
    rw [if_neg (show ¬ (fewB a = true ∧ fewB b = true) from fun g => c g.1)]
    exact EV.pure _
theorem impl_FewAdd_ev (l : List Int) (t : Int) (h : l.length ≤ 1048576) : EV (fun k => impl_FewAdd.f k l t) (fewAdd l t) := by
  rw [fewAdd_kept]
  unfold impl_FewAdd.f
  have stop : EV (fun k => impl_FewAdd.j0 k t true l) ([], false) := by
    refine EV.succ ?_
    simp only [impl_FewAdd.j0, if_true]
    exact EV.pure _
  refine EV.bind (impl_FewOk_ev l (by omega)) ?_
  by_cases c : fewB l = true
  · simp only [if_pos c, thing_eq, Option.bind_some]
    by_cases d : 0 ≤ t ∧ t ≤ 63
    · simp only [decide_eq_true d, Bool.not_true]
      rw [if_pos ⟨c, d⟩]
      refine EV.succ ?_
      simp only [impl_FewAdd.j0, Bool.false_eq_true, if_false, impl_mark, markR_thing d, Option.bind_some, least_eq c (one_few t)]
      exact EV.pure _
    · simp only [decide_eq_false d, Bool.not_false]
      rw [if_neg (fun g => d g.2)]
      exact stop
  · simp only [if_neg c]
    rw [if_neg (fun g => c g.1)]
    exact stop
theorem lkInts_l0 (L : List Int) (hL : L.length < 1125899906842624) : ∀ (suf pre : List Int), pre ++ suf = L → EV (fun k => laws_lkInts.l0 k L L (pre.length : Int)) true := by
  intro suf
  induction suf with
  | nil =>
    intro pre e
    obtain rfl : pre = L := by simpa using e
    refine EV.succ ?_
    simp only [laws_lkInts.l0, if_neg (show ¬ (pre.length : Int) < (pre.length : Int) by omega)]
    exact EV.pure _
  | cons x suf ih =>
    intro pre e
    have hl : (L.length : Int) = pre.length + suf.length + 1 := by rw [← e]; exact len_mid _ _ _
    refine EV.succ ?_
    simp only [laws_lkInts.l0, if_pos (show (pre.length : Int) < (L.length : Int) by omega), if_pos (show (0 : Int) ≤ (pre.length : Int) by omega), if_true]
    rw [w64 (x := (pre.length : Int) + 1) (by omega) (by omega), ← len_snoc pre x]
    exact ih (pre ++ [x]) (by rw [← app_mid]; exact e)
theorem lkInts_ev (l : List Int) (h : l.length < 1125899906842624) : EV (fun k => laws_lkInts.f k l l) true := by
  unfold laws_lkInts.f
  simp only [if_true]
  exact lkInts_l0 l h l [] rfl
theorem lkInts_tot {l m : List Int} (e : l = m) (h : l.length < 1125899906842624) : Tot (fun k => laws_lkInts.f k l m) (fun b => b = true) := by
  subst e
  exact Tot.of (lkInts_ev l h) rfl
theorem joinF_len (a b : List Int) : (joinF a b).1.length ≤ 6 := by
  unfold joinF
  split
  · exact kept_len a b
  · simp
theorem joinF_ok {a b : List Int} (ha : fewB a = true) (hb : fewB b = true) : joinF a b = (kept a b, true) := if_pos ⟨ha, hb⟩
theorem joinF_not {a b : List Int} (h : ¬ (fewB a = true ∧ fewB b = true)) : joinF a b = ([], false) := if_neg h
theorem fewAdd_ok {l : List Int} {t : Int} (hl : fewB l = true) (h0 : 0 ≤ t) (h1 : t ≤ 63) : fewAdd l t = (kept l [markOf t], true) := by
  rw [fewAdd_kept]
  exact if_pos ⟨hl, h0, h1⟩
theorem fewAdd_not {l : List Int} {t : Int} (h : ¬ (fewB l = true ∧ 0 ≤ t ∧ t ≤ 63)) : fewAdd l t = ([], false) := by
  rw [fewAdd_kept]
  exact if_neg h
theorem nil_few : fewB [] = true := rfl

end Go.Proofs.Ytnolipncjjclcaa.Ev

/- The exact laws' own functions over marks (szFew, toFew, eqFew). Conditions: lists of at most 2^63 - 1. -/
namespace Go.Proofs.Ytnolipncjjclcaa.Ev
open Go.RowKit Go.Proofs.YtnolipncjjclcaaW.PrintWords Go.Proofs.YtnolipncjjclcaaW.PrintLast Go.Proofs.Ytnolipncjjclcaa.PA

theorem toIntS_l0 (L : List Int) (hL : L.length < 1125899906842624) : ∀ (suf pre : List Int), pre ++ suf = L →
    EV (fun k => laws_toIntS.l0 k L (pre ++ List.replicate suf.length 0) (pre.length : Int)) L := by
  intro suf
  induction suf with
  | nil =>
    intro pre e
    obtain rfl : pre = L := by simpa using e
    refine EV.succ ?_
    simp only [laws_toIntS.l0, if_neg (show ¬ (pre.length : Int) < (pre.length : Int) by omega)]
    exact (EV.pure _).cast (by simp)
  | cons x suf ih =>
    intro pre e
    have hl : (L.length : Int) = pre.length + suf.length + 1 := by rw [← e]; exact len_mid _ _ _
    have hx : rd L (pre.length : Int) = x := by rw [← e]; exact rd_mid _ _ _ _ rfl
    have hs : (pre ++ List.replicate (x :: suf).length 0).set (pre.length : Int).toNat x = (pre ++ [x]) ++ List.replicate suf.length 0 := by
      rw [List.length_cons, List.replicate_succ, set_mid _ _ _ _ _ (by simp)]
      simp
    have hn : (pre.length : Int) < ((pre ++ List.replicate (x :: suf).length 0).length : Int) := by simp; omega
    refine EV.succ ?_
    simp only [laws_toIntS.l0, hx, if_pos (show (pre.length : Int) < (L.length : Int) by omega), if_pos (show (0 : Int) ≤ (pre.length : Int) by omega), if_pos hn, hs]
    rw [w64 (x := (pre.length : Int) + 1) (by omega) (by omega), ← len_snoc pre x]
    exact ih (pre ++ [x]) (by rw [← app_mid]; exact e)
theorem toFew_ev (l : List Int) (h : l.length ≤ 1048576) : EV (fun k => laws_toFew.f k l) l := by
  unfold laws_toFew.f laws_toIntS.f
  simp only [if_pos (show 0 ≤ (l.length : Int) by omega), Int.toNat_natCast, if_pos (show l.length ≤ 35184372088832 by omega)]
  refine EV.bind (toIntS_l0 l (by omega) l [] rfl) ?_
  exact EV.pure _
theorem eqIntS_l0 (L : List Int) (hL : L.length < 1125899906842624) : ∀ (suf pre : List Int), pre ++ suf = L → EV (fun k => laws_eqIntS.l0 k L L (pre.length : Int)) true := by
  intro suf
  induction suf with
  | nil =>
    intro pre e
    obtain rfl : pre = L := by simpa using e
    refine EV.succ ?_
    simp only [laws_eqIntS.l0, if_neg (show ¬ (pre.length : Int) < (pre.length : Int) by omega)]
    exact EV.pure _
  | cons x suf ih =>
    intro pre e
    have hl : (L.length : Int) = pre.length + suf.length + 1 := by rw [← e]; exact len_mid _ _ _
    refine EV.succ ?_
    simp only [laws_eqIntS.l0, if_pos (show (pre.length : Int) < (L.length : Int) by omega), if_pos (show (0 : Int) ≤ (pre.length : Int) by omega), if_true]
    rw [w64 (x := (pre.length : Int) + 1) (by omega) (by omega), ← len_snoc pre x]
    exact ih (pre ++ [x]) (by rw [← app_mid]; exact e)
theorem eqFew_ev (l : List Int) (h : l.length < 1125899906842624) : EV (fun k => laws_eqFew.f k l l) true := by
  unfold laws_eqFew.f laws_eqIntS.f
  simp only [if_true]
  refine EV.bind (eqIntS_l0 l h l [] rfl) ?_
  simp only [if_true]
  exact EV.pure _
theorem szFew_eq (l : List Int) (a : Int) (h0 : 0 ≤ a) (h1 : a ≤ 1048576) (h : l.length ≤ 9223372036854775807) : laws_szFew.f l a = some (if a < (l.length : Int) then (-1 : Int) else a - l.length) := by
  unfold laws_szFew.f laws_szIntS.f
  rw [w64 (x := a - (l.length : Int)) (by omega) (by omega)]
  by_cases c : a < (l.length : Int)
  · rw [if_pos (show a - (l.length : Int) < 0 by omega), if_pos c]
    rfl
  · rw [if_neg (show ¬ a - (l.length : Int) < 0 by omega), if_neg c]
    simp only [Option.bind_some]
    rw [if_neg (show ¬ a - (l.length : Int) < 0 by omega)]

end Go.Proofs.Ytnolipncjjclcaa.Ev

/- Marking and holding of marks in an exact law: what was marked from 1 on is held. Conditions: lists of at most 2^20. -/
namespace Go.Proofs.Ytnolipncjjclcaa.Ev
open Go.RowKit Go.Proofs.YtnolipncjjclcaaW.PrintWords Go.Proofs.YtnolipncjjclcaaW.PrintLast Go.Proofs.Ytnolipncjjclcaa.PA

/-- n numbers, from k on. -/
def upFrom : Int → Nat → List Int
  | _, 0 => []
  | k, n + 1 => k :: upFrom (k + 1) n
theorem upFrom_len : ∀ (n : Nat) (k : Int), (upFrom k n).length = n
  | 0, _ => rfl
  | n + 1, k => by
    show (upFrom (k + 1) n).length + 1 = n + 1
    rw [upFrom_len n]
theorem mark_l0 : ∀ (suf pre : List Int) (k0 : Int), pre.length + suf.length ≤ 4294967296 → 0 ≤ k0 → k0 + suf.length ≤ 1099511627776 →
    EV (fun k => laws_markIntS.l0 k (pre ++ suf) k0 (pre.length : Int)) (k0 + suf.length, pre ++ upFrom k0 suf.length) := by
  intro suf
  induction suf with
  | nil =>
    intro pre k0 _ _ _
    refine EV.succ ?_
    simp only [laws_markIntS.l0, List.append_nil, if_neg (show ¬ (pre.length : Int) < (pre.length : Int) by omega)]
    exact (EV.pure _).cast (by simp [upFrom])
  | cons x suf ih =>
    intro pre k0 h h0 h1
    simp only [List.length_cons] at h h1
    have hl : (((pre ++ x :: suf).length : Nat) : Int) = pre.length + suf.length + 1 := len_mid _ _ _
    have hst : wrap64 ((pre.length : Int) + 1) = ((pre ++ [k0]).length : Int) := by rw [len_snoc]; exact w64 (by omega) (by omega)
    have hk : wrap64 (k0 + 1) = k0 + 1 := w64 (by omega) (by omega)
    have hpl : (pre ++ [k0]).length = pre.length + 1 := by simp
    refine EV.succ ?_
    simp only [laws_markIntS.l0, if_pos (show (pre.length : Int) < ((pre ++ x :: suf).length : Int) by omega), if_pos (show (0 : Int) ≤ (pre.length : Int) by omega), hst, hk, Int.toNat_natCast, set_mid pre suf x k0 _ rfl]
    rw [app_mid pre suf k0]
    refine (ih (pre ++ [k0]) (k0 + 1) (by omega) (by omega) (by omega)).cast ?_
    simp only [List.length_cons, upFrom, List.append_assoc, List.singleton_append, Prod.mk.injEq, and_true]
    omega
theorem markFew_ev (l : List Int) (k0 : Int) (h : l.length ≤ 4294967296) (h0 : 0 ≤ k0) (h1 : k0 + l.length ≤ 1099511627776) : EV (fun k => laws_markFew.f k l k0) (k0 + l.length, upFrom k0 l.length) := by
  unfold laws_markFew.f laws_markIntS.f
  refine EV.bind (mark_l0 l [] k0 (by simpa using h) h0 h1) ?_
  exact EV.pure _
theorem held_l0 : ∀ (n : Nat) (pre : List Int) (k0 : Int), pre.length + n ≤ 4294967296 → 0 ≤ k0 → k0 + n ≤ 1099511627776 →
    EV (fun k => laws_heldIntS.l0 k (pre ++ upFrom k0 n) k0 (pre.length : Int)) (k0 + n) := by
  intro n
  induction n with
  | zero =>
    intro pre k0 _ _ _
    refine EV.succ ?_
    simp only [upFrom, laws_heldIntS.l0, List.append_nil, if_neg (show ¬ (pre.length : Int) < (pre.length : Int) by omega)]
    exact (EV.pure _).cast (by simp)
  | succ n ih =>
    intro pre k0 h h0 h1
    have hl : (((pre ++ k0 :: upFrom (k0 + 1) n).length : Nat) : Int) = pre.length + (upFrom (k0 + 1) n).length + 1 := len_mid _ _ _
    rw [upFrom_len] at hl
    have hx : rd (pre ++ k0 :: upFrom (k0 + 1) n) (pre.length : Int) = k0 := rd_mid _ _ _ _ rfl
    have hst : wrap64 ((pre.length : Int) + 1) = ((pre ++ [k0]).length : Int) := by rw [len_snoc]; exact w64 (by omega) (by omega)
    have hk : wrap64 (k0 + 1) = k0 + 1 := w64 (by omega) (by omega)
    have hpl : (pre ++ [k0]).length = pre.length + 1 := by simp
    refine EV.succ ?_
    simp only [upFrom, laws_heldIntS.l0, hx, if_pos (show (pre.length : Int) < ((pre ++ k0 :: upFrom (k0 + 1) n).length : Int) by omega), if_pos (show (0 : Int) ≤ (pre.length : Int) by omega), hst, hk, if_true]
    rw [app_mid pre (upFrom (k0 + 1) n) k0]
    refine (ih (pre ++ [k0]) (k0 + 1) (by omega) (by omega) (by omega)).cast ?_
    omega
theorem heldFew_ev (n : Nat) (k0 : Int) (h : n ≤ 4294967296) (h0 : 0 ≤ k0) (h1 : k0 + n ≤ 1099511627776) : EV (fun k => laws_heldFew.f k (upFrom k0 n) k0) (k0 + n) := by
  unfold laws_heldFew.f laws_heldIntS.f
  have := held_l0 n [] k0 (by simpa using h) h0 h1
  refine EV.bind this ?_
  simp only [if_neg (show ¬ k0 + (n : Int) < 0 by omega)]
  exact EV.pure _

end Go.Proofs.Ytnolipncjjclcaa.Ev

/- FnExactFewJoin: the program's FewJoin tells what the reference's tells, of all marks; what it told is its own. -/
namespace Go.Proofs.Ytnolipncjjclcaa.Pure
open Go.RowKit Go.Proofs.Ytnolipncjjclcaa.PA Go.Proofs.YtnolipncjjclcaaW.PrintWords Go.Proofs.YtnolipncjjclcaaW.PrintLast Go.Proofs.Ytnolipncjjclcaa.Ev

theorem FnExactFewJoin (l m : List Int) (hl : l.length ≤ 9223372036854775807) (hm : m.length ≤ 9223372036854775807) : ∃ k, laws_FnExactFewJoin.f k l m = some true := by
  refine EV.get ?_
  unfold laws_FnExactFewJoin.f
  rw [szFew_eq l 1048576 (by omega) (by omega) hl]
  simp only [Option.bind_some]
  by_cases c : (1048576 : Int) < l.length
  · simp only [if_pos c, if_pos (show (-1 : Int) < 0 by omega)]
    exact EV.pure _
  simp only [if_neg c, if_neg (show ¬ (1048576 : Int) - l.length < 0 by omega)]
  rw [szFew_eq m (1048576 - l.length) (by omega) (by omega) hm]
  simp only [Option.bind_some]
  by_cases d : (1048576 : Int) - l.length < m.length
  · simp only [if_pos d, if_pos (show (-1 : Int) < 0 by omega)]
    exact EV.pure _
  simp only [if_neg d, if_neg (show ¬ (1048576 : Int) - l.length - m.length < 0 by omega)]
  have t := toFew_ev l (by omega)
  have u := toFew_ev m (by omega)
  have hr := joinF_len l m
  generalize hR : joinF l m = R at hr
  obtain ⟨w, told⟩ := R
  simp only at hr
  have sp : EV (fun k => spec_FewJoin.f k l m) (w, told) := (spec_FewJoin_ev l m (by omega) (by omega)).cast hR
  have im : EV (fun k => impl_FewJoin.f k l m) (w, told) := (impl_FewJoin_ev l m (by omega) (by omega)).cast hR
  have ew := eqFew_ev w (by omega)
  have hd := heldFew_ev w.length 1 (by omega) (by omega) (by omega)
  refine EV.bind t (EV.bind u (EV.bind sp (EV.bind t (EV.bind u (EV.bind im (EV.bind ew ?_))))))
  simp only [if_true, bne_self_eq_false]
  refine EV.succ ?_
  simp only [laws_FnExactFewJoin.j0, Bool.false_eq_true, if_false]
  refine EV.bind t (EV.bind (eqFew_ev l (by omega)) ?_)
  simp only [if_true]
  refine EV.bind u (EV.bind (eqFew_ev m (by omega)) ?_)
  simp only [if_true]
  refine EV.bind (markFew_ev l 1 (by omega) (by omega) (by omega)) (EV.bind (markFew_ev m _ (by omega) (by simp only; omega) (by simp only; omega)) ?_)
  simp only [if_neg (show ¬ 1 + (l.length : Int) + (m.length : Int) < 0 by omega)]
  refine EV.bind ew ?_
  simp only [if_true, bne_self_eq_false]
  refine EV.succ ?_
  simp only [laws_FnExactFewJoin.j1, Bool.false_eq_true, if_false]
  refine EV.bind (markFew_ev w 1 (by omega) (by omega) (by omega)) (EV.bind hd ?_)
  simp only [if_neg (show ¬ 1 + (w.length : Int) < 0 by omega), if_true]
  refine EV.bind t (EV.bind u (EV.bind im (EV.bind ew ?_)))
  simp only [if_true, bne_self_eq_false]
  refine EV.succ ?_
  simp only [laws_FnExactFewJoin.j2, Bool.false_eq_true, if_false]
  refine EV.bind hd ?_
  simp only [if_neg (show ¬ 1 + (w.length : Int) < 0 by omega), if_true]
  exact EV.pure _

end Go.Proofs.Ytnolipncjjclcaa.Pure
