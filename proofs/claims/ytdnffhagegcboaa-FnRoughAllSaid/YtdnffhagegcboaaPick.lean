/- The reader of a code: l6Open and pick tell something for every code; pick tells a number from 0 to n - 1. No condition. -/
import Derived.Test.YtdnffhagegcboaaEv
import Derived.Test.YtdnffhagegcboaaPAx9
import Derived.Test.YtdnffhagegcboaaPAx11
import Derived.Test.YtdnffhagegcboaaPAx2
namespace Go.Proofs.Ytdnffhagegcboaa.Ev
open Go.RowKit Go.Proofs.YtdnffhagegcboaaW.PrintWords Go.Proofs.YtdnffhagegcboaaW.PrintLast Go.Proofs.Ytdnffhagegcboaa.PA

/-- A code's bytes, cut to 2000. -/
def Code (l : List Int) : Prop := l.length ≤ 2000 ∧ ∀ x ∈ l, 0 ≤ x ∧ x ≤ 255

theorem u8_range {l : List Int} (h : ∀ x ∈ l, (Lit.int .u8 x).wf = true) : ∀ x ∈ l, 0 ≤ x ∧ x ≤ 255 := by
  intro x hx
  have := h x hx
  simp [Lit.wf, IntKind.min, IntKind.max, IntKind.bits, IntKind.signed] at this
  exact this
theorem open_ev (l : List Int) (h : ∀ x ∈ l, (Lit.int .u8 x).wf = true) : ∃ b, Code b ∧ spec_l6Open.f l = some (b, 0) := by
  have h' := u8_range h
  unfold spec_l6Open.f
  by_cases hl : (l.length : Int) > 2000
  · rw [if_pos hl, if_pos (by omega)]
    exact ⟨l.take 2000, ⟨by simp; omega, fun x hx => h' x (List.mem_of_mem_take hx)⟩, rfl⟩
  · rw [if_neg hl]
    exact ⟨l, ⟨by omega, h'⟩, rfl⟩
theorem rd_byte {l : List Int} (h : Code l) (i : Int) : 0 ≤ rd l i ∧ rd l i ≤ 255 := by
  unfold rd
  rw [List.getD_eq_getElem?_getD]
  cases e : l[i.toNat]? with
  | none => simp
  | some x => simpa using h.2 x (List.mem_of_getElem? e)
theorem xor_nonneg (x y : Int) (h0 : 0 ≤ x) (h1 : x < 1099511627776) (h2 : 0 ≤ y) (h3 : y < 1099511627776) : 0 ≤ bits .xor .i64 x y ∧ bits .xor .i64 x y < 1099511627776 := by
  obtain ⟨a, rfl⟩ := Int.eq_ofNat_of_zero_le h0
  obtain ⟨b, rfl⟩ := Int.eq_ofNat_of_zero_le h2
  have ha : a % 2 ^ 64 = a := Nat.mod_eq_of_lt (by omega)
  have hb : b % 2 ^ 64 = b := Nat.mod_eq_of_lt (by omega)
  have hx : a ^^^ b < 2 ^ 40 := Nat.xor_lt_two_pow (by omega) (by omega)
  have e : bits .xor .i64 (a : Int) (b : Int) = ((a ^^^ b : Nat) : Int) := by
    show IntKind.i64.wrap ((((BitVec.ofInt 64 (a : Int)) ^^^ (BitVec.ofInt 64 (b : Int))).toNat : Nat) : Int) = _
    rw [i64_w, BitVec.ofInt_natCast, BitVec.ofInt_natCast, BitVec.toNat_xor, BitVec.toNat_ofNat, BitVec.toNat_ofNat, ha, hb]
    exact w64 (by omega) (by omega)
  rw [e]
  omega
theorem tmod_range (x n : Int) (h0 : 0 ≤ x) (hn : 0 < n) : 0 ≤ Int.tmod x n ∧ Int.tmod x n < n :=
  ⟨Int.tmod_nonneg _ h0, Int.tmod_lt_of_pos _ hn⟩

/-- pick: a number from 0 to n - 1; the place is one further. -/
theorem pick_ev (b : List Int) (p n : Int) (hb : Code b) (hp : 0 ≤ p) (hp1 : p ≤ 1000000000) (hn : 1 ≤ n) :
    ∃ r, EV (fun k => spec_l6Rd_pick.f k b p n) (r, p + 1) ∧ 0 ≤ r ∧ r < n := by
  have hl := hb.1
  have e1 : wrap64 (p + 1) = p + 1 := w64 (by omega) (by omega)
  have e2 : wrap64 (p + 1 - 1) = p := by rw [w64 (by omega) (by omega)]; omega
  simp only [spec_l6Rd_pick.f, e1, if_neg (show ¬ n < 1 by omega)]
  by_cases hz : b = []
  · subst hz
    refine ⟨0, EV.succ ?_, by omega, by omega⟩
    simp only [spec_l6Rd_pick.j0]
    exact EV.pure _
  · have hlen : 0 < b.length := List.length_pos_iff.2 hz
    have hf : ((b.length : Int) == 0) = false := by simp; exact hz
    by_cases hlt : p < (b.length : Int)
    · refine ⟨Int.tmod (wrap64 (rd b p)) n, EV.succ ?_, ?_⟩
      · simp only [spec_l6Rd_pick.j0, hf, e2, if_pos hlt, if_pos hp, if_neg (show ¬ n = 0 by omega), Bool.false_eq_true, if_false]
        exact EV.pure _
      · have hr := rd_byte hb p
        rw [w64 (by omega) (by omega)]
        exact tmod_range _ _ hr.1 (by omega)
    · have q0 := tmod_range p (b.length : Int) hp (by omega)
      have e3 : wrap64 (p * 7) = p * 7 := w64 (by omega) (by omega)
      have e4 : wrap64 (p * 7 + 3) = p * 7 + 3 := w64 (by omega) (by omega)
      have q1 := tmod_range (p * 7 + 3) (b.length : Int) (by omega) (by omega)
      have r0 := rd_byte hb (Int.tmod p (b.length : Int))
      have r1 := rd_byte hb (Int.tmod (p * 7 + 3) (b.length : Int))
      have d0 : Int.tdiv p (b.length : Int) = p / (b.length : Int) := Int.tdiv_eq_ediv_of_nonneg hp
      have d1 : 0 ≤ p / (b.length : Int) := Int.ediv_nonneg hp (by omega)
      have d2 : p / (b.length : Int) ≤ p := Int.ediv_le_self _ hp
      generalize hA : rd b (Int.tmod p (b.length : Int)) = A at *
      generalize hB : rd b (Int.tmod (p * 7 + 3) (b.length : Int)) = B at *
      generalize hD : p / (b.length : Int) = D at *
      have w1 : wrap64 A = A := w64 (by omega) (by omega)
      have w2 : wrap64 B = B := w64 (by omega) (by omega)
      have w3 : wrap64 (A * 131) = A * 131 := w64 (by omega) (by omega)
      have w4 : wrap64 (B * 1117) = B * 1117 := w64 (by omega) (by omega)
      have w5 : wrap64 (A * 131 + B * 1117) = A * 131 + B * 1117 := w64 (by omega) (by omega)
      have w6 : wrap64 (p * 29) = p * 29 := w64 (by omega) (by omega)
      have w7 : wrap64 (A * 131 + B * 1117 + p * 29) = A * 131 + B * 1117 + p * 29 := w64 (by omega) (by omega)
      have w8 : wrap64 D = D := w64 (by omega) (by omega)
      have w9 : wrap64 (D * 53) = D * 53 := w64 (by omega) (by omega)
      have wa : wrap64 (A * 131 + B * 1117 + p * 29 + D * 53) = A * 131 + B * 1117 + p * 29 + D * 53 := w64 (by omega) (by omega)
      generalize hX : A * 131 + B * 1117 + p * 29 + D * 53 = X at *
      have X0 : 0 ≤ X := by omega
      have X1 : X < 1099511627776 := by omega
      have t64 : Int.tdiv X 64 = X / 64 := Int.tdiv_eq_ediv_of_nonneg X0
      have wb : wrap64 (X / 64) = X / 64 := w64 (by omega) (by omega)
      have xr := xor_nonneg X (X / 64) X0 X1 (by omega) (by omega)
      refine ⟨Int.tmod (bits .xor .i64 X (X / 64)) n, EV.succ ?_, tmod_range _ _ xr.1 (by omega)⟩
      simp only [spec_l6Rd_pick.j0, hf, e2, e3, e4, if_neg hlt, if_neg (show ¬ (b.length : Int) = 0 by omega), if_pos q0.1, if_pos q0.2, if_pos q1.1, if_pos q1.2,
        if_neg (show ¬ n = 0 by omega), Bool.false_eq_true, if_false, hA, hB, d0, w1, w2, w3, w4, w5, w6, w7, w8, w9, wa, hX, t64, wb]
      exact EV.pure _
/-- The same, as a step of a walk through a draw. -/
theorem pick_tot {b : List Int} {p : Int} (n : Int) (hb : Code b) (hp : 0 ≤ p) (hp1 : p ≤ 1000000000) (hn : 1 ≤ n) :
    Tot (fun k => spec_l6Rd_pick.f k b p n) (fun r => 0 ≤ r.1 ∧ r.1 < n ∧ r.2 = p + 1) := by
  obtain ⟨r, h, a, c⟩ := pick_ev b p n hb hp hp1 hn
  exact ⟨_, h, a, c, rfl⟩
theorem in_eq (a b c : Int) : spec_l6In.f a b c = some (decide (b ≤ a ∧ a ≤ c)) := by
  unfold spec_l6In.f
  by_cases h : a ≥ b
  · rw [if_pos h]
    simp [show b ≤ a from h]
  · rw [if_neg h]
    simp [show ¬ b ≤ a by omega]

end Go.Proofs.Ytdnffhagegcboaa.Ev
