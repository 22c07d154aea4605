/- Words for plain proofs about functions with a number of rounds: 'EV g r' says that with enough rounds g tells r, 'Tot g P' that with enough rounds g tells something of which P holds. No condition. -/
import Derived.Test.YtojhkhpgahhacaaPAx0
import Derived.Test.YtojhkhpgahhacaaPAx1
import Derived.Test.YtojhkhpgahhacaaPAx8
import Derived.Test.YtojhkhpgahhacaaPAx3
import Derived.Test.YtojhkhpgahhacaaPAx27
import Derived.Test.YtojhkhpgahhacaaWMore
import Derived.ProofKit
import Derived.OpenShut
import Derived.Deep.Slices
import Derived.Lib.SmallJoins
import Derived.Test.YtojhkhpgahhacaaPAx14
import Derived.Test.YtojhkhpgahhacaaPAx4
import Derived.Test.YtojhkhpgahhacaaPAx2
import Derived.Test.YtojhkhpgahhacaaPAx13
import Derived.Test.YtojhkhpgahhacaaPAx29
import Derived.Test.YtojhkhpgahhacaaPsz
import Derived.Test.YtojhkhpgahhacaaPto
import Derived.Test.YtojhkhpgahhacaaPeq
import Derived.Test.YtojhkhpgahhacaaPAx30
import Derived.Test.YtojhkhpgahhacaaPAx6
import Derived.Test.YtojhkhpgahhacaaPAx9
import Derived.Test.YtojhkhpgahhacaaPAx5
import Derived.Test.YtojhkhpgahhacaaPAx7
import Derived.Test.YtojhkhpgahhacaaPAx25
import Derived.Test.YtojhkhpgahhacaaPAx15
import Derived.Test.YtojhkhpgahhacaaPAx20
import Derived.Test.YtojhkhpgahhacaaPAx23
import Derived.Test.YtojhkhpgahhacaaPAx21
import Derived.Test.YtojhkhpgahhacaaPAx12
import Derived.Test.YtojhkhpgahhacaaPmark
import Derived.Test.YtojhkhpgahhacaaPheld
import Derived.Test.YtojhkhpgahhacaaPAx62
namespace Go.Proofs.Ytojhkhpgahhacaa.Ev
open Go.RowKit Go.Proofs.YtojhkhpgahhacaaW.PrintWords Go.Proofs.YtojhkhpgahhacaaW.PrintLast

def EV {α : Type} (g : Nat → Option α) (r : α) : Prop := ∃ n, ∀ k, n ≤ k → g k = some r
def Tot {α : Type} (g : Nat → Option α) (P : α → Prop) : Prop := ∃ r, EV g r ∧ P r

theorem EV.pure {α : Type} (r : α) : EV (fun _ => some r) r := ⟨0, fun _ _ => rfl⟩
theorem EV.succ {α : Type} {g : Nat → Option α} {r : α} (h : EV (fun k => g (k + 1)) r) : EV g r := by
  obtain ⟨n, h⟩ := h
  refine ⟨n + 1, fun k hk => ?_⟩
  obtain ⟨m, rfl⟩ : ∃ m, k = m + 1 := ⟨k - 1, by omega⟩
  exact h m (by omega)
theorem EV.bind {α β : Type} {g : Nat → Option α} {h : α → Nat → Option β} {a : α} {r : β} (hg : EV g a) (hh : EV (h a) r) :
    EV (fun k => (g k).bind fun x => h x k) r := by
  obtain ⟨n, hg⟩ := hg
  obtain ⟨m, hh⟩ := hh
  refine ⟨n + m, fun k hk => ?_⟩
  show (g k).bind (fun x => h x k) = some r
  rw [hg k (by omega)]
  exact hh k (by omega)
theorem EV.get {α : Type} {g : Nat → Option α} {r : α} (h : EV g r) : ∃ k, g k = some r := by
  obtain ⟨n, h⟩ := h
  exact ⟨n, h n (Nat.le_refl _)⟩
theorem EV.cast {α : Type} {g : Nat → Option α} {r s : α} (h : EV g r) (e : r = s) : EV g s := e ▸ h
theorem EV.of_mono {α : Type} {g : Nat → Option α} {r : α} (hm : ∀ k, LeO (g k) (g (k + 1))) (n : Nat) (h : g n = some r) : EV g r := by
  refine ⟨n, fun k hk => ?_⟩
  obtain ⟨d, rfl⟩ : ∃ d, k = n + d := ⟨k - n, by omega⟩
  clear hk
  induction d with
  | zero => exact h
  | succ d ih => exact hm (n + d) r ih
theorem EV.uniq {α : Type} {g : Nat → Option α} {r s : α} (h : EV g r) (h' : EV g s) : r = s := by
  obtain ⟨n, h⟩ := h
  obtain ⟨m, h'⟩ := h'
  have a := h (n + m) (by omega)
  have b := h' (n + m) (by omega)
  rw [a] at b
  exact Option.some.inj b
theorem Tot.pure {α : Type} {P : α → Prop} (r : α) (h : P r) : Tot (fun _ => some r) P := ⟨r, EV.pure r, h⟩
theorem Tot.of {α : Type} {g : Nat → Option α} {P : α → Prop} {r : α} (h : EV g r) (p : P r) : Tot g P := ⟨r, h, p⟩
theorem Tot.succ {α : Type} {g : Nat → Option α} {P : α → Prop} (h : Tot (fun k => g (k + 1)) P) : Tot g P := by
  obtain ⟨r, h, p⟩ := h
  exact ⟨r, EV.succ h, p⟩
theorem Tot.bind {α β : Type} {g : Nat → Option α} {h : α → Nat → Option β} {P : α → Prop} {Q : β → Prop} (hg : Tot g P) (hh : ∀ a, P a → Tot (h a) Q) :
    Tot (fun k => (g k).bind fun x => h x k) Q := by
  obtain ⟨a, hg, p⟩ := hg
  obtain ⟨r, hr, q⟩ := hh a p
  exact ⟨r, EV.bind hg hr, q⟩
theorem Tot.mono {α : Type} {g : Nat → Option α} {P Q : α → Prop} (h : Tot g P) (i : ∀ a, P a → Q a) : Tot g Q := by
  obtain ⟨r, h, p⟩ := h
  exact ⟨r, h, i r p⟩
/-- A law's last step: what is told is true. -/
theorem Tot.true {g : Nat → Option Bool} (h : Tot g (fun b => b = Bool.true)) : EV g Bool.true := by
  obtain ⟨r, h, rfl⟩ := h
  exact h

theorem w64 {x : Int} (h0 : -9223372036854775808 ≤ x) (h1 : x ≤ 9223372036854775807) : wrap64 x = x := by
  unfold wrap64
  omega
theorem wr1 : wrap64 (0 + 1) = 1 := by rw [w64 (by omega) (by omega)]; rfl
theorem wr2 : wrap64 (1 + 1) = 2 := by rw [w64 (by omega) (by omega)]; rfl
theorem wr3 : wrap64 (2 + 1) = 3 := by rw [w64 (by omega) (by omega)]; rfl
theorem tdiv8 {x : Int} (h : 0 ≤ x) : Int.tdiv x 8 = x / 8 := Int.tdiv_eq_ediv_of_nonneg h
theorem tdiv2 {x : Int} (h : 0 ≤ x) : Int.tdiv x 2 = x / 2 := Int.tdiv_eq_ediv_of_nonneg h
theorem rd_mid (pre suf : List Int) (x : Int) (i : Int) (h : i = (pre.length : Int)) : rd (pre ++ x :: suf) i = x := by
  subst h
  unfold rd
  rw [Int.toNat_natCast]
  simp [List.getD_eq_getElem?_getD]
theorem getD_mid {α : Type} (pre suf : List α) (x z : α) : (pre ++ x :: suf).getD pre.length z = x := by
  simp [List.getD_eq_getElem?_getD]
theorem len_mid {α : Type} (pre suf : List α) (x : α) : (((pre ++ x :: suf).length : Nat) : Int) = (pre.length : Int) + suf.length + 1 := by
  simp
  omega
theorem app_mid {α : Type} (pre suf : List α) (x : α) : pre ++ x :: suf = (pre ++ [x]) ++ suf := by simp
theorem len_snoc {α : Type} (pre : List α) (x : α) : (((pre ++ [x]).length : Nat) : Int) = (pre.length : Int) + 1 := by simp

theorem set_mid {α : Type} (pre suf : List α) (x y : α) (n : Nat) (h : n = pre.length) : (pre ++ x :: suf).set n y = pre ++ y :: suf := by
  subst h
  simp

end Go.Proofs.Ytojhkhpgahhacaa.Ev

/- The reader of a code: l6Open and pick tell something for every code; pick tells a number from 0 to n - 1. No condition. -/
namespace Go.Proofs.Ytojhkhpgahhacaa.Ev
open Go.RowKit Go.Proofs.YtojhkhpgahhacaaW.PrintWords Go.Proofs.YtojhkhpgahhacaaW.PrintLast Go.Proofs.Ytojhkhpgahhacaa.PA

/-- A code's bytes, cut to 2000. -/
def Code (l : List Int) : Prop := l.length ≤ 2000 ∧ ∀ x ∈ l, 0 ≤ x ∧ x ≤ 255

theorem u8_range {l : List Int} (h : ∀ x ∈ l, (Lit.int .u8 x).wf = true) : ∀ x ∈ l, 0 ≤ x ∧ x ≤ 255 := by
  intro x hx
  have := h x hx
  simp [Lit.wf, IntKind.min, IntKind.max, IntKind.bits, IntKind.signed] at this
  exact this
theorem open_ev (l : List Int) (h : ∀ x ∈ l, (Lit.int .u8 x).wf = true) : ∃ b, Code b ∧ spec_l6Open.f l = some (b, 0) := by
  have h' := u8_range h
  unfold spec_l6Open.f
  by_cases hl : (l.length : Int) > 2000
  · rw [if_pos hl, if_pos (by omega)]
    exact ⟨l.take 2000, ⟨by simp; omega, fun x hx => h' x (List.mem_of_mem_take hx)⟩, rfl⟩
  · rw [if_neg hl]
    exact ⟨l, ⟨by omega, h'⟩, rfl⟩
theorem rd_byte {l : List Int} (h : Code l) (i : Int) : 0 ≤ rd l i ∧ rd l i ≤ 255 := by
  unfold rd
  rw [List.getD_eq_getElem?_getD]
  cases e : l[i.toNat]? with
  | none => simp
  | some x => simpa using h.2 x (List.mem_of_getElem? e)
theorem xor_nonneg (x y : Int) (h0 : 0 ≤ x) (h1 : x < 1099511627776) (h2 : 0 ≤ y) (h3 : y < 1099511627776) : 0 ≤ bits .xor .i64 x y ∧ bits .xor .i64 x y < 1099511627776 := by
  obtain ⟨a, rfl⟩ := Int.eq_ofNat_of_zero_le h0
  obtain ⟨b, rfl⟩ := Int.eq_ofNat_of_zero_le h2
  have ha : a % 2 ^ 64 = a := Nat.mod_eq_of_lt (by omega)
  have hb : b % 2 ^ 64 = b := Nat.mod_eq_of_lt (by omega)
  have hx : a ^^^ b < 2 ^ 40 := Nat.xor_lt_two_pow (by omega) (by omega)
  have e : bits .xor .i64 (a : Int) (b : Int) = ((a ^^^ b : Nat) : Int) := by
    show IntKind.i64.wrap ((((BitVec.ofInt 64 (a : Int)) ^^^ (BitVec.ofInt 64 (b : Int))).toNat : Nat) : Int) = _
    rw [i64_w, BitVec.ofInt_natCast, BitVec.ofInt_natCast, BitVec.toNat_xor, BitVec.toNat_ofNat, BitVec.toNat_ofNat, ha, hb]
    exact w64 (by omega) (by omega)
  rw [e]
  omega
theorem tmod_range (x n : Int) (h0 : 0 ≤ x) (hn : 0 < n) : 0 ≤ Int.tmod x n ∧ Int.tmod x n < n :=
  ⟨Int.tmod_nonneg _ h0, Int.tmod_lt_of_pos _ hn⟩

/-- pick: a number from 0 to n - 1; the place is one further. -/
theorem pick_ev (b : List Int) (p n : Int) (hb : Code b) (hp : 0 ≤ p) (hp1 : p ≤ 1000000000) (hn : 1 ≤ n) :
    ∃ r, EV (fun k => spec_l6Rd_pick.f k b p n) (r, p + 1) ∧ 0 ≤ r ∧ r < n := by
  have hl := hb.1
  have e1 : wrap64 (p + 1) = p + 1 := w64 (by omega) (by omega)
  have e2 : wrap64 (p + 1 - 1) = p := by rw [w64 (by omega) (by omega)]; omega
  simp only [spec_l6Rd_pick.f, e1, if_neg (show ¬ n < 1 by omega)]
  by_cases hz : b = []
  · subst hz
    refine ⟨0, EV.succ ?_, by omega, by omega⟩
    simp only [spec_l6Rd_pick.j0]
    exact EV.pure _
  · have hlen : 0 < b.length := List.length_pos_iff.2 hz
    have hf : ((b.length : Int) == 0) = false := by simp; exact hz
    by_cases hlt : p < (b.length : Int)
    · refine ⟨Int.tmod (wrap64 (rd b p)) n, EV.succ ?_, ?_⟩
      · simp only [spec_l6Rd_pick.j0, hf, e2, if_pos hlt, if_pos hp, if_neg (show ¬ n = 0 by omega), Bool.false_eq_true, if_false]
        exact EV.pure _
      · have hr := rd_byte hb p
        rw [w64 (by omega) (by omega)]
        exact tmod_range _ _ hr.1 (by omega)
    · have q0 := tmod_range p (b.length : Int) hp (by omega)
      have e3 : wrap64 (p * 7) = p * 7 := w64 (by omega) (by omega)
      have e4 : wrap64 (p * 7 + 3) = p * 7 + 3 := w64 (by omega) (by omega)
      have q1 := tmod_range (p * 7 + 3) (b.length : Int) (by omega) (by omega)
      have r0 := rd_byte hb (Int.tmod p (b.length : Int))
      have r1 := rd_byte hb (Int.tmod (p * 7 + 3) (b.length : Int))
      have d0 : Int.tdiv p (b.length : Int) = p / (b.length : Int) := Int.tdiv_eq_ediv_of_nonneg hp
      have d1 : 0 ≤ p / (b.length : Int) := Int.ediv_nonneg hp (by omega)
      have d2 : p / (b.length : Int) ≤ p := Int.ediv_le_self _ hp
      generalize hA : rd b (Int.tmod p (b.length : Int)) = A at *
      generalize hB : rd b (Int.tmod (p * 7 + 3) (b.length : Int)) = B at *
      generalize hD : p / (b.length : Int) = D at *
      have w1 : wrap64 A = A := w64 (by omega) (by omega)
      have w2 : wrap64 B = B := w64 (by omega) (by omega)
      have w3 : wrap64 (A * 131) = A * 131 := w64 (by omega) (by omega)
      have w4 : wrap64 (B * 1117) = B * 1117 := w64 (by omega) (by omega)
      have w5 : wrap64 (A * 131 + B * 1117) = A * 131 + B * 1117 := w64 (by omega) (by omega)
      have w6 : wrap64 (p * 29) = p * 29 := w64 (by omega) (by omega)
      have w7 : wrap64 (A * 131 + B * 1117 + p * 29) = A * 131 + B * 1117 + p * 29 := w64 (by omega) (by omega)
      have w8 : wrap64 D = D := w64 (by omega) (by omega)
      have w9 : wrap64 (D * 53) = D * 53 := w64 (by omega) (by omega)
      have wa : wrap64 (A * 131 + B * 1117 + p * 29 + D * 53) = A * 131 + B * 1117 + p * 29 + D * 53 := w64 (by omega) (by omega)
      generalize hX : A * 131 + B * 1117 + p * 29 + D * 53 = X at *
      have X0 : 0 ≤ X := by omega
      have X1 : X < 1099511627776 := by omega
      have t64 : Int.tdiv X 64 = X / 64 := Int.tdiv_eq_ediv_of_nonneg X0
      have wb : wrap64 (X / 64) = X / 64 := w64 (by omega) (by omega)
      have xr := xor_nonneg X (X / 64) X0 X1 (by omega) (by omega)
      refine ⟨Int.tmod (bits .xor .i64 X (X / 64)) n, EV.succ ?_, tmod_range _ _ xr.1 (by omega)⟩
      simp only [spec_l6Rd_pick.j0, hf, e2, e3, e4, if_neg hlt, if_neg (show ¬ (b.length : Int) = 0 by omega), if_pos q0.1, if_pos q0.2, if_pos q1.1, if_pos q1.2,
        if_neg (show ¬ n = 0 by omega), Bool.false_eq_true, if_false, hA, hB, d0, w1, w2, w3, w4, w5, w6, w7, w8, w9, wa, hX, t64, wb]
      exact EV.pure _
/-- The same, as a step of a walk through a draw. -/
theorem pick_tot {b : List Int} {p : Int} (n : Int) (hb : Code b) (hp : 0 ≤ p) (hp1 : p ≤ 1000000000) (hn : 1 ≤ n) :
    Tot (fun k => spec_l6Rd_pick.f k b p n) (fun r => 0 ≤ r.1 ∧ r.1 < n ∧ r.2 = p + 1) := by
  obtain ⟨r, h, a, c⟩ := pick_ev b p n hb hp hp1 hn
  exact ⟨_, h, a, c, rfl⟩
theorem in_eq (a b c : Int) : spec_l6In.f a b c = some (decide (b ≤ a ∧ a ≤ c)) := by
  unfold spec_l6In.f
  by_cases h : a ≥ b
  · rw [if_pos h]
    simp [show b ≤ a from h]
  · rw [if_neg h]
    simp [show ¬ b ≤ a by omega]

end Go.Proofs.Ytojhkhpgahhacaa.Ev

/- The draw of a thing (l71Thing) tells something for every code. No condition. -/
namespace Go.Proofs.Ytojhkhpgahhacaa.Ev
open Go.RowKit Go.Proofs.YtojhkhpgahhacaaW.PrintWords Go.Proofs.YtojhkhpgahhacaaW.PrintLast Go.Proofs.Ytojhkhpgahhacaa.PA

theorem thing_last {b : List Int} {p : Int} {c : Bool} (hb : Code b) (hp : 0 ≤ p) (hp1 : p ≤ 900000000) :
    Tot (fun k => spec_l71Thing.j0 k c b p) (fun r => -1 ≤ r.1 ∧ r.1 ≤ 64 ∧ p ≤ r.2 ∧ r.2 ≤ p + 1) := by
  refine Tot.succ ?_
  simp only [spec_l71Thing.j0]
  cases c
  · simp only [Bool.false_eq_true, if_false, Option.bind_some]
    refine Tot.bind (pick_tot 6 hb hp (by omega) (by omega)) ?_
    rintro ⟨v, q⟩ ⟨h0, h1, rfl⟩
    simp only at h0 h1
    simp only [if_pos h0]
    rw [if_pos (show v < (([3, 5, 9, 17, 33, 40] : List Int).length : Int) by simp; omega)]
    refine Tot.pure _ ⟨?_, ?_, by simp; omega, by simp⟩
    all_goals
      dsimp only
      have : v = 0 ∨ v = 1 ∨ v = 2 ∨ v = 3 ∨ v = 4 ∨ v = 5 := by omega
      rcases this with rfl | rfl | rfl | rfl | rfl | rfl <;> decide
  · simp only [if_true]
    refine Tot.bind (pick_tot 64 hb hp (by omega) (by omega)) ?_
    rintro ⟨v, q⟩ ⟨h0, h1, rfl⟩
    simp only at h0 h1
    exact Tot.pure _ ⟨by simp only; omega, by simp only; omega, by simp only; omega, by simp only; omega⟩
theorem thing_tot {b : List Int} {p : Int} (hb : Code b) (hp : 0 ≤ p) (hp1 : p ≤ 800000000) :
    Tot (fun k => spec_l71Thing.f k b p) (fun r => -1 ≤ r.1 ∧ r.1 ≤ 64 ∧ p ≤ r.2 ∧ r.2 ≤ p + 2) := by
  unfold spec_l71Thing.f
  refine Tot.bind (pick_tot 12 hb hp (by omega) (by omega)) ?_
  rintro ⟨v, q⟩ ⟨h0, h1, rfl⟩
  simp only at h0 h1
  simp only [Option.bind_some]
  have last : ∀ c : Bool, Tot (fun k => spec_l71Thing.j0 k c b (p + 1)) (fun r => -1 ≤ r.1 ∧ r.1 ≤ 64 ∧ p ≤ r.2 ∧ r.2 ≤ p + 2) :=
    fun c => (thing_last hb (by omega) (by omega)).mono fun r hr => by omega
  by_cases c0 : v = 0
  · simp only [if_pos c0]
    refine Tot.bind (pick_tot 4 hb (by omega) (by omega) (by omega)) ?_
    rintro ⟨v', q⟩ ⟨h0', h1', rfl⟩
    simp only at h0' h1'
    simp only [if_pos h0']
    rw [if_pos (show v' < (([-1, 64, 0, 63] : List Int).length : Int) by simp; omega)]
    refine Tot.pure _ ⟨?_, ?_, by simp only; omega, by simp only; omega⟩
    all_goals
      dsimp only
      have : v' = 0 ∨ v' = 1 ∨ v' = 2 ∨ v' = 3 := by omega
      rcases this with rfl | rfl | rfl | rfl <;> decide
  simp only [if_neg c0]
  by_cases c1 : v = 1
  · simp only [if_pos c1]
    exact last _
  simp only [if_neg c1]
  by_cases c2 : v = 2
  · simp only [if_pos c2]
    exact last _
  simp only [if_neg c2]
  exact last _

end Go.Proofs.Ytojhkhpgahhacaa.Ev

/- How data that came in read by the print's kinds: whole numbers, slices, structs by value. No condition. -/
namespace Go.Proofs.Ytojhkhpgahhacaa.In
open Go.RowKit Go.ChangeShapes Go.WideShapes Go.Deep Go.Joins Go.Proofs.YtojhkhpgahhacaaW.PrintWords

/-- Whatever reads as data of type t is of kind d. -/
def Opens {α : Type} (d : Kd α) (P : Program) (t : TypeId) : Prop :=
  ∀ (H : Type) (enc : TypeId × Value → H) (w : World) (fuel : Nat) (cs : List Value) (x : DataW H × List MemPlace),
    DataW.trod enc P w 0 (fun _ => true) true fuel t cs = some x → ∃ v, d.K w v cs
theorem opens_int {P : Program} {t : TypeId} {k : IntKind} (hu : P.underlying t = some (.int k)) : Opens (Kd.int k) P t := by
  intro H enc w fuel cs x h
  obtain ⟨n, rfl, _⟩ := DataW.trod_int hu h
  exact ⟨n, rfl⟩
theorem opens_two {α : Type} {d : Kd α} {P : Program} {t : TypeId} {f0 f1 : Field} (hs : P.underlying t = some (.struct #[f0, f1])) (hc : P.cellsOf t = 2) (hone : oneCellFields P #[f0, f1] = true)
    (h0 : P.underlying f0.type = some (.int .i64)) (h1 : P.underlying f1.type = some (.int .i64)) (mk : ∀ a b : Int, ∃ v, ∀ w, d.K w v [.int .i64 a, .int .i64 b]) : Opens d P t := by
  intro H enc w fuel cs x h
  obtain ⟨y0, y1, n, _, hl, g0, g1⟩ := trod_struct2 hs h
  rw [hc] at hl
  obtain ⟨o0, k0⟩ := hone_of hone 0 f0 rfl
  obtain ⟨o1, k1⟩ := hone_of hone 1 f1 rfl
  rw [o0, k0] at g0
  rw [o1, k1] at g1
  match cs, hl with
  | [c0, c1], _ =>
    obtain ⟨a, e0, _⟩ := DataW.trod_int h0 g0
    obtain ⟨b, e1, _⟩ := DataW.trod_int h1 g1
    simp at e0 e1
    subst e0
    subst e1
    obtain ⟨v, hv⟩ := mk a b
    exact ⟨v, hv w⟩
theorem opens_slice {α : Type} {d : Kd α} {P : Program} {t e : TypeId} (ht : P.underlying t = some (.slice e)) (hsz : P.cellsOf e = d.sz) (hd : Opens d P e) : Opens (Kd.slice e d) P t := by
  intro H enc w fuel cs x h
  rcases open_slice ht h with ⟨rfl, _⟩ | ⟨a, len, cap, m, n, D, Pl, rfl, _, hl, hm, hmm, _, hx⟩
  · exact ⟨[], none, 0, rfl, Nat.le_refl _, Kd.C_nil _ _⟩
  · have hm' : m = cap := by simpa using hmm
    have key : ∀ j, j ≤ len → ∃ xs : List α, xs.length = j ∧ ∀ i p, xs[i]? = some p → ∃ c, c.length = d.sz ∧ d.K w p c ∧ ∀ q u, c[q]? = some u → w.cell? (a.add (i * d.sz + q)) = some u := by
      intro j
      induction j with
      | zero => exact fun _ => ⟨[], rfl, fun i p hp => by simp at hp⟩
      | succ j ih =>
        intro hj
        obtain ⟨xs, hxl, hxs⟩ := ih (by omega)
        obtain ⟨cs', h1, h2⟩ := hx j (by omega)
        obtain ⟨v, hv⟩ := hd H enc w n cs' _ h2
        obtain ⟨_, hcl, hcc⟩ := World.cells?_some h1
        refine ⟨xs ++ [v], by simp [hxl], fun i p hp => ?_⟩
        by_cases hi : i < xs.length
        · rw [List.getElem?_append_left hi] at hp
          exact hxs i p hp
        · rw [List.getElem?_append_right (by omega)] at hp
          have hij : i = j := by
            rcases Nat.lt_or_ge (i - xs.length) 1 with g | g
            · omega
            · rw [List.getElem?_eq_none (by simpa using g)] at hp
              cases hp
          subst hij
          rw [hxl] at hp
          simp at hp
          subst hp
          refine ⟨cs', by rw [hcl, hsz], hv, fun q u hu => ?_⟩
          have hq : q < cs'.length := (List.getElem?_eq_some_iff.1 hu).1
          have := hcc q (by omega)
          rw [Go.Deep.add_add, hsz] at this
          rw [this]
          exact hu
    obtain ⟨xs, hxl, hxs⟩ := key len (Nat.le_refl _)
    unfold maxLen at hm
    exact ⟨xs, some a, cap, by rw [hxl], by omega, rfl, by omega, fun _ => ⟨a, rfl, hxs⟩⟩
theorem inner_bd {α : Type} {d : Kd α} {e : Nat} {w : World} {A : Option Addr} {n : Nat} {l : List (List α)} (h : (Kd.slice e d).C w A n l) : ∀ x ∈ l, x.length ≤ 9223372036854775807 := by
  intro x hx
  obtain ⟨j, hj⟩ := List.getElem?_of_mem hx
  have hn : 0 < n := by rw [← h.1]; exact List.length_pos_of_mem hx
  obtain ⟨ad, _, hc⟩ := h.2.2 hn
  obtain ⟨c, _, ⟨A', c', _, _, hr⟩, _⟩ := hc j x hj
  exact hr.2.1
/-- A struct of one field, by value, opened. -/
theorem open_agg1 {H : Type} {enc : TypeId × Value → H} {P : Program} {w : World} {base : Nat} {spare : Nat → Bool} {held : Bool} {r : Reach} {b0 : Nat} {t : TypeId} {f0 : Field} {v : Value} {d : DataW H} {p : List MemPlace} (hs : P.underlying t = some (.struct #[f0])) (hone : oneCellFields P #[f0] = true) (hC : P.cellsOf t = 1)
    (hv : Value.okWide P w r b0 t v) (h : DataW.Trod enc P w base spare held t v d p) :
    ∃ (v0 : Value) (y0 : DataW H × List MemPlace) (n : Nat), v = .agg #[v0] ∧ d = .agg [y0.1] ∧ p = y0.2 ∧ DataW.trod enc P w base spare held n f0.type [v0] = some y0 := by
  obtain ⟨cs, rfl, hsz⟩ := okWide_struct hs hv
  obtain ⟨fuel, hf⟩ := h
  obtain ⟨y0, n, hx, _, h0⟩ := trod_struct1 hs hf
  obtain ⟨o0, k0⟩ := hone_of hone 0 f0 rfl
  simp only [Prod.mk.injEq] at hx
  rw [hC] at hsz
  obtain ⟨l⟩ := cs
  match l, hsz with
  | [c0], _ => exact ⟨c0, y0, n, rfl, hx.1, hx.2, by simpa [Value.cells, o0, k0] using h0⟩

end Go.Proofs.Ytojhkhpgahhacaa.In

/- What the program's and the reference's RoughOk, RoughAll tell: plain functions over lists, the same for both; places. Conditions: rows shorter than 2^40. -/
namespace Go.Proofs.Ytojhkhpgahhacaa.Ev
open Go.RowKit Go.Proofs.YtojhkhpgahhacaaW.PrintWords Go.Proofs.YtojhkhpgahhacaaW.PrintLast Go.Proofs.Ytojhkhpgahhacaa.PA

theorem thing_eq (a : Int) : impl_isThing.f a = some (decide (0 ≤ a ∧ a ≤ 63)) := by
  unfold impl_isThing.f
  by_cases h : a ≥ 0
  · rw [if_pos h]
    by_cases g : a < 64
    · simp [show 0 ≤ a from h, g, show a ≤ 63 by omega]
    · simp [g, show ¬ a ≤ 63 by omega]
  · rw [if_neg h]
    simp [show ¬ 0 ≤ a by omega]

/-! one row -/
def inB (x : Int) : Bool := decide (0 ≤ x ∧ x ≤ 2000)
def rowB (p : List Int) : Bool := decide (p.length = 8) && p.all inB
theorem inB_iff {x : Int} : inB x = true ↔ 0 ≤ x ∧ x ≤ 2000 := by unfold inB; simp
theorem rowB_iff {p : List Int} : rowB p = true ↔ p.length = 8 ∧ ∀ x ∈ p, 0 ≤ x ∧ x ≤ 2000 := by
  unfold rowB
  simp [inB]
theorem sum_bd : ∀ (p : List Int), (∀ x ∈ p, 0 ≤ x ∧ x ≤ 2000) → 0 ≤ p.sum ∧ p.sum ≤ 2000 * (p.length : Int)
  | [], _ => by simp
  | x :: p, h => by
    have := sum_bd p (fun y hy => h y (List.mem_cons_of_mem _ hy))
    have hx := h x (by simp)
    simp only [List.sum_cons, List.length_cons]
    omega
theorem sum_snoc (p : List Int) (x : Int) : (p ++ [x]).sum = p.sum + x := by simp
theorem l1Sum_l0 (L : List Int) (hL : L.length ≤ 1099511627776) (hr : ∀ x ∈ L, 0 ≤ x ∧ x ≤ 2000) : ∀ (suf pre : List Int), pre ++ suf = L →
    EV (fun k => spec_l1Sum.l0 k L pre.sum (pre.length : Int)) L.sum := by
  intro suf
  induction suf with
  | nil =>
    intro pre e
    obtain rfl : pre = L := by simpa using e
    refine EV.succ ?_
    simp only [spec_l1Sum.l0, if_neg (show ¬ (pre.length : Int) < (pre.length : Int) by omega)]
    exact EV.pure _
  | cons x suf ih =>
    intro pre e
    have hl : (L.length : Int) = pre.length + suf.length + 1 := by rw [← e]; exact len_mid _ _ _
    have hx : rd L (pre.length : Int) = x := by rw [← e]; exact rd_mid _ _ _ _ rfl
    have hb := sum_bd pre (fun y hy => hr y (by rw [← e]; simp [hy]))
    have hx' := hr x (by rw [← e]; simp)
    refine EV.succ ?_
    simp only [spec_l1Sum.l0, hx, if_pos (show (pre.length : Int) < (L.length : Int) by omega), if_pos (show (0 : Int) ≤ (pre.length : Int) by omega)]
    rw [w64 (x := pre.sum + x) (by omega) (by omega), w64 (x := (pre.length : Int) + 1) (by omega) (by omega), ← len_snoc pre x, ← sum_snoc]
    exact ih (pre ++ [x]) (by rw [← app_mid]; exact e)
theorem l1Sum_ev (L : List Int) (hL : L.length ≤ 1099511627776) (hr : ∀ x ∈ L, 0 ≤ x ∧ x ≤ 2000) : EV (fun k => spec_l1Sum.f k L) L.sum :=
  l1Sum_l0 L hL hr L [] rfl
theorem l1Sum_row {p : List Int} (h : rowB p = true) : EV (fun k => spec_l1Sum.f k p) p.sum :=
  l1Sum_ev p (by rw [(rowB_iff.1 h).1]; omega) (rowB_iff.1 h).2
def rowAllR (p : List Int) : Int × Bool := if rowB p then (p.sum, decide (p.sum ≤ 2000)) else (0, false)
theorem rowAll_l0 (L : List Int) (hL : L.length = 8) : ∀ (suf pre : List Int), pre ++ suf = L → (∀ x ∈ pre, 0 ≤ x ∧ x ≤ 2000) →
    EV (fun k => impl_rowAll.l0 k pre.sum L (L.length : Int) (pre.length : Int)) (if suf.all inB then (L.sum, decide (L.sum ≤ 2000)) else (0, false)) := by
  intro suf
  induction suf with
  | nil =>
    intro pre e _
    obtain rfl : pre = L := by simpa using e
    refine EV.succ ?_
    simp only [impl_rowAll.l0, if_neg (show ¬ (pre.length : Int) < (pre.length : Int) by omega)]
    exact EV.pure _
  | cons x suf ih =>
    intro pre e hp
    have hl : (L.length : Int) = pre.length + suf.length + 1 := by rw [← e]; exact len_mid _ _ _
    have hx : rd L (pre.length : Int) = x := by rw [← e]; exact rd_mid _ _ _ _ rfl
    have hb := sum_bd pre hp
    refine EV.succ ?_
    simp only [impl_rowAll.l0, hx, if_pos (show (pre.length : Int) < (L.length : Int) by omega), if_pos (show (0 : Int) ≤ (pre.length : Int) by omega)]
    by_cases c1 : x < 0
    · simp only [if_pos c1]
      exact (EV.pure _).cast (by simp [inB, show ¬ 0 ≤ x by omega])
    · simp only [if_neg c1]
      by_cases c2 : x > 2000
      · simp only [if_pos c2]
        exact (EV.pure _).cast (by simp [inB, show ¬ x ≤ 2000 by omega])
      · simp only [if_neg c2]
        rw [w64 (x := pre.sum + x) (by omega) (by omega), w64 (x := (pre.length : Int) + 1) (by omega) (by omega), ← len_snoc pre x, ← sum_snoc]
        refine (ih (pre ++ [x]) (by rw [← app_mid]; exact e) ?_).cast (by simp [inB, show 0 ≤ x by omega, show x ≤ 2000 by omega])
        intro y hy
        rcases List.mem_append.1 hy with hy | hy
        · exact hp y hy
        · obtain rfl := List.mem_singleton.1 hy
          omega
theorem rowAll_ev (p : List Int) : EV (fun k => impl_rowAll.f k p) (rowAllR p) := by
  unfold impl_rowAll.f rowAllR
  by_cases h : (p.length : Int) = 8
  · simp only [if_pos h]
    exact (rowAll_l0 p (by omega) p [] rfl (fun x hx => by cases hx)).cast (by simp [rowB, show p.length = 8 by omega])
  · simp only [if_neg h]
    exact (EV.pure _).cast (by simp [rowB, show ¬ p.length = 8 by omega])

/-! all three -/
def roughB : List (List Int) → Bool
  | [a, b, c] => rowB a && rowB b && rowB c && decide (b.sum = a.sum) && decide (c.sum = a.sum) && decide (a.sum ≤ 2000)
  | _ => false
theorem three {L : List (List Int)} (h : L.length = 3) : ∃ a b c, L = [a, b, c] := by
  match L, h with
  | [a, b, c], _ => exact ⟨a, b, c, rfl⟩
theorem roughB_len {L : List (List Int)} (h : ¬ L.length = 3) : roughB L = false := by
  match L with
  | [] => rfl
  | [_] => rfl
  | [_, _] => rfl
  | [a, b, c] => exact absurd rfl h
  | _ :: _ :: _ :: _ :: _ => rfl
theorem roughB_iff {a b c : List Int} : roughB [a, b, c] = true ↔ rowB a = true ∧ rowB b = true ∧ rowB c = true ∧ b.sum = a.sum ∧ c.sum = a.sum ∧ a.sum ≤ 2000 := by
  unfold roughB
  simp [and_assoc]
theorem roughB_open {L : List (List Int)} (h : roughB L = true) : ∃ a b c, L = [a, b, c] ∧ rowB a = true ∧ rowB b = true ∧ rowB c = true ∧ b.sum = a.sum ∧ c.sum = a.sum ∧ 0 ≤ a.sum ∧ a.sum ≤ 2000 := by
  by_cases e : L.length = 3
  · obtain ⟨a, b, c, rfl⟩ := three e
    obtain ⟨h1, h2, h3, h4, h5, h6⟩ := roughB_iff.1 h
    exact ⟨a, b, c, rfl, h1, h2, h3, h4, h5, (sum_bd a (rowB_iff.1 h1).2).1, h6⟩
  · rw [roughB_len e] at h
    cases h
theorem impl_RoughOk_ev (L : List (List Int)) : EV (fun k => impl_RoughOk.f k L) (roughB L) := by
  unfold impl_RoughOk.f
  by_cases h : (L.length : Int) = 3
  · obtain ⟨a, b, c, rfl⟩ := three (L := L) (by omega)
    simp only [if_pos h, if_pos (show 0 < (([a, b, c] : List (List Int)).length : Int) by simp), show rd_L2 [a, b, c] 0 = a from rfl]
    refine EV.bind (rowAll_ev a) ?_
    have step : ∀ (i : Nat) (p : List Int) (R : Bool), i < 3 → rd_L2 [a, b, c] (i : Int) = p → EV (fun k => impl_RoughOk.l0 k (rowAllR a).1 [a, b, c] 3 ((i + 1 : Nat) : Int)) R →
        EV (fun k => impl_RoughOk.l0 k (rowAllR a).1 [a, b, c] 3 (i : Int)) ((rowAllR p).2 && decide ((rowAllR p).1 = (rowAllR a).1) && R) := by
      intro i p R hi hp hR
      refine EV.succ ?_
      simp only [impl_RoughOk.l0, if_pos (show (i : Int) < 3 by omega), if_pos (show 0 ≤ (i : Int) by omega), if_pos (show (i : Int) < (([a, b, c] : List (List Int)).length : Int) by simp; omega), hp]
      refine EV.bind (rowAll_ev p) ?_
      cases h2 : (rowAllR p).2
      · simp only [Bool.false_eq_true, if_false]
        exact EV.pure _
      · simp only [if_true]
        by_cases h1 : (rowAllR p).1 = (rowAllR a).1
        · simp only [if_pos h1, w64 (x := (i : Int) + 1) (by omega) (by omega)]
          exact hR.cast (by simp [h1])
        · simp only [if_neg h1]
          exact (EV.pure _).cast (by simp [h1])
    have e3 : EV (fun k => impl_RoughOk.l0 k (rowAllR a).1 [a, b, c] 3 ((2 + 1 : Nat) : Int)) true := by
      refine EV.succ ?_
      simp only [impl_RoughOk.l0, if_neg (show ¬ ((2 + 1 : Nat) : Int) < 3 by omega)]
      exact EV.pure _
    refine (step 0 a _ (by omega) rfl (step 1 b _ (by omega) rfl (step 2 c _ (by omega) rfl e3))).cast ?_
    unfold roughB rowAllR
    cases ra : rowB a
    · simp [ra]
    cases rb : rowB b
    · simp [ra, rb]
    cases rc : rowB c
    · simp [ra, rb, rc]
    by_cases g1 : a.sum ≤ 2000 <;> by_cases g2 : b.sum = a.sum <;> by_cases g3 : c.sum = a.sum <;> simp [ra, rb, rc, g1, g2, g3]
  · simp only [if_neg h]
    exact (EV.pure _).cast (roughB_len (by omega)).symm
theorem spec_row_l1 (L : List (List Int)) (i : Int) (p : List Int) (hp : rd_L2 L i = p) (h0 : 0 ≤ i) (h1 : i < (L.length : Int)) (hl8 : p.length = 8) (R : Bool)
    (ht : rowB p = true → EV (fun k => (spec_l1Sum.f k p).bind fun t205 => (if 0 < (L.length : Int) then ((spec_l1Sum.f k (rd_L2 L 0)).bind fun t207 => (if t205 = t207 then ((spec_l1Sum.f k p).bind fun t209 => (if t209 > 2000 then (some false) else (spec_RoughOk.l0 k (wrap64 (i + 1)) L))) else (some false))) else (none))) R) :
    ∀ (suf pre : List Int), pre ++ suf = p → (∀ x ∈ pre, 0 ≤ x ∧ x ≤ 2000) → EV (fun k => spec_RoughOk.l1 k i (pre.length : Int) L) (suf.all inB && R) := by
  intro suf
  induction suf with
  | nil =>
    intro pre e hpre
    obtain rfl : pre = p := by simpa using e
    refine EV.succ ?_
    simp only [spec_RoughOk.l1, if_neg (show ¬ (pre.length : Int) < 8 by omega), if_pos h0, if_pos h1, hp]
    exact (ht (rowB_iff.2 ⟨hl8, hpre⟩)).cast (by simp)
  | cons x suf ih =>
    intro pre e hpre
    have hl : (p.length : Int) = pre.length + suf.length + 1 := by rw [← e]; exact len_mid _ _ _
    have hx : rd p (pre.length : Int) = x := by rw [← e]; exact rd_mid _ _ _ _ rfl
    refine EV.succ ?_
    simp only [spec_RoughOk.l1, if_pos (show (pre.length : Int) < 8 by omega), if_pos h0, if_pos h1, hp, if_pos (show 0 ≤ (pre.length : Int) by omega), if_pos (show (pre.length : Int) < (p.length : Int) by omega), hx, in_eq, Option.bind_some]
    by_cases c : 0 ≤ x ∧ x ≤ 2000
    · simp only [decide_eq_true c, if_true]
      rw [w64 (x := (pre.length : Int) + 1) (by omega) (by omega), ← len_snoc pre x]
      refine (ih (pre ++ [x]) (by rw [← app_mid]; exact e) ?_).cast (by simp [inB, c])
      intro y hy
      rcases List.mem_append.1 hy with hy | hy
      · exact hpre y hy
      · obtain rfl := List.mem_singleton.1 hy
        exact c
    · simp only [decide_eq_false c, Bool.false_eq_true, if_false]
      exact (EV.pure _).cast (by simp only [List.all_cons, inB, decide_eq_false c]; rfl)
theorem spec_row (L : List (List Int)) (a : List Int) (ha : rd_L2 L 0 = a) (i : Int) (p : List Int) (hp : rd_L2 L i = p) (h0 : 0 ≤ i) (h1 : i < 3) (hL : L.length = 3) (R : Bool) (hb : rowB p = true → rowB a = true)
    (hR : EV (fun k => spec_RoughOk.l0 k (i + 1) L) R) : EV (fun k => spec_RoughOk.l0 k i L) (rowB p && decide (p.sum = a.sum) && decide (p.sum ≤ 2000) && R) := by
  refine EV.succ ?_
  simp only [spec_RoughOk.l0, if_pos h1, if_pos h0, if_pos (show i < (L.length : Int) by omega), hp]
  by_cases h8 : (p.length : Int) = 8
  · simp only [if_pos h8]
    have key := spec_row_l1 L i p hp h0 (by omega) (by omega) (decide (p.sum = a.sum) && decide (p.sum ≤ 2000) && R) (fun hr => ?_) p [] rfl (fun x hx => by cases hx)
    · exact key.cast (by simp [rowB, show p.length = 8 by omega, Bool.and_assoc])
    · refine EV.bind (l1Sum_row hr) ?_
      simp only [if_pos (show 0 < (L.length : Int) by omega), ha]
      refine EV.bind (l1Sum_row (hb hr)) ?_
      by_cases g : p.sum = a.sum
      · simp only [if_pos g]
        refine EV.bind (l1Sum_row hr) ?_
        rw [w64 (x := i + 1) (by omega) (by omega)]
        by_cases g2 : p.sum > 2000
        · simp only [if_pos g2]
          exact (EV.pure _).cast (by simp [show ¬ p.sum ≤ 2000 by omega])
        · simp only [if_neg g2]
          exact hR.cast (by simp [g, show a.sum ≤ 2000 by omega])
      · simp only [if_neg g]
        exact (EV.pure _).cast (by simp [g])
  · simp only [if_neg h8]
    exact (EV.pure _).cast (by simp [rowB, show ¬ p.length = 8 by omega])
theorem spec_RoughOk_ev (L : List (List Int)) : EV (fun k => spec_RoughOk.f k L) (roughB L) := by
  unfold spec_RoughOk.f
  by_cases h : (L.length : Int) = 3
  · obtain ⟨a, b, c, rfl⟩ := three (L := L) (by omega)
    simp only [if_pos h]
    cases ra : rowB a
    · have : EV (fun k => spec_RoughOk.l0 k 0 [a, b, c]) false := by
        refine EV.succ ?_
        simp only [spec_RoughOk.l0, if_pos (show (0 : Int) < 3 by omega), if_pos (show (0 : Int) ≤ 0 by omega), if_pos (show (0 : Int) < (([a, b, c] : List (List Int)).length : Int) by simp), show rd_L2 [a, b, c] 0 = a from rfl]
        by_cases h8 : (a.length : Int) = 8
        · simp only [if_pos h8]
          have key := spec_row_l1 [a, b, c] 0 a rfl (by omega) (by simp) (by omega) false (fun hr => by rw [ra] at hr; cases hr) a [] rfl (fun x hx => by cases hx)
          exact key.cast (by simp)
        · simp only [if_neg h8]
          exact EV.pure _
      exact this.cast (by simp [roughB, ra])
    · have e3 : EV (fun k => spec_RoughOk.l0 k (2 + 1) [a, b, c]) true := by
        refine EV.succ ?_
        simp only [spec_RoughOk.l0, if_neg (show ¬ ((2 : Int) + 1) < 3 by omega)]
        exact EV.pure _
      have e2 := spec_row [a, b, c] a rfl 2 c rfl (by omega) (by omega) rfl _ (fun _ => ra) e3
      have e1 := spec_row [a, b, c] a rfl 1 b rfl (by omega) (by omega) rfl _ (fun _ => ra) e2
      have e0 := spec_row [a, b, c] a rfl 0 a rfl (by omega) (by omega) rfl _ (fun _ => ra) e1
      refine e0.cast ?_
      unfold roughB
      rw [ra]
      cases rb : rowB b
      · simp [rb]
      cases rc : rowB c
      · simp [rb, rc]
      by_cases g1 : a.sum ≤ 2000 <;> by_cases g2 : b.sum = a.sum <;> by_cases g3 : c.sum = a.sum <;> simp [ra, rb, rc, g1, g2, g3]
  · simp only [if_neg h]
    exact (EV.pure _).cast (roughB_len (by omega)).symm

end Go.Proofs.Ytojhkhpgahhacaa.Ev

/- The exact laws' own functions over roughs (szRough, toRough, eqRough); lkInts, lkRough of the same. Conditions: rows of at most 2^63 - 1. -/
namespace Go.Proofs.Ytojhkhpgahhacaa.Ev
open Go.RowKit Go.Proofs.YtojhkhpgahhacaaW.PrintWords Go.Proofs.YtojhkhpgahhacaaW.PrintLast Go.Proofs.Ytojhkhpgahhacaa.PA

theorem rdL_mid (pre suf : List (List Int)) (x : List Int) (i : Int) (h : i = (pre.length : Int)) : rd_L2 (pre ++ x :: suf) i = x := by
  subst h
  unfold rd_L2
  rw [Int.toNat_natCast]
  exact getD_mid _ _ _ _
theorem toIntS_l0 (L : List Int) (hL : L.length < 1125899906842624) : ∀ (suf pre : List Int), pre ++ suf = L →
    EV (fun k => laws_toIntS.l0 k L (pre ++ List.replicate suf.length 0) (pre.length : Int)) L := by
  intro suf
  induction suf with
  | nil =>
    intro pre e
    obtain rfl : pre = L := by simpa using e
    refine EV.succ ?_
    simp only [laws_toIntS.l0, if_neg (show ¬ (pre.length : Int) < (pre.length : Int) by omega)]
    exact (EV.pure _).cast (by simp)
  | cons x suf ih =>
    intro pre e
    have hl : (L.length : Int) = pre.length + suf.length + 1 := by rw [← e]; exact len_mid _ _ _
    have hx : rd L (pre.length : Int) = x := by rw [← e]; exact rd_mid _ _ _ _ rfl
    have hs : (pre ++ List.replicate (x :: suf).length 0).set (pre.length : Int).toNat x = (pre ++ [x]) ++ List.replicate suf.length 0 := by
      rw [List.length_cons, List.replicate_succ, set_mid _ _ _ _ _ (by simp)]
      simp
    have hn : (pre.length : Int) < ((pre ++ List.replicate (x :: suf).length 0).length : Int) := by simp; omega
    refine EV.succ ?_
    simp only [laws_toIntS.l0, hx, if_pos (show (pre.length : Int) < (L.length : Int) by omega), if_pos (show (0 : Int) ≤ (pre.length : Int) by omega), if_pos hn, hs]
    rw [w64 (x := (pre.length : Int) + 1) (by omega) (by omega), ← len_snoc pre x]
    exact ih (pre ++ [x]) (by rw [← app_mid]; exact e)
theorem toIntS_ev (l : List Int) (h : l.length ≤ 1048576) : EV (fun k => laws_toIntS.f k l) l := by
  unfold laws_toIntS.f
  simp only [if_pos (show 0 ≤ (l.length : Int) by omega), Int.toNat_natCast, if_pos (show l.length ≤ 35184372088832 by omega)]
  exact toIntS_l0 l (by omega) l [] rfl
theorem toIntSS_l0 (L : List (List Int)) (hL : L.length < 1125899906842624) (hi : ∀ x ∈ L, x.length ≤ 1048576) : ∀ (suf pre : List (List Int)), pre ++ suf = L →
    EV (fun k => laws_toIntSS.l0 k L (pre ++ List.replicate suf.length []) (pre.length : Int)) L := by
  intro suf
  induction suf with
  | nil =>
    intro pre e
    obtain rfl : pre = L := by simpa using e
    refine EV.succ ?_
    simp only [laws_toIntSS.l0, if_neg (show ¬ (pre.length : Int) < (pre.length : Int) by omega)]
    exact (EV.pure _).cast (by simp)
  | cons x suf ih =>
    intro pre e
    have hl : (L.length : Int) = pre.length + suf.length + 1 := by rw [← e]; exact len_mid _ _ _
    have hx : rd_L2 L (pre.length : Int) = x := by rw [← e]; exact rdL_mid _ _ _ _ rfl
    have hs : (pre ++ List.replicate (x :: suf).length []).set (pre.length : Int).toNat x = (pre ++ [x]) ++ List.replicate suf.length [] := by
      rw [List.length_cons, List.replicate_succ, set_mid _ _ _ _ _ (by simp)]
      simp
    have hn : (pre.length : Int) < ((pre ++ List.replicate (x :: suf).length ([] : List Int)).length : Int) := by simp; omega
    refine EV.succ ?_
    simp only [laws_toIntSS.l0, hx, if_pos (show (pre.length : Int) < (L.length : Int) by omega), if_pos (show (0 : Int) ≤ (pre.length : Int) by omega)]
    refine EV.bind (toIntS_ev x (hi x (by rw [← e]; simp))) ?_
    simp only [if_pos hn, hs]
    rw [w64 (x := (pre.length : Int) + 1) (by omega) (by omega), ← len_snoc pre x]
    exact ih (pre ++ [x]) (by rw [← app_mid]; exact e)
theorem toRough_ev (l : List (List Int)) (h : l.length ≤ 1048576) (hi : ∀ x ∈ l, x.length ≤ 1048576) : EV (fun k => laws_toRough.f k l) l := by
  unfold laws_toRough.f laws_toIntSS.f
  simp only [if_pos (show 0 ≤ (l.length : Int) by omega), Int.toNat_natCast, if_pos (show l.length ≤ 11728124029610 by omega)]
  refine EV.bind (toIntSS_l0 l (by omega) hi l [] rfl) ?_
  exact EV.pure _
theorem eqIntS_l0 (L : List Int) (hL : L.length < 1125899906842624) : ∀ (suf pre : List Int), pre ++ suf = L → EV (fun k => laws_eqIntS.l0 k L L (pre.length : Int)) true := by
  intro suf
  induction suf with
  | nil =>
    intro pre e
    obtain rfl : pre = L := by simpa using e
    refine EV.succ ?_
    simp only [laws_eqIntS.l0, if_neg (show ¬ (pre.length : Int) < (pre.length : Int) by omega)]
    exact EV.pure _
  | cons x suf ih =>
    intro pre e
    have hl : (L.length : Int) = pre.length + suf.length + 1 := by rw [← e]; exact len_mid _ _ _
    refine EV.succ ?_
    simp only [laws_eqIntS.l0, if_pos (show (pre.length : Int) < (L.length : Int) by omega), if_pos (show (0 : Int) ≤ (pre.length : Int) by omega), if_true]
    rw [w64 (x := (pre.length : Int) + 1) (by omega) (by omega), ← len_snoc pre x]
    exact ih (pre ++ [x]) (by rw [← app_mid]; exact e)
theorem eqIntS_ev (l : List Int) (h : l.length < 1125899906842624) : EV (fun k => laws_eqIntS.f k l l) true := by
  unfold laws_eqIntS.f
  simp only [if_true]
  exact eqIntS_l0 l h l [] rfl
theorem eqIntSS_l0 (L : List (List Int)) (hL : L.length < 1125899906842624) (hi : ∀ x ∈ L, x.length < 1125899906842624) : ∀ (suf pre : List (List Int)), pre ++ suf = L → EV (fun k => laws_eqIntSS.l0 k L L (pre.length : Int)) true := by
  intro suf
  induction suf with
  | nil =>
    intro pre e
    obtain rfl : pre = L := by simpa using e
    refine EV.succ ?_
    simp only [laws_eqIntSS.l0, if_neg (show ¬ (pre.length : Int) < (pre.length : Int) by omega)]
    exact EV.pure _
  | cons x suf ih =>
    intro pre e
    have hl : (L.length : Int) = pre.length + suf.length + 1 := by rw [← e]; exact len_mid _ _ _
    have hx : rd_L2 L (pre.length : Int) = x := by rw [← e]; exact rdL_mid _ _ _ _ rfl
    refine EV.succ ?_
    simp only [laws_eqIntSS.l0, if_pos (show (pre.length : Int) < (L.length : Int) by omega), if_pos (show (0 : Int) ≤ (pre.length : Int) by omega), hx]
    refine EV.bind (eqIntS_ev x (hi x (by rw [← e]; simp))) ?_
    simp only [if_true]
    rw [w64 (x := (pre.length : Int) + 1) (by omega) (by omega), ← len_snoc pre x]
    exact ih (pre ++ [x]) (by rw [← app_mid]; exact e)
theorem eqRough_ev (l : List (List Int)) (h : l.length < 1125899906842624) (hi : ∀ x ∈ l, x.length < 1125899906842624) : EV (fun k => laws_eqRough.f k l l) true := by
  unfold laws_eqRough.f laws_eqIntSS.f
  simp only [if_true]
  refine EV.bind (eqIntSS_l0 l h hi l [] rfl) ?_
  simp only [if_true]
  exact EV.pure _
theorem szIntS_eq (l : List Int) (a : Int) (h0 : 0 ≤ a) (h1 : a ≤ 1048576) (h : l.length ≤ 9223372036854775807) : laws_szIntS.f l a = some (if a < (l.length : Int) then (-1 : Int) else a - l.length) := by
  unfold laws_szIntS.f
  rw [w64 (x := a - (l.length : Int)) (by omega) (by omega)]
  by_cases c : a < (l.length : Int)
  · rw [if_pos (show a - (l.length : Int) < 0 by omega), if_pos c]
  · rw [if_neg (show ¬ a - (l.length : Int) < 0 by omega), if_neg c]
theorem szIntSS_l0 (L : List (List Int)) (hL : L.length ≤ 1048576) (hi : ∀ x ∈ L, x.length ≤ 9223372036854775807) : ∀ (suf pre : List (List Int)) (a : Int), pre ++ suf = L → 0 ≤ a → a ≤ 1048576 → (∀ x ∈ pre, x.length ≤ 1048576) →
    Tot (fun k => laws_szIntSS.l0 k L a (pre.length : Int)) (fun r => r ≤ 1048576 ∧ (r < 0 ∨ ∀ x ∈ L, x.length ≤ 1048576)) := by
  intro suf
  induction suf with
  | nil =>
    intro pre a e h0 h1 hp
    obtain rfl : pre = L := by simpa using e
    refine Tot.succ ?_
    simp only [laws_szIntSS.l0, if_neg (show ¬ (pre.length : Int) < (pre.length : Int) by omega)]
    exact Tot.pure _ ⟨h1, .inr hp⟩
  | cons x suf ih =>
    intro pre a e h0 h1 hp
    have hl : (L.length : Int) = pre.length + suf.length + 1 := by rw [← e]; exact len_mid _ _ _
    have hx : rd_L2 L (pre.length : Int) = x := by rw [← e]; exact rdL_mid _ _ _ _ rfl
    refine Tot.succ ?_
    simp only [laws_szIntSS.l0, hx, if_pos (show (pre.length : Int) < (L.length : Int) by omega), if_pos (show (0 : Int) ≤ (pre.length : Int) by omega), szIntS_eq x a h0 h1 (hi x (by rw [← e]; simp)), Option.bind_some]
    by_cases c : a < (x.length : Int)
    · simp only [if_pos c, if_pos (show (-1 : Int) < 0 by omega)]
      exact Tot.pure _ ⟨by omega, .inl (by omega)⟩
    · simp only [if_neg c, if_neg (show ¬ a - (x.length : Int) < 0 by omega)]
      rw [w64 (x := (pre.length : Int) + 1) (by omega) (by omega), ← len_snoc pre x]
      refine ih (pre ++ [x]) _ (by rw [← app_mid]; exact e) (by omega) (by omega) ?_
      intro y hy
      rcases List.mem_append.1 hy with hy | hy
      · exact hp y hy
      · obtain rfl := List.mem_singleton.1 hy
        omega
/-- szRough tells something; where that is not below 0 all is short. -/
theorem szRough_tot (l : List (List Int)) (a : Int) (h0 : 0 ≤ a) (h1 : a ≤ 1048576) (h : l.length ≤ 9223372036854775807) (hi : ∀ x ∈ l, x.length ≤ 9223372036854775807) :
    Tot (fun k => laws_szRough.f k l a) (fun r => r ≤ 1048576 ∧ (r < 0 ∨ (l.length ≤ 1048576 ∧ ∀ x ∈ l, x.length ≤ 1048576))) := by
  unfold laws_szRough.f laws_szIntSS.f
  refine Tot.bind (P := fun r => r ≤ 1048576 ∧ (r < 0 ∨ (l.length ≤ 1048576 ∧ ∀ x ∈ l, x.length ≤ 1048576))) ?_ ?_
  · rw [w64 (x := a - (l.length : Int)) (by omega) (by omega)]
    by_cases c : a - (l.length : Int) < 0
    · simp only [if_pos c]
      exact Tot.pure _ ⟨by omega, .inl (by omega)⟩
    · simp only [if_neg c]
      refine (szIntSS_l0 l (by omega) hi l [] _ rfl (by omega) (by omega) (fun x hx => by cases hx)).mono fun r hr => ⟨hr.1, hr.2.imp id fun h => ⟨by omega, h⟩⟩
  · intro r hr
    by_cases c : r < 0
    · simp only [if_pos c]
      exact Tot.pure _ ⟨by omega, .inl (by omega)⟩
    · simp only [if_neg c]
      exact Tot.pure _ hr

end Go.Proofs.Ytojhkhpgahhacaa.Ev

/- Places: the program's and the reference's RoughPlace tell the same. No condition. -/
namespace Go.Proofs.Ytojhkhpgahhacaa.Ev
open Go.RowKit Go.Proofs.YtojhkhpgahhacaaW.PrintWords Go.Proofs.YtojhkhpgahhacaaW.PrintLast Go.Proofs.Ytojhkhpgahhacaa.PA

def placeOf (i t : Int) : Int := (spec_l1Place.f i t).getD 0
theorem place_dec : ∀ i : Fin 3, ∀ t : Fin 64, spec_l1Place.f (i.val : Int) (t.val : Int) = some (placeOf i.val t.val) ∧ impl_RoughPlace.f (i.val : Int) (t.val : Int) = some (placeOf i.val t.val) ∧ 0 ≤ placeOf i.val t.val ∧ placeOf i.val t.val < 8 := by
  decide +kernel
theorem place_at {i t : Int} (i0 : 0 ≤ i) (i1 : i ≤ 2) (t0 : 0 ≤ t) (t1 : t ≤ 63) : spec_l1Place.f i t = some (placeOf i t) ∧ impl_RoughPlace.f i t = some (placeOf i t) ∧ 0 ≤ placeOf i t ∧ placeOf i t < 8 := by
  obtain ⟨a, rfl⟩ := Int.eq_ofNat_of_zero_le i0
  obtain ⟨b, rfl⟩ := Int.eq_ofNat_of_zero_le t0
  exact place_dec ⟨a, by omega⟩ ⟨b, by omega⟩
def placeR (i t : Int) : Int := if 0 ≤ i ∧ i ≤ 2 ∧ 0 ≤ t ∧ t ≤ 63 then placeOf i t else -1
theorem impl_place (i t : Int) : impl_RoughPlace.f i t = some (placeR i t) := by
  unfold placeR
  by_cases c : 0 ≤ i ∧ i ≤ 2 ∧ 0 ≤ t ∧ t ≤ 63
  · rw [if_pos c]
    exact (place_at c.1 c.2.1 c.2.2.1 c.2.2.2).2.1
  · rw [if_neg c]
    unfold impl_RoughPlace.f
    have th : impl_isThing.f t = some (decide (0 ≤ t ∧ t ≤ 63)) := by
      unfold impl_isThing.f
      by_cases h : t ≥ 0
      · rw [if_pos h]
        by_cases g : t < 64
        · simp [show 0 ≤ t from h, g, show t ≤ 63 by omega]
        · simp [g, show ¬ t ≤ 63 by omega]
      · rw [if_neg h]
        simp [show ¬ 0 ≤ t by omega]
    rw [th]
    simp only [Option.bind_some]
    by_cases d : 0 ≤ t ∧ t ≤ 63
    · simp only [decide_eq_true d, if_true]
      rw [if_neg (by omega), if_neg (by omega), if_neg (by omega)]
    · simp only [decide_eq_false d, Bool.false_eq_true, if_false]

end Go.Proofs.Ytojhkhpgahhacaa.Ev

/- Counting a thing so often: what the reference's RoughAdd tells. No condition. -/
namespace Go.Proofs.Ytojhkhpgahhacaa.Ev
open Go.RowKit Go.Proofs.YtojhkhpgahhacaaW.PrintWords Go.Proofs.YtojhkhpgahhacaaW.PrintLast Go.Proofs.Ytojhkhpgahhacaa.PA

theorem set_sum : ∀ (p : List Int) (n : Nat) (v : Int), n < p.length → (p.set n v).sum = p.sum - p.getD n 0 + v
  | [], n, v, h => by simp at h
  | x :: p, 0, v, _ => by
    simp
    omega
  | x :: p, n + 1, v, h => by
    have ih := set_sum p n v (by simpa using h)
    simp only [List.set_cons_succ, List.sum_cons, List.getD_cons_succ]
    omega
theorem getD_sum : ∀ (p : List Int) (n : Nat), (∀ x ∈ p, 0 ≤ x ∧ x ≤ 2000) → 0 ≤ p.getD n 0 ∧ p.getD n 0 ≤ p.sum
  | [], n, _ => by simp
  | x :: p, 0, h => by
    have h0 := h x (by simp)
    have := (sum_bd p (fun y hy => h y (List.mem_cons_of_mem _ hy))).1
    simp
    omega
  | x :: p, n + 1, h => by
    have h0 := h x (by simp)
    have ih := getD_sum p n (fun y hy => h y (List.mem_cons_of_mem _ hy))
    simp only [List.sum_cons, List.getD_cons_succ]
    omega
/-- A row with a place so much greater. -/
def addRow (p : List Int) (k n : Int) : List Int := p.set k.toNat (rd p k + n)
theorem addRow_len (p : List Int) (k n : Int) : (addRow p k n).length = p.length := by unfold addRow; simp
theorem addRow_at {p : List Int} (h : rowB p = true) (k : Int) : 0 ≤ rd p k ∧ rd p k ≤ p.sum := getD_sum p k.toNat (rowB_iff.1 h).2
theorem addRow_ok {p : List Int} {k n : Int} (h : rowB p = true) (k0 : 0 ≤ k) (k1 : k < 8) (n0 : 0 ≤ n) (hs : p.sum + n ≤ 2000) : rowB (addRow p k n) = true ∧ (addRow p k n).sum = p.sum + n := by
  obtain ⟨h8, hm⟩ := rowB_iff.1 h
  have hk := addRow_at h k
  refine ⟨rowB_iff.2 ⟨by rw [addRow_len, h8], fun x hx => ?_⟩, ?_⟩
  · rcases List.mem_or_eq_of_mem_set hx with hx | rfl
    · exact hm x hx
    · omega
  · unfold addRow
    rw [set_sum p k.toNat _ (by omega)]
    unfold rd
    omega
def zero8 : List Int := List.replicate 8 0
def zeros : List (List Int) := [zero8, zero8, zero8]
theorem zero8_ok : rowB zero8 = true := by decide
theorem zeros_ok : roughB zeros = true := by decide
theorem spec_RoughNew_ev : EV (fun k => spec_RoughNew.f k) zeros := by
  refine ⟨4, fun k hk => ?_⟩
  obtain ⟨m, rfl⟩ : ∃ m, k = m + 4 := ⟨k - 4, by omega⟩
  show spec_RoughNew.l0 (m + 4) 0 [] = some zeros
  simp [spec_RoughNew.l0, wrap64, zeros, zero8, List.replicate]
theorem rdL_mid' (pre suf : List (List Int)) (x : List Int) (i : Int) (h : i = (pre.length : Int)) : rd_L2 (pre ++ x :: suf) i = x := by
  subst h
  unfold rd_L2
  rw [Int.toNat_natCast]
  simp [List.getD_eq_getElem?_getD]
theorem l1Copy_l0 (L : List (List Int)) (hL : L.length ≤ 1048576) (hi : ∀ x ∈ L, x.length ≤ 1048576) : ∀ (suf pre : List (List Int)), pre ++ suf = L → EV (fun k => spec_l1Copy.l0 k (pre.length : Int) L pre) L := by
  intro suf
  induction suf with
  | nil =>
    intro pre e
    obtain rfl : pre = L := by simpa using e
    refine EV.succ ?_
    simp only [spec_l1Copy.l0, if_neg (show ¬ (pre.length : Int) < (pre.length : Int) by omega)]
    exact EV.pure _
  | cons x suf ih =>
    intro pre e
    have hl : (L.length : Int) = pre.length + suf.length + 1 := by rw [← e]; exact len_mid _ _ _
    have hx : rd_L2 L (pre.length : Int) = x := by rw [← e]; exact rdL_mid' _ _ _ _ rfl
    have hxl : x.length ≤ 1048576 := hi x (by rw [← e]; simp)
    have hst : wrap64 ((pre.length : Int) + 1) = ((pre ++ [x]).length : Int) := by rw [len_snoc]; exact w64 (by omega) (by omega)
    refine EV.succ ?_
    simp only [spec_l1Copy.l0, hx, if_pos (show (pre.length : Int) < (L.length : Int) by omega), if_pos (show (0 : Int) ≤ (pre.length : Int) by omega), Option.bind_some, List.nil_append, hst,
      if_pos (show ([] : List Int).length + x.length < 17592186044416 by simp; omega), if_pos (show pre.length < 5864062014805 by omega)]
    exact ih (pre ++ [x]) (by rw [← app_mid]; exact e)
theorem l1Copy_ev (L : List (List Int)) (hL : L.length ≤ 1048576) (hi : ∀ x ∈ L, x.length ≤ 1048576) : EV (fun k => spec_l1Copy.f k L) L :=
  l1Copy_l0 L hL hi L [] rfl
theorem add_round {L : List (List Int)} {t n i : Int} {p : List Int} {R : List (List Int) × Bool} (i0 : 0 ≤ i) (i1 : i ≤ 2) (hL : L.length = 3) (t0 : 0 ≤ t) (t1 : t ≤ 63) (hp : rd_L2 L i = p) (hr : rowB p = true) (n0 : 0 ≤ n) (n1 : n ≤ 2000)
    (h : EV (fun k => spec_RoughAdd.l0 k t n (i + 1) (L.set i.toNat (addRow p (placeOf i t) n))) R) : EV (fun k => spec_RoughAdd.l0 k t n i L) R := by
  obtain ⟨q1, _, q3, q4⟩ := place_at i0 i1 t0 t1
  have h8 := (rowB_iff.1 hr).1
  have ha := addRow_at hr (placeOf i t)
  have hb := (sum_bd p (rowB_iff.1 hr).2).2
  rw [h8] at hb
  refine EV.succ ?_
  simp only [spec_RoughAdd.l0, if_pos (show i < 3 by omega), if_pos i0, if_pos (show i < (L.length : Int) by omega), q1, Option.bind_some, hp, if_pos q3, if_pos (show placeOf i t < (p.length : Int) by omega), w64 (x := i + 1) (by omega) (by omega), w64 (x := rd p (placeOf i t) + n) (by omega) (by omega)]
  exact h
/-- What RoughAdd tells. -/
def addL (L : List (List Int)) (t n : Int) : List (List Int) :=
  [addRow (L.getD 0 []) (placeOf 0 t) n, addRow (L.getD 1 []) (placeOf 1 t) n, addRow (L.getD 2 []) (placeOf 2 t) n]
def roughAdd (L : List (List Int)) (t n : Int) : List (List Int) × Bool :=
  if roughB L = true ∧ (0 ≤ t ∧ t ≤ 63) ∧ 0 ≤ n ∧ n ≤ 2000 - (L.headD []).sum then (addL L t n, true) else ([], false)
theorem addL_ok {L : List (List Int)} {t n : Int} (h : roughB L = true) (d : 0 ≤ t ∧ t ≤ 63) (n0 : 0 ≤ n) (n1 : n ≤ 2000 - (L.headD []).sum) : roughB (addL L t n) = true ∧ ((addL L t n).headD []).sum = (L.headD []).sum + n := by
  obtain ⟨a, b, c, rfl, ra, rb, rc, sb, sc, s0, s1⟩ := roughB_open h
  have n1' : n ≤ 2000 - a.sum := n1
  have p0 := place_at (i := 0) (by omega) (by omega) d.1 d.2
  have p1 := place_at (i := 1) (by omega) (by omega) d.1 d.2
  have p2 := place_at (i := 2) (by omega) (by omega) d.1 d.2
  have x0 := addRow_ok ra p0.2.2.1 p0.2.2.2 n0 (by omega)
  have x1 := addRow_ok rb p1.2.2.1 p1.2.2.2 n0 (by omega)
  have x2 := addRow_ok rc p2.2.2.1 p2.2.2.2 n0 (by omega)
  show roughB [addRow a (placeOf 0 t) n, addRow b (placeOf 1 t) n, addRow c (placeOf 2 t) n] = true ∧ (addRow a (placeOf 0 t) n).sum = a.sum + n
  exact ⟨roughB_iff.2 ⟨x0.1, x1.1, x2.1, by omega, by omega, by omega⟩, x0.2⟩
theorem spec_RoughAdd_ev (L : List (List Int)) (t n : Int) : EV (fun k => spec_RoughAdd.f k L t n) (roughAdd L t n) := by
  unfold spec_RoughAdd.f roughAdd
  have stop : EV (fun k => spec_RoughAdd.j0 k t n true L) ([], false) := by
    refine EV.succ ?_
    simp only [spec_RoughAdd.j0, if_true]
    exact EV.pure _
  refine EV.bind (spec_RoughOk_ev L) ?_
  by_cases h : roughB L = true
  · simp only [if_pos h, in_eq, Option.bind_some]
    by_cases d : 0 ≤ t ∧ t ≤ 63
    · obtain ⟨a, b, c, rfl, ra, rb, rc, sb, sc, s0, s1⟩ := roughB_open h
      simp only [decide_eq_true d, if_true, if_pos (show 0 < (([a, b, c] : List (List Int)).length : Int) by simp), show rd_L2 [a, b, c] 0 = a from rfl]
      refine EV.bind (l1Sum_row ra) ?_
      rw [w64 (x := 2000 - a.sum) (by omega) (by omega)]
      by_cases g : 0 ≤ n ∧ n ≤ 2000 - a.sum
      · simp only [decide_eq_true g, Bool.not_true]
        rw [if_pos ⟨h, d, g⟩]
        refine EV.succ ?_
        simp only [spec_RoughAdd.j0, Bool.false_eq_true, if_false]
        have l8 := (rowB_iff.1 ra).1
        have l8b := (rowB_iff.1 rb).1
        have l8c := (rowB_iff.1 rc).1
        refine EV.bind (l1Copy_ev [a, b, c] (by simp) (by intro x hx; simp at hx; rcases hx with rfl | rfl | rfl <;> omega)) ?_
        refine add_round (p := a) (by omega) (by omega) rfl d.1 d.2 rfl ra g.1 (by omega) ?_
        refine add_round (p := b) (by omega) (by omega) rfl d.1 d.2 rfl rb g.1 (by omega) ?_
        refine add_round (p := c) (by omega) (by omega) rfl d.1 d.2 rfl rc g.1 (by omega) ?_
        refine EV.succ ?_
        simp only [spec_RoughAdd.l0, show ((0 : Int) + 1 + 1 + 1) = 3 from rfl, if_neg (show ¬ (3 : Int) < 3 by omega)]
        exact EV.pure _
      · simp only [decide_eq_false g, Bool.not_false]
        rw [if_neg (fun q => g q.2.2)]
        exact stop
    · simp only [decide_eq_false d, Bool.false_eq_true, if_false]
      rw [if_neg (fun q => d q.2.1)]
      exact stop
  · simp only [if_neg h]
    rw [if_neg (fun q => h q.1)]
    exact stop

end Go.Proofs.Ytojhkhpgahhacaa.Ev

/- The program's RoughNew: three rows of eight noughts. No condition. -/
namespace Go.Proofs.Ytojhkhpgahhacaa.Ev
open Go.RowKit Go.Proofs.YtojhkhpgahhacaaW.PrintWords Go.Proofs.YtojhkhpgahhacaaW.PrintLast Go.Proofs.Ytojhkhpgahhacaa.PA

theorem impl_RoughNew_ev : EV (fun k => impl_RoughNew.f k) zeros := by
  refine ⟨4, fun k hk => ?_⟩
  obtain ⟨m, rfl⟩ : ∃ m, k = m + 4 := ⟨k - 4, by omega⟩
  show impl_RoughNew.f (m + 4) = some zeros
  simp [impl_RoughNew.f, impl_RoughNew.l0, wrap64, zeros, zero8, List.replicate]

end Go.Proofs.Ytojhkhpgahhacaa.Ev

/- What the program's and the reference's RoughAll tells: the same. No condition. -/
namespace Go.Proofs.Ytojhkhpgahhacaa.Ev
open Go.RowKit Go.Proofs.YtojhkhpgahhacaaW.PrintWords Go.Proofs.YtojhkhpgahhacaaW.PrintLast Go.Proofs.Ytojhkhpgahhacaa.PA

theorem mn_eq (a b : Int) : mn a b = min a b := by
  unfold mn
  omega
def roughAll (L : List (List Int)) : Int := if roughB L = true then (L.headD []).sum else -1
theorem roughAll_ok {a b c : List Int} (h : roughB [a, b, c] = true) : roughAll [a, b, c] = a.sum := by unfold roughAll; rw [if_pos h]; rfl
theorem roughAll_no {L : List (List Int)} (h : ¬ roughB L = true) : roughAll L = -1 := by unfold roughAll; rw [if_neg h]
theorem impl_RoughAll_ev (L : List (List Int)) : EV (fun k => impl_RoughAll.f k L) (roughAll L) := by
  unfold impl_RoughAll.f
  refine EV.bind (impl_RoughOk_ev L) ?_
  by_cases h : roughB L = true
  · obtain ⟨a, b, c, rfl, ra, _, _, _, _, _, s⟩ := roughB_open h
    simp only [if_pos h, if_pos (show 0 < (([a, b, c] : List (List Int)).length : Int) by simp), show rd_L2 [a, b, c] 0 = a from rfl]
    refine EV.bind (rowAll_ev a) ?_
    exact (EV.pure _).cast (by rw [roughAll_ok h]; simp [rowAllR, ra])
  · simp only [if_neg h]
    exact (EV.pure _).cast (roughAll_no h).symm
theorem rd_row {p : List Int} (h : rowB p = true) (i : Int) : 0 ≤ rd p i ∧ rd p i ≤ 2000 := by
  unfold rd
  rw [List.getD_eq_getElem?_getD]
  cases e : p[i.toNat]? with
  | none => simp
  | some x => simpa using (rowB_iff.1 h).2 x (List.mem_of_getElem? e)
theorem row_len {p : List Int} (h : rowB p = true) : (p.length : Int) = 8 := by have := (rowB_iff.1 h).1; omega
end Go.Proofs.Ytojhkhpgahhacaa.Ev

/- Sums of rough counts: what the program's roughSum tells; what the laws compare. No condition. -/
namespace Go.Proofs.Ytojhkhpgahhacaa.Ev
open Go.RowKit Go.Proofs.YtojhkhpgahhacaaW.PrintWords Go.Proofs.YtojhkhpgahhacaaW.PrintLast Go.Proofs.Ytojhkhpgahhacaa.PA

/-- Two rows, place by place. -/
def plusR (p q : List Int) : List Int := List.zipWith (· + ·) p q
theorem plusR_len {p q : List Int} (h : p.length = q.length) : (plusR p q).length = p.length := by
  unfold plusR
  simp
  omega
theorem plusR_sum : ∀ (p q : List Int), p.length = q.length → (plusR p q).sum = p.sum + q.sum
  | [], [], _ => rfl
  | [], _ :: _, h => by simp at h
  | _ :: _, [], h => by simp at h
  | x :: p, y :: q, h => by
    have ih := plusR_sum p q (by simpa using h)
    simp only [plusR, List.zipWith_cons_cons, List.sum_cons] at ih ⊢
    omega
theorem plusR_getD : ∀ (p q : List Int) (n : Nat), p.length = q.length → (plusR p q).getD n 0 = p.getD n 0 + q.getD n 0
  | [], [], n, _ => by simp [plusR]
  | [], _ :: _, _, h => by simp at h
  | _ :: _, [], _, h => by simp at h
  | x :: p, y :: q, 0, _ => by simp [plusR]
  | x :: p, y :: q, n + 1, h => by
    have ih := plusR_getD p q n (by simpa using h)
    simpa [plusR] using ih
theorem plusR_rd {p q : List Int} (h : p.length = q.length) (i : Int) : rd (plusR p q) i = rd p i + rd q i := plusR_getD p q i.toNat h
theorem plusR_comm : ∀ (p q : List Int), plusR p q = plusR q p
  | [], [] => rfl
  | [], _ :: _ => rfl
  | _ :: _, [] => rfl
  | x :: p, y :: q => by
    have ih := plusR_comm p q
    simp only [plusR, List.zipWith_cons_cons] at ih ⊢
    rw [ih, Int.add_comm]
theorem plusR_assoc : ∀ (p q r : List Int), plusR (plusR p q) r = plusR p (plusR q r)
  | [], _, _ => by simp [plusR]
  | _ :: _, [], _ => by simp [plusR]
  | _ :: _, _ :: _, [] => by simp [plusR]
  | x :: p, y :: q, z :: r => by
    have ih := plusR_assoc p q r
    simp only [plusR, List.zipWith_cons_cons] at ih ⊢
    rw [ih, Int.add_assoc]
theorem plusR_zero : ∀ (p : List Int), plusR p (List.replicate p.length 0) = p
  | [] => rfl
  | x :: p => by
    have ih := plusR_zero p
    simp only [plusR, List.length_cons, List.replicate_succ, List.zipWith_cons_cons] at ih ⊢
    rw [ih, Int.add_zero]
theorem plusR_zero8 {p : List Int} (h : rowB p = true) : plusR p zero8 = p := by
  have h8 := (rowB_iff.1 h).1
  have := plusR_zero p
  rw [h8] at this
  exact this
theorem sum_ge : ∀ (p : List Int), (∀ x ∈ p, 0 ≤ x) → ∀ x ∈ p, x ≤ p.sum
  | [], _, x, h => by cases h
  | y :: p, h, x, hx => by
    have h0 := h y (by simp)
    have hs : ∀ (l : List Int), (∀ x ∈ l, 0 ≤ x) → 0 ≤ l.sum := by
      intro l
      induction l with
      | nil => intro _; simp
      | cons z l ih =>
        intro hl
        have a := hl z (by simp)
        have b := ih (fun x hx => hl x (List.mem_cons_of_mem _ hx))
        simp only [List.sum_cons]
        omega
    have hp := hs p (fun z hz => h z (List.mem_cons_of_mem _ hz))
    simp only [List.sum_cons]
    rcases List.mem_cons.1 hx with rfl | hx
    · omega
    · have := sum_ge p (fun z hz => h z (List.mem_cons_of_mem _ hz)) x hx
      omega
theorem plusR_mem : ∀ (p q : List Int), (∀ x ∈ p, 0 ≤ x) → (∀ x ∈ q, 0 ≤ x) → ∀ x ∈ plusR p q, 0 ≤ x
  | [], _, _, _, x, h => by simp [plusR] at h
  | _ :: _, [], _, _, x, h => by simp [plusR] at h
  | y :: p, z :: q, hp, hq, x, h => by
    simp only [plusR, List.zipWith_cons_cons] at h
    have h1 := hp y (by simp)
    have h2 := hq z (by simp)
    rcases List.mem_cons.1 h with rfl | h
    · omega
    · exact plusR_mem p q (fun a ha => hp a (List.mem_cons_of_mem _ ha)) (fun a ha => hq a (List.mem_cons_of_mem _ ha)) x h
theorem plusR_ok {p q : List Int} (hp : rowB p = true) (hq : rowB q = true) (h : p.sum + q.sum ≤ 2000) : rowB (plusR p q) = true ∧ (plusR p q).sum = p.sum + q.sum := by
  obtain ⟨p8, pm⟩ := rowB_iff.1 hp
  obtain ⟨q8, qm⟩ := rowB_iff.1 hq
  have hs := plusR_sum p q (by omega)
  have h0 := plusR_mem p q (fun x hx => (pm x hx).1) (fun x hx => (qm x hx).1)
  refine ⟨rowB_iff.2 ⟨by rw [plusR_len (by omega)]; exact p8, fun x hx => ⟨h0 x hx, ?_⟩⟩, hs⟩
  have := sum_ge _ h0 x hx
  omega
/-- Two counts, place by place. -/
def plusL (L M : List (List Int)) : List (List Int) := List.zipWith plusR L M
theorem plusL_comm : ∀ (L M : List (List Int)), plusL L M = plusL M L
  | [], [] => rfl
  | [], _ :: _ => rfl
  | _ :: _, [] => rfl
  | x :: p, y :: q => by
    have ih := plusL_comm p q
    simp only [plusL, List.zipWith_cons_cons] at ih ⊢
    rw [ih, plusR_comm]
theorem plusL_assoc : ∀ (L M K : List (List Int)), plusL (plusL L M) K = plusL L (plusL M K)
  | [], _, _ => by simp [plusL]
  | _ :: _, [], _ => by simp [plusL]
  | _ :: _, _ :: _, [] => by simp [plusL]
  | x :: p, y :: q, z :: r => by
    have ih := plusL_assoc p q r
    simp only [plusL, List.zipWith_cons_cons] at ih ⊢
    rw [ih, plusR_assoc]
theorem plusL_ok {L M : List (List Int)} (hL : roughB L = true) (hM : roughB M = true) (h : (L.headD []).sum + (M.headD []).sum ≤ 2000) : roughB (plusL L M) = true ∧ ((plusL L M).headD []).sum = (L.headD []).sum + (M.headD []).sum := by
  obtain ⟨a, b, c, rfl, ra, rb, rc, sb, sc, s0, s1⟩ := roughB_open hL
  obtain ⟨a', b', c', rfl, ra', rb', rc', sb', sc', s0', s1'⟩ := roughB_open hM
  have h' : a.sum + a'.sum ≤ 2000 := h
  have x0 := plusR_ok ra ra' (by omega)
  have x1 := plusR_ok rb rb' (by omega)
  have x2 := plusR_ok rc rc' (by omega)
  show roughB [plusR a a', plusR b b', plusR c c'] = true ∧ (plusR a a').sum = a.sum + a'.sum
  exact ⟨roughB_iff.2 ⟨x0.1, x1.1, x2.1, by omega, by omega, by omega⟩, x0.2⟩
theorem plusL_zeros {L : List (List Int)} (hL : roughB L = true) : plusL L zeros = L := by
  obtain ⟨a, b, c, rfl, ra, rb, rc, _⟩ := roughB_open hL
  show [plusR a zero8, plusR b zero8, plusR c zero8] = [a, b, c]
  rw [plusR_zero8 ra, plusR_zero8 rb, plusR_zero8 rc]

/-! the program's sums -/
theorem join_int (A B : List Int) (ha : ∀ x ∈ A, 0 ≤ x ∧ x ≤ 2000) (hb : ∀ x ∈ B, 0 ≤ x ∧ x ≤ 2000) (hA : A.length ≤ 1048576) : ∀ (n : Nat) (pre1 suf1 pre2 suf2 : List Int), n = suf1.length → n = suf2.length → pre1 ++ suf1 = A → pre2 ++ suf2 = B → pre1.length = pre2.length →
    EV (fun k => impl_joinRows_int_52.l0 k A B (plusR pre1 pre2 ++ List.replicate n 0) (A.length : Int) (pre1.length : Int)) (plusR A B) := by
  intro n
  induction n with
  | zero =>
    intro pre1 suf1 pre2 suf2 h1 h2 e1 e2 hp
    obtain rfl : pre1 = A := by rw [← e1, List.eq_nil_of_length_eq_zero h1.symm]; simp
    obtain rfl : pre2 = B := by rw [← e2, List.eq_nil_of_length_eq_zero h2.symm]; simp
    refine EV.succ ?_
    simp only [impl_joinRows_int_52.l0, if_neg (show ¬ (pre1.length : Int) < (pre1.length : Int) by omega)]
    exact (EV.pure _).cast (by simp)
  | succ n ih =>
    intro pre1 suf1 pre2 suf2 h1 h2 e1 e2 hp
    obtain ⟨x, suf1, rfl⟩ := List.exists_cons_of_length_eq_add_one h1.symm
    obtain ⟨y, suf2, rfl⟩ := List.exists_cons_of_length_eq_add_one h2.symm
    have hl1 : (A.length : Int) = pre1.length + suf1.length + 1 := by rw [← e1]; exact len_mid _ _ _
    have hl2 : (B.length : Int) = pre2.length + suf2.length + 1 := by rw [← e2]; exact len_mid _ _ _
    have hx : rd A (pre1.length : Int) = x := by rw [← e1]; exact rd_mid _ _ _ _ rfl
    have hy : rd B (pre1.length : Int) = y := by rw [← e2]; exact rd_mid _ _ _ _ (by omega)
    have mx := ha x (by rw [← e1]; simp)
    have my := hb y (by rw [← e2]; simp)
    have hpl : (plusR pre1 pre2).length = pre1.length := plusR_len hp
    have hs : (plusR pre1 pre2 ++ List.replicate (n + 1) 0).set (pre1.length : Int).toNat (x + y) = plusR (pre1 ++ [x]) (pre2 ++ [y]) ++ List.replicate n 0 := by
      rw [List.replicate_succ, set_mid _ _ _ _ _ (by rw [hpl]; simp)]
      unfold plusR
      rw [List.zipWith_append hp]
      simp
    have hst : wrap64 ((pre1.length : Int) + 1) = ((pre1 ++ [x]).length : Int) := by rw [len_snoc]; exact w64 (by omega) (by omega)
    have hn : (pre1.length : Int) < ((plusR pre1 pre2 ++ List.replicate (n + 1) 0).length : Int) := by
      rw [List.length_append, hpl, List.length_replicate]
      omega
    refine EV.succ ?_
    simp only [impl_joinRows_int_52.l0, impl_plus.f, hx, hy, if_pos (show (pre1.length : Int) < (A.length : Int) by omega), if_pos (show (0 : Int) ≤ (pre1.length : Int) by omega), if_pos (show (pre1.length : Int) < (B.length : Int) by omega), Option.bind_some, w64 (x := x + y) (by omega) (by omega), if_pos hn, hs, hst]
    exact ih (pre1 ++ [x]) suf1 (pre2 ++ [y]) suf2 (by simpa using h1) (by simpa using h2) (by rw [← app_mid]; exact e1) (by rw [← app_mid]; exact e2) (by simp; omega)
theorem sum1_ev {A B : List Int} (ha : rowB A = true) (hb : rowB B = true) : EV (fun k => impl_roughSum_1.f k A B) (plusR A B) := by
  obtain ⟨a8, am⟩ := rowB_iff.1 ha
  obtain ⟨b8, bm⟩ := rowB_iff.1 hb
  unfold impl_roughSum_1.f impl_joinRows_int_52.f
  simp only [if_pos (show 0 ≤ (A.length : Int) by omega), Int.toNat_natCast, if_pos (show A.length ≤ 35184372088832 by omega), Option.bind_some, List.length_replicate]
  refine EV.bind (join_int A B am bm (by omega) A.length [] A [] B rfl (by omega) rfl rfl rfl) ?_
  exact EV.pure _
theorem join_round {L M X : List (List Int)} {i : Int} {p q : List Int} {R : List (List Int)} (i0 : 0 ≤ i) (i1 : i ≤ 2) (hL : L.length = 3) (hM : M.length = 3) (hX : X.length = 3) (hp : rd_L2 L i = p) (hq : rd_L2 M i = q) (rp : rowB p = true) (rq : rowB q = true)
    (h : EV (fun k => Go.Proofs.Ytojhkhpgahhacaa.H.joinSS.l0 k L M (X.set i.toNat (plusR p q)) 3 (i + 1)) R) : EV (fun k => Go.Proofs.Ytojhkhpgahhacaa.H.joinSS.l0 k L M X 3 i) R := by
  refine EV.succ ?_
  simp only [Go.Proofs.Ytojhkhpgahhacaa.H.joinSS.l0, if_pos (show i < 3 by omega), if_pos i0, if_pos (show i < (L.length : Int) by omega), if_pos (show i < (M.length : Int) by omega), hp, hq, if_pos (show i < (X.length : Int) by omega), w64 (x := i + 1) (by omega) (by omega)]
  refine EV.bind (sum1_ev rp rq) ?_
  exact h
theorem roughSum_ev {L M : List (List Int)} (hL : roughB L = true) (hM : roughB M = true) : EV (fun k => impl_roughSum.f k L M) (plusL L M) := by
  obtain ⟨a, b, c, rfl, ra, rb, rc, sb, sc, s0, s1⟩ := roughB_open hL
  obtain ⟨a', b', c', rfl, ra', rb', rc', sb', sc', s0', s1'⟩ := roughB_open hM
  unfold impl_roughSum.f impl_joinRows_int_50.f Go.Proofs.Ytojhkhpgahhacaa.H.joinSS.f
  simp only [if_pos (show 0 ≤ (([a, b, c] : List (List Int)).length : Int) by omega), Int.toNat_natCast, if_pos (show ([a, b, c] : List (List Int)).length ≤ 11728124029610 by simp), Option.bind_some, List.length_replicate]
  refine EV.bind (a := [plusR a a', plusR b b', plusR c c']) ?_ (EV.pure _)
  refine join_round (p := a) (q := a') (by omega) (by omega) rfl rfl rfl rfl rfl ra ra' ?_
  refine join_round (p := b) (q := b') (by omega) (by omega) rfl rfl rfl rfl rfl rb rb' ?_
  refine join_round (p := c) (q := c') (by omega) (by omega) rfl rfl rfl rfl rfl rc rc' ?_
  refine EV.succ ?_
  simp only [Go.Proofs.Ytojhkhpgahhacaa.H.joinSS.l0, show ((0 : Int) + 1 + 1 + 1) = 3 from rfl, if_neg (show ¬ (3 : Int) < 3 by omega)]
  exact EV.pure _
/-! the laws' own -/
theorem lkInts_l0 (L : List Int) (hL : L.length < 1125899906842624) : ∀ (suf pre : List Int), pre ++ suf = L → EV (fun k => laws_lkInts.l0 k L L (pre.length : Int)) true := by
  intro suf
  induction suf with
  | nil =>
    intro pre e
    obtain rfl : pre = L := by simpa using e
    refine EV.succ ?_
    simp only [laws_lkInts.l0, if_neg (show ¬ (pre.length : Int) < (pre.length : Int) by omega)]
    exact EV.pure _
  | cons x suf ih =>
    intro pre e
    have hl : (L.length : Int) = pre.length + suf.length + 1 := by rw [← e]; exact len_mid _ _ _
    refine EV.succ ?_
    simp only [laws_lkInts.l0, if_pos (show (pre.length : Int) < (L.length : Int) by omega), if_pos (show (0 : Int) ≤ (pre.length : Int) by omega), if_true]
    rw [w64 (x := (pre.length : Int) + 1) (by omega) (by omega), ← len_snoc pre x]
    exact ih (pre ++ [x]) (by rw [← app_mid]; exact e)
theorem lkInts_ev (l : List Int) (h : l.length < 1125899906842624) : EV (fun k => laws_lkInts.f k l l) true := by
  unfold laws_lkInts.f
  simp only [if_true]
  exact lkInts_l0 l h l [] rfl
theorem lkRough_l0 (L : List (List Int)) (hL : L.length < 1125899906842624) (hi : ∀ x ∈ L, x.length < 1125899906842624) : ∀ (suf pre : List (List Int)), pre ++ suf = L → EV (fun k => laws_lkRough.l0 k (pre.length : Int) L L) true := by
  intro suf
  induction suf with
  | nil =>
    intro pre e
    obtain rfl : pre = L := by simpa using e
    refine EV.succ ?_
    simp only [laws_lkRough.l0, if_neg (show ¬ (pre.length : Int) < (pre.length : Int) by omega)]
    exact EV.pure _
  | cons x suf ih =>
    intro pre e
    have hl : (L.length : Int) = pre.length + suf.length + 1 := by rw [← e]; exact len_mid _ _ _
    have hx : rd_L2 L (pre.length : Int) = x := by rw [← e]; exact rdL_mid' _ _ _ _ rfl
    refine EV.succ ?_
    simp only [laws_lkRough.l0, hx, if_pos (show (pre.length : Int) < (L.length : Int) by omega), if_pos (show (0 : Int) ≤ (pre.length : Int) by omega)]
    refine EV.bind (lkInts_ev x (hi x (by rw [← e]; simp))) ?_
    simp only [if_true]
    rw [w64 (x := (pre.length : Int) + 1) (by omega) (by omega), ← len_snoc pre x]
    exact ih (pre ++ [x]) (by rw [← app_mid]; exact e)
theorem lkRough_ev {L : List (List Int)} (h : roughB L = true ∨ L = []) : EV (fun k => laws_lkRough.f k L L) true := by
  unfold laws_lkRough.f
  simp only [if_true]
  rcases h with h | rfl
  · obtain ⟨a, b, c, rfl, ra, rb, rc, _⟩ := roughB_open h
    have l8 := (rowB_iff.1 ra).1
    have l8b := (rowB_iff.1 rb).1
    have l8c := (rowB_iff.1 rc).1
    exact lkRough_l0 [a, b, c] (by simp) (by intro x hx; simp at hx; rcases hx with rfl | rfl | rfl <;> omega) [a, b, c] [] rfl
  · exact lkRough_l0 [] (by simp) (by simp) [] [] rfl
theorem lkRough_tot {L M : List (List Int)} (e : L = M) (h : roughB M = true ∨ M = []) : Tot (fun k => laws_lkRough.f k L M) (fun b => b = true) := by
  subst e
  exact Tot.of (lkRough_ev h) rfl
theorem roughAll_hd {L : List (List Int)} (h : roughB L = true) : roughAll L = (L.headD []).sum := by unfold roughAll; rw [if_pos h]
theorem hd_bd {L : List (List Int)} (h : roughB L = true) : 0 ≤ (L.headD []).sum ∧ (L.headD []).sum ≤ 2000 := by
  obtain ⟨a, b, c, rfl, _, _, _, _, _, s0, s1⟩ := roughB_open h
  exact ⟨s0, s1⟩

end Go.Proofs.Ytojhkhpgahhacaa.Ev

/- What RoughJoin of the program and the reference tells: the same. No condition. -/
namespace Go.Proofs.Ytojhkhpgahhacaa.Ev
open Go.RowKit Go.Proofs.YtojhkhpgahhacaaW.PrintWords Go.Proofs.YtojhkhpgahhacaaW.PrintLast Go.Proofs.Ytojhkhpgahhacaa.PA

/-- What RoughJoin tells. -/
def joinR (L M : List (List Int)) : List (List Int) × Bool :=
  if roughB L = true ∧ roughB M = true ∧ (L.headD []).sum + (M.headD []).sum ≤ 2000 then (plusL L M, true) else ([], false)
theorem impl_RoughJoin_ev (L M : List (List Int)) : EV (fun k => impl_RoughJoin.f k L M) (joinR L M) := by
  unfold impl_RoughJoin.f joinR
  refine EV.bind (impl_RoughOk_ev L) ?_
  by_cases c : roughB L = true
  · simp only [if_pos c]
    refine EV.bind (impl_RoughOk_ev M) ?_
    by_cases d : roughB M = true
    · simp only [if_pos d]
      refine EV.bind (impl_RoughAll_ev L) (EV.bind (impl_RoughAll_ev M) ?_)
      obtain ⟨a, b, e, hLe, _, _, _, _, _, s0, s1⟩ := roughB_open c
      obtain ⟨a', b', e', hMe, _, _, _, _, _, s0', s1'⟩ := roughB_open d
      have hl : roughAll L = (L.headD []).sum := by unfold roughAll; rw [if_pos c]
      have hm : roughAll M = (M.headD []).sum := by unfold roughAll; rw [if_pos d]
      have b0 : 0 ≤ (L.headD []).sum ∧ (L.headD []).sum ≤ 2000 := by rw [hLe]; exact ⟨s0, s1⟩
      have b1 : 0 ≤ (M.headD []).sum ∧ (M.headD []).sum ≤ 2000 := by rw [hMe]; exact ⟨s0', s1'⟩
      rw [hl, hm, w64 (x := (L.headD []).sum + (M.headD []).sum) (by omega) (by omega)]
      by_cases g : (L.headD []).sum + (M.headD []).sum > 2000
      · simp only [if_pos g]
        rw [if_neg (show ¬ (roughB L = true ∧ roughB M = true ∧ (L.headD []).sum + (M.headD []).sum ≤ 2000) from fun q => by omega)]
        exact EV.pure _
      · simp only [if_neg g]
        rw [if_pos (show roughB L = true ∧ roughB M = true ∧ (L.headD []).sum + (M.headD []).sum ≤ 2000 from ⟨c, d, by omega⟩)]
        refine EV.bind (roughSum_ev c d) ?_
        exact EV.pure _
    · simp only [if_neg d]
      rw [if_neg (show ¬ (roughB L = true ∧ roughB M = true ∧ (L.headD []).sum + (M.headD []).sum ≤ 2000) from fun q => d q.2.1)]
      exact EV.pure _
  · simp only [if_neg c]
    rw [if_neg (show ¬ (roughB L = true ∧ roughB M = true ∧ (L.headD []).sum + (M.headD []).sum ≤ 2000) from fun q => c q.1)]
    exact EV.pure _

/-! the reference's sum -/
theorem sjoin_row {M : List (List Int)} {i : Int} {q : List Int} {R : List (List Int) × Bool} (i0 : 0 ≤ i) (i1 : i ≤ 2) (hM : M.length = 3) (hq : rd_L2 M i = q) (rq : rowB q = true) {p : List Int} (rp : rowB p = true) {X : List (List Int)} (hX : X.length = 3)
    (h : EV (fun k => spec_RoughJoin.l0 k (i + 1) M (X.set i.toNat (plusR p q))) R) : ∀ (n : Nat) (pre1 suf1 pre2 suf2 : List Int), n = suf1.length → n = suf2.length → pre1 ++ suf1 = p → pre2 ++ suf2 = q → pre1.length = pre2.length →
    EV (fun k => spec_RoughJoin.l1 k i (pre1.length : Int) M (X.set i.toNat (plusR pre1 pre2 ++ suf1))) R := by
  obtain ⟨p8, pm⟩ := rowB_iff.1 rp
  obtain ⟨q8, qm⟩ := rowB_iff.1 rq
  intro n
  induction n with
  | zero =>
    intro pre1 suf1 pre2 suf2 h1 h2 e1 e2 hp
    have z1 := List.eq_nil_of_length_eq_zero h1.symm
    subst z1
    obtain rfl : pre1 = p := by rw [← e1]; simp
    obtain rfl : pre2 = q := by rw [← e2, List.eq_nil_of_length_eq_zero h2.symm]; simp
    refine EV.succ ?_
    simp only [spec_RoughJoin.l1, if_neg (show ¬ (pre1.length : Int) < 8 by omega), w64 (x := i + 1) (by omega) (by omega), List.append_nil]
    exact h
  | succ n ih =>
    intro pre1 suf1 pre2 suf2 h1 h2 e1 e2 hp
    obtain ⟨x, suf1, rfl⟩ := List.exists_cons_of_length_eq_add_one h1.symm
    obtain ⟨y, suf2, rfl⟩ := List.exists_cons_of_length_eq_add_one h2.symm
    have hl1 : (p.length : Int) = pre1.length + suf1.length + 1 := by rw [← e1]; exact len_mid _ _ _
    have hpl : (plusR pre1 pre2).length = pre1.length := plusR_len hp
    have hrow : rd_L2 (X.set i.toNat (plusR pre1 pre2 ++ x :: suf1)) i = plusR pre1 pre2 ++ x :: suf1 := by
      unfold rd_L2
      rw [List.getD_eq_getElem?_getD, List.getElem?_set_self (by omega)]
      rfl
    have hx : rd (plusR pre1 pre2 ++ x :: suf1) (pre1.length : Int) = x := rd_mid _ _ _ _ (by rw [hpl])
    have hy : rd q (pre1.length : Int) = y := by rw [← e2]; exact rd_mid _ _ _ _ (by omega)
    have mx := pm x (by rw [← e1]; simp)
    have my := qm y (by rw [← e2]; simp)
    have hst : wrap64 ((pre1.length : Int) + 1) = ((pre1 ++ [x]).length : Int) := by rw [len_snoc]; exact w64 (by omega) (by omega)
    have hs : (plusR pre1 pre2 ++ x :: suf1).set (pre1.length : Int).toNat (x + y) = plusR (pre1 ++ [x]) (pre2 ++ [y]) ++ suf1 := by
      rw [set_mid _ _ _ _ _ (by rw [hpl]; simp)]
      unfold plusR
      rw [List.zipWith_append hp]
      simp
    have hn : (pre1.length : Int) < ((plusR pre1 pre2 ++ x :: suf1).length : Int) := by
      rw [List.length_append, hpl, List.length_cons]
      omega
    refine EV.succ ?_
    simp only [spec_RoughJoin.l1, hrow, hq, hx, hy, if_pos (show (pre1.length : Int) < 8 by omega), if_pos i0, List.length_set, if_pos (show i < (X.length : Int) by omega), if_pos (show (0 : Int) ≤ (pre1.length : Int) by omega), if_pos hn, if_pos (show i < (M.length : Int) by omega), if_pos (show (pre1.length : Int) < (q.length : Int) by omega), hst, w64 (x := x + y) (by omega) (by omega), hs, List.set_set]
    exact ih (pre1 ++ [x]) suf1 (pre2 ++ [y]) suf2 (by simpa using h1) (by simpa using h2) (by rw [← app_mid]; exact e1) (by rw [← app_mid]; exact e2) (by simp; omega)
theorem sjoin_round {M X : List (List Int)} {i : Int} {p q : List Int} {R : List (List Int) × Bool} (i0 : 0 ≤ i) (i1 : i ≤ 2) (hM : M.length = 3) (hX : X.length = 3) (hp : X = X.set i.toNat p) (hq : rd_L2 M i = q) (rp : rowB p = true) (rq : rowB q = true)
    (h : EV (fun k => spec_RoughJoin.l0 k (i + 1) M (X.set i.toNat (plusR p q))) R) : EV (fun k => spec_RoughJoin.l0 k i M X) R := by
  refine EV.succ ?_
  simp only [spec_RoughJoin.l0, if_pos (show i < 3 by omega)]
  have p8 := (rowB_iff.1 rp).1
  have q8 := (rowB_iff.1 rq).1
  have := sjoin_row i0 i1 hM hq rq rp hX h 8 [] p [] q (by omega) (by omega) rfl rfl rfl
  rw [show plusR [] [] ++ p = p from rfl, ← hp] at this
  exact this
theorem spec_RoughJoin_ev (L M : List (List Int)) : EV (fun k => spec_RoughJoin.f k L M) (joinR L M) := by
  unfold spec_RoughJoin.f joinR
  have stop : EV (fun k => spec_RoughJoin.j0 k true L M) ([], false) := by
    refine EV.succ ?_
    simp only [spec_RoughJoin.j0, if_true]
    exact EV.pure _
  refine EV.bind (spec_RoughOk_ev L) ?_
  by_cases c : roughB L = true
  · simp only [if_pos c]
    refine EV.bind (spec_RoughOk_ev M) ?_
    by_cases d : roughB M = true
    · simp only [if_pos d]
      obtain ⟨a, b, e, rfl, ra, rb, re, sb, se, s0, s1⟩ := roughB_open c
      obtain ⟨a', b', e', rfl, ra', rb', re', sb', se', s0', s1'⟩ := roughB_open d
      simp only [if_pos (show 0 < (([a, b, e] : List (List Int)).length : Int) by simp), if_pos (show 0 < (([a', b', e'] : List (List Int)).length : Int) by simp), show rd_L2 [a, b, e] 0 = a from rfl, show rd_L2 [a', b', e'] 0 = a' from rfl]
      refine EV.bind (l1Sum_row ra) (EV.bind (l1Sum_row ra') ?_)
      rw [w64 (x := a.sum + a'.sum) (by omega) (by omega)]
      by_cases g : a.sum + a'.sum > 2000
      · simp only [decide_eq_true g]
        exact stop.cast (if_neg (fun q => by have q2 : a.sum + a'.sum ≤ 2000 := q.2.2; omega)).symm
      · simp only [decide_eq_false g]
        refine EV.cast ?_ (if_pos ⟨c, d, show a.sum + a'.sum ≤ 2000 by omega⟩).symm
        refine EV.succ ?_
        simp only [spec_RoughJoin.j0, Bool.false_eq_true, if_false]
        have l8 := (rowB_iff.1 ra).1
        have l8b := (rowB_iff.1 rb).1
        have l8c := (rowB_iff.1 re).1
        refine EV.bind (l1Copy_ev [a, b, e] (by simp) (by intro x hx; simp at hx; rcases hx with rfl | rfl | rfl <;> omega)) ?_
        refine sjoin_round (p := a) (q := a') (by omega) (by omega) rfl rfl rfl rfl ra ra' ?_
        refine sjoin_round (p := b) (q := b') (by omega) (by omega) rfl rfl rfl rfl rb rb' ?_
        refine sjoin_round (p := e) (q := e') (by omega) (by omega) rfl rfl rfl rfl re re' ?_
        refine EV.succ ?_
        simp only [spec_RoughJoin.l0, show ((0 : Int) + 1 + 1 + 1) = 3 from rfl, if_neg (show ¬ (3 : Int) < 3 by omega)]
        exact EV.pure _
    · simp only [if_neg d]
      rw [if_neg (show ¬ (roughB L = true ∧ roughB M = true ∧ (L.headD []).sum + (M.headD []).sum ≤ 2000) from fun q => d q.2.1)]
      exact stop
  · simp only [if_neg c]
    rw [if_neg (show ¬ (roughB L = true ∧ roughB M = true ∧ (L.headD []).sum + (M.headD []).sum ≤ 2000) from fun q => c q.1)]
    exact stop

theorem joinR_ok {L M : List (List Int)} (h : roughB L = true ∧ roughB M = true ∧ (L.headD []).sum + (M.headD []).sum ≤ 2000) : joinR L M = (plusL L M, true) := if_pos h
theorem joinR_not {L M : List (List Int)} (h : ¬ (roughB L = true ∧ roughB M = true ∧ (L.headD []).sum + (M.headD []).sum ≤ 2000)) : joinR L M = ([], false) := if_neg h
theorem joinR_or (L M : List (List Int)) : roughB (joinR L M).1 = true ∨ (joinR L M).1 = [] := by
  by_cases h : roughB L = true ∧ roughB M = true ∧ (L.headD []).sum + (M.headD []).sum ≤ 2000
  · rw [joinR_ok h]
    exact .inl (plusL_ok h.1 h.2.1 h.2.2).1
  · rw [joinR_not h]
    exact .inr rfl

end Go.Proofs.Ytojhkhpgahhacaa.Ev

/- Marking and holding of rows of marks in an exact law: what was marked from k0 on, row by row, is held. Conditions: rows of at most 2^32, numbers below 2^60. -/
namespace Go.Proofs.Ytojhkhpgahhacaa.Ev
open Go.RowKit Go.Proofs.YtojhkhpgahhacaaW.PrintWords Go.Proofs.YtojhkhpgahhacaaW.PrintLast Go.Proofs.Ytojhkhpgahhacaa.PA Go.Proofs.Ytojhkhpgahhacaa.H

/-- n numbers, from k on. -/
def upFrom : Int → Nat → List Int
  | _, 0 => []
  | k, n + 1 => k :: upFrom (k + 1) n
theorem upFrom_len : ∀ (n : Nat) (k : Int), (upFrom k n).length = n
  | 0, _ => rfl
  | n + 1, k => by
    show (upFrom (k + 1) n).length + 1 = n + 1
    rw [upFrom_len n]
theorem mark_l0 : ∀ (suf pre : List Int) (k0 : Int), pre.length + suf.length ≤ 4294967296 → 0 ≤ k0 → k0 + suf.length ≤ 1152921504606846976 →
    EV (fun k => laws_markIntS.l0 k (pre ++ suf) k0 (pre.length : Int)) (k0 + suf.length, pre ++ upFrom k0 suf.length) := by
  intro suf
  induction suf with
  | nil =>
    intro pre k0 _ _ _
    refine EV.succ ?_
    simp only [laws_markIntS.l0, List.append_nil, if_neg (show ¬ (pre.length : Int) < (pre.length : Int) by omega)]
    exact (EV.pure _).cast (by simp [upFrom])
  | cons x suf ih =>
    intro pre k0 h h0 h1
    simp only [List.length_cons] at h h1
    have hl : (((pre ++ x :: suf).length : Nat) : Int) = pre.length + suf.length + 1 := len_mid _ _ _
    have hst : wrap64 ((pre.length : Int) + 1) = ((pre ++ [k0]).length : Int) := by rw [len_snoc]; exact w64 (by omega) (by omega)
    have hk : wrap64 (k0 + 1) = k0 + 1 := w64 (by omega) (by omega)
    have hpl : (pre ++ [k0]).length = pre.length + 1 := by simp
    refine EV.succ ?_
    simp only [laws_markIntS.l0, if_pos (show (pre.length : Int) < ((pre ++ x :: suf).length : Int) by omega), if_pos (show (0 : Int) ≤ (pre.length : Int) by omega), hst, hk, Int.toNat_natCast, set_mid pre suf x k0 _ rfl]
    rw [app_mid pre suf k0]
    refine (ih (pre ++ [k0]) (k0 + 1) (by omega) (by omega) (by omega)).cast ?_
    simp only [List.length_cons, upFrom, List.append_assoc, List.singleton_append, Prod.mk.injEq, and_true]
    omega
theorem markIntS_ev (l : List Int) (k0 : Int) (h : l.length ≤ 4294967296) (h0 : 0 ≤ k0) (h1 : k0 + l.length ≤ 1152921504606846976) : EV (fun k => laws_markIntS.f k l k0) (k0 + l.length, upFrom k0 l.length) := by
  unfold laws_markIntS.f
  exact mark_l0 l [] k0 (by simpa using h) h0 h1
theorem held_l0 : ∀ (n : Nat) (pre : List Int) (k0 : Int), pre.length + n ≤ 4294967296 → 0 ≤ k0 → k0 + n ≤ 1152921504606846976 →
    EV (fun k => laws_heldIntS.l0 k (pre ++ upFrom k0 n) k0 (pre.length : Int)) (k0 + n) := by
  intro n
  induction n with
  | zero =>
    intro pre k0 _ _ _
    refine EV.succ ?_
    simp only [upFrom, laws_heldIntS.l0, List.append_nil, if_neg (show ¬ (pre.length : Int) < (pre.length : Int) by omega)]
    exact (EV.pure _).cast (by simp)
  | succ n ih =>
    intro pre k0 h h0 h1
    have hl : (((pre ++ k0 :: upFrom (k0 + 1) n).length : Nat) : Int) = pre.length + (upFrom (k0 + 1) n).length + 1 := len_mid _ _ _
    rw [upFrom_len] at hl
    have hx : rd (pre ++ k0 :: upFrom (k0 + 1) n) (pre.length : Int) = k0 := rd_mid _ _ _ _ rfl
    have hst : wrap64 ((pre.length : Int) + 1) = ((pre ++ [k0]).length : Int) := by rw [len_snoc]; exact w64 (by omega) (by omega)
    have hk : wrap64 (k0 + 1) = k0 + 1 := w64 (by omega) (by omega)
    have hpl : (pre ++ [k0]).length = pre.length + 1 := by simp
    refine EV.succ ?_
    simp only [upFrom, laws_heldIntS.l0, hx, if_pos (show (pre.length : Int) < ((pre ++ k0 :: upFrom (k0 + 1) n).length : Int) by omega), if_pos (show (0 : Int) ≤ (pre.length : Int) by omega), hst, hk, if_true]
    rw [app_mid pre (upFrom (k0 + 1) n) k0]
    refine (ih (pre ++ [k0]) (k0 + 1) (by omega) (by omega) (by omega)).cast ?_
    omega
theorem heldIntS_ev (n : Nat) (k0 : Int) (h : n ≤ 4294967296) (h0 : 0 ≤ k0) (h1 : k0 + n ≤ 1152921504606846976) : EV (fun k => laws_heldIntS.f k (upFrom k0 n) k0) (k0 + n) := by
  unfold laws_heldIntS.f
  exact held_l0 n [] k0 (by simpa using h) h0 h1
/-- How many numbers all rows have. -/
def tot : List (List Int) → Nat
  | [] => 0
  | x :: L => x.length + tot L
theorem tot_le : ∀ (L : List (List Int)), (∀ x ∈ L, x.length ≤ 1048576) → tot L ≤ 1048576 * L.length
  | [], _ => Nat.le_refl _
  | x :: L, h => by
    have := tot_le L (fun y hy => h y (List.mem_cons_of_mem _ hy))
    have := h x List.mem_cons_self
    show x.length + tot L ≤ 1048576 * (L.length + 1)
    omega
/-- The rows, numbered on from k. -/
def upRows : Int → List (List Int) → List (List Int)
  | _, [] => []
  | k, x :: L => upFrom k x.length :: upRows (k + x.length) L
theorem upRows_len : ∀ (L : List (List Int)) (k : Int), (upRows k L).length = L.length
  | [], _ => rfl
  | x :: L, k => by
    show (upRows (k + x.length) L).length + 1 = L.length + 1
    rw [upRows_len L]
theorem getD_mid' (pre suf : List (List Int)) (x : List Int) : (pre ++ x :: suf).getD ((pre.length : Int)).toNat [] = x := by
  rw [Int.toNat_natCast]
  exact getD_mid _ _ _ _
theorem markSS_l0 : ∀ (suf pre : List (List Int)) (k0 : Int), pre.length + suf.length ≤ 4294967296 → (∀ x ∈ suf, x.length ≤ 4294967296) → 0 ≤ k0 → k0 + (tot suf : Int) ≤ 1152921504606846976 →
    EV (fun k => markSS.l0 k (pre ++ suf) k0 (pre.length : Int)) (k0 + (tot suf : Int), pre ++ upRows k0 suf) := by
  intro suf
  induction suf with
  | nil =>
    intro pre k0 _ _ _ _
    refine EV.succ ?_
    simp only [markSS.l0, List.append_nil, if_neg (show ¬ (pre.length : Int) < (pre.length : Int) by omega)]
    exact (EV.pure _).cast (by simp [upRows, tot])
  | cons x suf ih =>
    intro pre k0 h hx h0 h1
    have ht : tot (x :: suf) = x.length + tot suf := rfl
    simp only [List.length_cons] at h
    rw [ht] at h1
    have hxl := hx x List.mem_cons_self
    have hl : (((pre ++ x :: suf).length : Nat) : Int) = pre.length + suf.length + 1 := len_mid _ _ _
    have hst : ∀ y : List Int, wrap64 ((pre.length : Int) + 1) = ((pre ++ [y]).length : Int) := fun y => by rw [len_snoc]; exact w64 (by omega) (by omega)
    have hpl : ∀ y : List Int, (pre ++ [y]).length = pre.length + 1 := fun y => by simp
    refine EV.succ ?_
    simp only [markSS.l0, if_pos (show (pre.length : Int) < ((pre ++ x :: suf).length : Int) by omega), if_pos (show (0 : Int) ≤ (pre.length : Int) by omega), getD_mid']
    refine EV.bind (markIntS_ev x k0 hxl h0 (by omega)) ?_
    simp only [Int.toNat_natCast, set_mid pre suf x (upFrom k0 x.length) _ rfl]
    rw [app_mid pre suf (upFrom k0 x.length), hst (upFrom k0 x.length)]
    refine (ih (pre ++ [upFrom k0 x.length]) (k0 + x.length) (by have := hpl (upFrom k0 x.length); omega) (fun y hy => hx y (List.mem_cons_of_mem _ hy)) (by omega) (by omega)).cast ?_
    simp only [ht, upRows, List.append_assoc, List.singleton_append, Prod.mk.injEq, and_true]
    omega
theorem markRough_ev (L : List (List Int)) (k0 : Int) (h : L.length ≤ 4294967296) (hx : ∀ x ∈ L, x.length ≤ 4294967296) (h0 : 0 ≤ k0) (h1 : k0 + (tot L : Int) ≤ 1152921504606846976) : EV (fun k => laws_markRough.f k L k0) (k0 + (tot L : Int), upRows k0 L) := by
  show EV (fun k => markSS.l0 k L k0 0) _
  exact markSS_l0 L [] k0 (by simpa using h) hx h0 h1
theorem heldSS_l0 : ∀ (suf pre : List (List Int)) (k0 : Int), pre.length + suf.length ≤ 4294967296 → (∀ x ∈ suf, x.length ≤ 4294967296) → 0 ≤ k0 → k0 + (tot suf : Int) ≤ 1152921504606846976 →
    EV (fun k => laws_heldIntSS.l0 k (pre ++ upRows k0 suf) k0 (pre.length : Int)) (k0 + (tot suf : Int)) := by
  intro suf
  induction suf with
  | nil =>
    intro pre k0 _ _ _ _
    refine EV.succ ?_
    simp only [upRows, laws_heldIntSS.l0, List.append_nil, if_neg (show ¬ (pre.length : Int) < (pre.length : Int) by omega)]
    exact (EV.pure _).cast (by simp [tot])
  | cons x suf ih =>
    intro pre k0 h hx h0 h1
    have ht : tot (x :: suf) = x.length + tot suf := rfl
    simp only [List.length_cons] at h
    rw [ht] at h1
    have hxl := hx x List.mem_cons_self
    have hl : (((pre ++ upFrom k0 x.length :: upRows (k0 + x.length) suf).length : Nat) : Int) = pre.length + (upRows (k0 + x.length) suf).length + 1 := len_mid _ _ _
    have hr : rd_L2 (pre ++ upFrom k0 x.length :: upRows (k0 + x.length) suf) (pre.length : Int) = upFrom k0 x.length := by
      unfold rd_L2
      exact getD_mid' _ _ _
    have hst : ∀ y : List Int, wrap64 ((pre.length : Int) + 1) = ((pre ++ [y]).length : Int) := fun y => by rw [len_snoc]; exact w64 (by omega) (by omega)
    have hpl : ∀ y : List Int, (pre ++ [y]).length = pre.length + 1 := fun y => by simp
    refine EV.succ ?_
    simp only [upRows, laws_heldIntSS.l0, hr, if_pos (show (pre.length : Int) < ((pre ++ upFrom k0 x.length :: upRows (k0 + x.length) suf).length : Int) by omega), if_pos (show (0 : Int) ≤ (pre.length : Int) by omega)]
    refine EV.bind (heldIntS_ev x.length k0 hxl h0 (by omega)) ?_
    simp only [if_neg (show ¬ k0 + (x.length : Int) < 0 by omega)]
    rw [app_mid pre (upRows (k0 + x.length) suf) (upFrom k0 x.length), hst (upFrom k0 x.length)]
    refine (ih (pre ++ [upFrom k0 x.length]) (k0 + x.length) (by have := hpl (upFrom k0 x.length); omega) (fun y hy => hx y (List.mem_cons_of_mem _ hy)) (by omega) (by omega)).cast ?_
    rw [ht]
    omega
theorem heldRough_ev (L : List (List Int)) (k0 : Int) (h : L.length ≤ 4294967296) (hx : ∀ x ∈ L, x.length ≤ 4294967296) (h0 : 0 ≤ k0) (h1 : k0 + (tot L : Int) ≤ 1152921504606846976) : EV (fun k => laws_heldRough.f k (upRows k0 L) k0) (k0 + (tot L : Int)) := by
  unfold laws_heldRough.f laws_heldIntSS.f
  refine EV.bind (heldSS_l0 L [] k0 (by simpa using h) hx h0 h1) ?_
  simp only [if_neg (show ¬ k0 + (tot L : Int) < 0 by omega)]
  exact EV.pure _

end Go.Proofs.Ytojhkhpgahhacaa.Ev

/- FnExactRoughJoin: the program's RoughJoin tells what the reference's tells, of all two rough counts; what it told is its own. -/
namespace Go.Proofs.Ytojhkhpgahhacaa.Pure
open Go.RowKit Go.Proofs.Ytojhkhpgahhacaa.PA Go.Proofs.YtojhkhpgahhacaaW.PrintWords Go.Proofs.YtojhkhpgahhacaaW.PrintLast Go.Proofs.Ytojhkhpgahhacaa.Ev

theorem small_or {L : List (List Int)} (h : roughB L = true ∨ L = []) : L.length ≤ 3 ∧ ∀ x ∈ L, x.length ≤ 1048576 := by
  rcases h with h | rfl
  · obtain ⟨a, b, c, rfl, ra, rb, rc, _⟩ := roughB_open h
    have ha := (rowB_iff.1 ra).1
    have hb := (rowB_iff.1 rb).1
    have hc := (rowB_iff.1 rc).1
    refine ⟨by simp, fun x hx => ?_⟩
    rcases List.mem_cons.1 hx with rfl | hx
    · omega
    rcases List.mem_cons.1 hx with rfl | hx
    · omega
    rcases List.mem_cons.1 hx with rfl | hx
    · omega
    cases hx
  · exact ⟨by simp, fun x hx => by cases hx⟩
theorem FnExactRoughJoin (l m : List (List Int)) (hl : l.length ≤ 9223372036854775807) (hi : ∀ x ∈ l, x.length ≤ 9223372036854775807) (hm : m.length ≤ 9223372036854775807) (hj : ∀ x ∈ m, x.length ≤ 9223372036854775807) : ∃ k, laws_FnExactRoughJoin.f k l m = some true := by
  refine EV.get (Tot.true ?_)
  unfold laws_FnExactRoughJoin.f
  refine Tot.bind (szRough_tot l 1048576 (by omega) (by omega) hl hi) ?_
  rintro s ⟨s1, hs⟩
  by_cases c : s < 0
  · simp only [if_pos c]
    exact Tot.pure _ rfl
  simp only [if_neg c]
  obtain ⟨h1, h2⟩ := hs.resolve_left c
  refine Tot.bind (szRough_tot m s (by omega) s1 hm hj) ?_
  rintro s' ⟨_, hs'⟩
  by_cases c' : s' < 0
  · simp only [if_pos c']
    exact Tot.pure _ rfl
  simp only [if_neg c']
  obtain ⟨h3, h4⟩ := hs'.resolve_left c'
  have t := toRough_ev l h1 h2
  have t' := toRough_ev m h3 h4
  have q := eqRough_ev l (by omega) (fun x hx => by have := h2 x hx; omega)
  have q' := eqRough_ev m (by omega) (fun x hx => by have := h4 x hx; omega)
  have mt := tot_le l h2
  have mt' := tot_le m h4
  have mk := markRough_ev l 1 (by omega) (fun x hx => by have := h2 x hx; omega) (by omega) (by omega)
  have mk' := markRough_ev m (1 + (tot l : Int)) (by omega) (fun x hx => by have := h4 x hx; omega) (by omega) (by omega)
  obtain ⟨w1, w2⟩ := small_or (joinR_or l m)
  have sp := spec_RoughJoin_ev l m
  have im := impl_RoughJoin_ev l m
  generalize joinR l m = R at w1 w2 sp im
  obtain ⟨w, told⟩ := R
  simp only at w1 w2
  have wt := tot_le w w2
  have ew := eqRough_ev w (by omega) (fun x hx => by have := w2 x hx; omega)
  have hd := heldRough_ev w 1 (by omega) (fun x hx => by have := w2 x hx; omega) (by omega) (by omega)
  refine Tot.of ?_ rfl
  refine EV.bind t (EV.bind t' (EV.bind sp (EV.bind t (EV.bind t' (EV.bind im (EV.bind ew (r := true) ?_))))))
  simp only [if_true, bne_self_eq_false]
  refine EV.succ ?_
  simp only [laws_FnExactRoughJoin.j0, Bool.false_eq_true, if_false]
  refine EV.bind t (EV.bind q ?_)
  simp only [if_true]
  refine EV.bind t' (EV.bind q' ?_)
  simp only [if_true]
  refine EV.bind mk (EV.bind mk' ?_)
  simp only [if_neg (show ¬ 1 + (tot l : Int) + (tot m : Int) < 0 by omega)]
  refine EV.bind ew ?_
  simp only [if_true, bne_self_eq_false]
  refine EV.succ ?_
  simp only [laws_FnExactRoughJoin.j1, Bool.false_eq_true, if_false]
  refine EV.bind (markRough_ev w 1 (by omega) (fun x hx => by have := w2 x hx; omega) (by omega) (by omega)) (EV.bind hd ?_)
  simp only [if_neg (show ¬ 1 + (tot w : Int) < 0 by omega), if_true]
  refine EV.bind t (EV.bind t' (EV.bind im (EV.bind ew ?_)))
  simp only [if_true, bne_self_eq_false]
  refine EV.succ ?_
  simp only [laws_FnExactRoughJoin.j2, Bool.false_eq_true, if_false]
  refine EV.bind hd ?_
  simp only [if_neg (show ¬ 1 + (tot w : Int) < 0 by omega), if_true]
  exact EV.pure _

end Go.Proofs.Ytojhkhpgahhacaa.Pure
