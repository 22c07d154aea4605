/- Words for plain proofs about functions with a number of rounds: 'EV g r' says that with enough rounds g tells r, 'Tot g P' that with enough rounds g tells something of which P holds. No condition. -/
import Derived.Test.YtlobnnakikgcnaaPAx0
import Derived.Test.YtlobnnakikgcnaaPAx2
import Derived.Test.YtlobnnakikgcnaaPAx11
import Derived.Test.YtlobnnakikgcnaaPAx4
import Derived.Test.YtlobnnakikgcnaaWWords
import Derived.ProofKit
import Derived.OpenShut
import Derived.Deep.Slices
import Derived.Lib.SmallJoins
import Derived.Test.YtlobnnakikgcnaaPAx16
import Derived.Test.YtlobnnakikgcnaaPAx5
import Derived.Test.YtlobnnakikgcnaaPsz
import Derived.Test.YtlobnnakikgcnaaPto
import Derived.Test.YtlobnnakikgcnaaPeq
import Derived.Test.YtlobnnakikgcnaaPAx9
import Derived.Test.YtlobnnakikgcnaaPAx8
import Derived.Test.YtlobnnakikgcnaaPAx10
import Derived.Test.YtlobnnakikgcnaaPAx46
import Derived.Test.YtlobnnakikgcnaaPAx17
import Derived.Test.YtlobnnakikgcnaaHTop
import Derived.Test.YtlobnnakikgcnaaPAx42
import Derived.Test.YtlobnnakikgcnaaPAx39
import Derived.Test.YtlobnnakikgcnaaPAx43
import Derived.Test.YtlobnnakikgcnaaPAx44
import Derived.Test.YtlobnnakikgcnaaPAx49
import Derived.Test.YtlobnnakikgcnaaPAx48
import Derived.Test.YtlobnnakikgcnaaPmark
import Derived.Test.YtlobnnakikgcnaaPheld
import Derived.Test.YtlobnnakikgcnaaPAx65
namespace Go.Proofs.Ytlobnnakikgcnaa.Ev
open Go.RowKit Go.Proofs.YtlobnnakikgcnaaW.PrintWords Go.Proofs.YtlobnnakikgcnaaW.PrintLast

def EV {α : Type} (g : Nat → Option α) (r : α) : Prop := ∃ n, ∀ k, n ≤ k → g k = some r
def Tot {α : Type} (g : Nat → Option α) (P : α → Prop) : Prop := ∃ r, EV g r ∧ P r

theorem EV.pure {α : Type} (r : α) : EV (fun _ => some r) r := ⟨0, fun _ _ => rfl⟩
theorem EV.succ {α : Type} {g : Nat → Option α} {r : α} (h : EV (fun k => g (k + 1)) r) : EV g r := by
  obtain ⟨n, h⟩ := h
  refine ⟨n + 1, fun k hk => ?_⟩
  obtain ⟨m, rfl⟩ : ∃ m, k = m + 1 := ⟨k - 1, by omega⟩
  exact h m (by omega)
theorem EV.bind {α β : Type} {g : Nat → Option α} {h : α → Nat → Option β} {a : α} {r : β} (hg : EV g a) (hh : EV (h a) r) :
    EV (fun k => (g k).bind fun x => h x k) r := by
  obtain ⟨n, hg⟩ := hg
  obtain ⟨m, hh⟩ := hh
  refine ⟨n + m, fun k hk => ?_⟩
  show (g k).bind (fun x => h x k) = some r
  rw [hg k (by omega)]
  exact hh k (by omega)
theorem EV.get {α : Type} {g : Nat → Option α} {r : α} (h : EV g r) : ∃ k, g k = some r := by
  obtain ⟨n, h⟩ := h
  exact ⟨n, h n (Nat.le_refl _)⟩
theorem EV.cast {α : Type} {g : Nat → Option α} {r s : α} (h : EV g r) (e : r = s) : EV g s := e ▸ h
theorem EV.of_mono {α : Type} {g : Nat → Option α} {r : α} (hm : ∀ k, LeO (g k) (g (k + 1))) (n : Nat) (h : g n = some r) : EV g r := by
  refine ⟨n, fun k hk => ?_⟩
  obtain ⟨d, rfl⟩ : ∃ d, k = n + d := ⟨k - n, by omega⟩
  clear hk
  induction d with
  | zero => exact h
  | succ d ih => exact hm (n + d) r ih
theorem EV.uniq {α : Type} {g : Nat → Option α} {r s : α} (h : EV g r) (h' : EV g s) : r = s := by
  obtain ⟨n, h⟩ := h
  obtain ⟨m, h'⟩ := h'
  have a := h (n + m) (by omega)
  have b := h' (n + m) (by omega)
  rw [a] at b
  exact Option.some.inj b
theorem Tot.pure {α : Type} {P : α → Prop} (r : α) (h : P r) : Tot (fun _ => some r) P := ⟨r, EV.pure r, h⟩
theorem Tot.of {α : Type} {g : Nat → Option α} {P : α → Prop} {r : α} (h : EV g r) (p : P r) : Tot g P := ⟨r, h, p⟩
theorem Tot.succ {α : Type} {g : Nat → Option α} {P : α → Prop} (h : Tot (fun k => g (k + 1)) P) : Tot g P := by
  obtain ⟨r, h, p⟩ := h
  exact ⟨r, EV.succ h, p⟩
theorem Tot.bind {α β : Type} {g : Nat → Option α} {h : α → Nat → Option β} {P : α → Prop} {Q : β → Prop} (hg : Tot g P) (hh : ∀ a, P a → Tot (h a) Q) :
    Tot (fun k => (g k).bind fun x => h x k) Q := by
  obtain ⟨a, hg, p⟩ := hg
  obtain ⟨r, hr, q⟩ := hh a p
  exact ⟨r, EV.bind hg hr, q⟩
theorem Tot.mono {α : Type} {g : Nat → Option α} {P Q : α → Prop} (h : Tot g P) (i : ∀ a, P a → Q a) : Tot g Q := by
  obtain ⟨r, h, p⟩ := h
  exact ⟨r, h, i r p⟩
/-- A law's last step: what is told is true. -/
theorem Tot.true {g : Nat → Option Bool} (h : Tot g (fun b => b = Bool.true)) : EV g Bool.true := by
  obtain ⟨r, h, rfl⟩ := h
  exact h

theorem w64 {x : Int} (h0 : -9223372036854775808 ≤ x) (h1 : x ≤ 9223372036854775807) : wrap64 x = x := by
  unfold wrap64
  omega
theorem wr1 : wrap64 (0 + 1) = 1 := by rw [w64 (by omega) (by omega)]; rfl
theorem wr2 : wrap64 (1 + 1) = 2 := by rw [w64 (by omega) (by omega)]; rfl
theorem wr3 : wrap64 (2 + 1) = 3 := by rw [w64 (by omega) (by omega)]; rfl
theorem tdiv8 {x : Int} (h : 0 ≤ x) : Int.tdiv x 8 = x / 8 := Int.tdiv_eq_ediv_of_nonneg h
theorem tdiv2 {x : Int} (h : 0 ≤ x) : Int.tdiv x 2 = x / 2 := Int.tdiv_eq_ediv_of_nonneg h
theorem rd_mid (pre suf : List Int) (x : Int) (i : Int) (h : i = (pre.length : Int)) : rd (pre ++ x :: suf) i = x := by
  subst h
  unfold rd
  rw [Int.toNat_natCast]
  simp [List.getD_eq_getElem?_getD]
theorem getD_mid {α : Type} (pre suf : List α) (x z : α) : (pre ++ x :: suf).getD pre.length z = x := by
  simp [List.getD_eq_getElem?_getD]
theorem len_mid {α : Type} (pre suf : List α) (x : α) : (((pre ++ x :: suf).length : Nat) : Int) = (pre.length : Int) + suf.length + 1 := by
  simp
  omega
theorem app_mid {α : Type} (pre suf : List α) (x : α) : pre ++ x :: suf = (pre ++ [x]) ++ suf := by simp
theorem len_snoc {α : Type} (pre : List α) (x : α) : (((pre ++ [x]).length : Nat) : Int) = (pre.length : Int) + 1 := by simp

theorem set_mid {α : Type} (pre suf : List α) (x y : α) (n : Nat) (h : n = pre.length) : (pre ++ x :: suf).set n y = pre ++ y :: suf := by
  subst h
  simp

end Go.Proofs.Ytlobnnakikgcnaa.Ev

/- The reader of a code: l6Open and pick tell something for every code; pick tells a number from 0 to n - 1. No condition. -/
namespace Go.Proofs.Ytlobnnakikgcnaa.Ev
open Go.RowKit Go.Proofs.YtlobnnakikgcnaaW.PrintWords Go.Proofs.YtlobnnakikgcnaaW.PrintLast Go.Proofs.Ytlobnnakikgcnaa.PA

/-- A code's bytes, cut to 2000. -/
def Code (l : List Int) : Prop := l.length ≤ 2000 ∧ ∀ x ∈ l, 0 ≤ x ∧ x ≤ 255

theorem u8_range {l : List Int} (h : ∀ x ∈ l, (Lit.int .u8 x).wf = true) : ∀ x ∈ l, 0 ≤ x ∧ x ≤ 255 := by
  intro x hx
  have := h x hx
  simp [Lit.wf, IntKind.min, IntKind.max, IntKind.bits, IntKind.signed] at this
  exact this
theorem open_ev (l : List Int) (h : ∀ x ∈ l, (Lit.int .u8 x).wf = true) : ∃ b, Code b ∧ spec_l6Open.f l = some (b, 0) := by
  have h' := u8_range h
  unfold spec_l6Open.f
  by_cases hl : (l.length : Int) > 2000
  · rw [if_pos hl, if_pos (by omega)]
    exact ⟨l.take 2000, ⟨by simp; omega, fun x hx => h' x (List.mem_of_mem_take hx)⟩, rfl⟩
  · rw [if_neg hl]
    exact ⟨l, ⟨by omega, h'⟩, rfl⟩
theorem rd_byte {l : List Int} (h : Code l) (i : Int) : 0 ≤ rd l i ∧ rd l i ≤ 255 := by
  unfold rd
  rw [List.getD_eq_getElem?_getD]
  cases e : l[i.toNat]? with
  | none => simp
  | some x => simpa using h.2 x (List.mem_of_getElem? e)
theorem xor_nonneg (x y : Int) (h0 : 0 ≤ x) (h1 : x < 1099511627776) (h2 : 0 ≤ y) (h3 : y < 1099511627776) : 0 ≤ bits .xor .i64 x y ∧ bits .xor .i64 x y < 1099511627776 := by
  obtain ⟨a, rfl⟩ := Int.eq_ofNat_of_zero_le h0
  obtain ⟨b, rfl⟩ := Int.eq_ofNat_of_zero_le h2
  have ha : a % 2 ^ 64 = a := Nat.mod_eq_of_lt (by omega)
  have hb : b % 2 ^ 64 = b := Nat.mod_eq_of_lt (by omega)
  have hx : a ^^^ b < 2 ^ 40 := Nat.xor_lt_two_pow (by omega) (by omega)
  have e : bits .xor .i64 (a : Int) (b : Int) = ((a ^^^ b : Nat) : Int) := by
    show IntKind.i64.wrap ((((BitVec.ofInt 64 (a : Int)) ^^^ (BitVec.ofInt 64 (b : Int))).toNat : Nat) : Int) = _
    rw [i64_w, BitVec.ofInt_natCast, BitVec.ofInt_natCast, BitVec.toNat_xor, BitVec.toNat_ofNat, BitVec.toNat_ofNat, ha, hb]
    exact w64 (by omega) (by omega)
  rw [e]
  omega
theorem tmod_range (x n : Int) (h0 : 0 ≤ x) (hn : 0 < n) : 0 ≤ Int.tmod x n ∧ Int.tmod x n < n :=
  ⟨Int.tmod_nonneg _ h0, Int.tmod_lt_of_pos _ hn⟩

/-- pick: a number from 0 to n - 1; the place is one further. -/
theorem pick_ev (b : List Int) (p n : Int) (hb : Code b) (hp : 0 ≤ p) (hp1 : p ≤ 1000000000) (hn : 1 ≤ n) :
    ∃ r, EV (fun k => spec_l6Rd_pick.f k b p n) (r, p + 1) ∧ 0 ≤ r ∧ r < n := by
  have hl := hb.1
  have e1 : wrap64 (p + 1) = p + 1 := w64 (by omega) (by omega)
  have e2 : wrap64 (p + 1 - 1) = p := by rw [w64 (by omega) (by omega)]; omega
  simp only [spec_l6Rd_pick.f, e1, if_neg (show ¬ n < 1 by omega)]
  by_cases hz : b = []
  · subst hz
    refine ⟨0, EV.succ ?_, by omega, by omega⟩
    simp only [spec_l6Rd_pick.j0]
    exact EV.pure _
  · have hlen : 0 < b.length := List.length_pos_iff.2 hz
    have hf : ((b.length : Int) == 0) = false := by simp; exact hz
    by_cases hlt : p < (b.length : Int)
    · refine ⟨Int.tmod (wrap64 (rd b p)) n, EV.succ ?_, ?_⟩
      · simp only [spec_l6Rd_pick.j0, hf, e2, if_pos hlt, if_pos hp, if_neg (show ¬ n = 0 by omega), Bool.false_eq_true, if_false]
        exact EV.pure _
      · have hr := rd_byte hb p
        rw [w64 (by omega) (by omega)]
        exact tmod_range _ _ hr.1 (by omega)
    · have q0 := tmod_range p (b.length : Int) hp (by omega)
      have e3 : wrap64 (p * 7) = p * 7 := w64 (by omega) (by omega)
      have e4 : wrap64 (p * 7 + 3) = p * 7 + 3 := w64 (by omega) (by omega)
      have q1 := tmod_range (p * 7 + 3) (b.length : Int) (by omega) (by omega)
      have r0 := rd_byte hb (Int.tmod p (b.length : Int))
      have r1 := rd_byte hb (Int.tmod (p * 7 + 3) (b.length : Int))
      have d0 : Int.tdiv p (b.length : Int) = p / (b.length : Int) := Int.tdiv_eq_ediv_of_nonneg hp
      have d1 : 0 ≤ p / (b.length : Int) := Int.ediv_nonneg hp (by omega)
      have d2 : p / (b.length : Int) ≤ p := Int.ediv_le_self _ hp
      generalize hA : rd b (Int.tmod p (b.length : Int)) = A at *
      generalize hB : rd b (Int.tmod (p * 7 + 3) (b.length : Int)) = B at *
      generalize hD : p / (b.length : Int) = D at *
      have w1 : wrap64 A = A := w64 (by omega) (by omega)
      have w2 : wrap64 B = B := w64 (by omega) (by omega)
      have w3 : wrap64 (A * 131) = A * 131 := w64 (by omega) (by omega)
      have w4 : wrap64 (B * 1117) = B * 1117 := w64 (by omega) (by omega)
      have w5 : wrap64 (A * 131 + B * 1117) = A * 131 + B * 1117 := w64 (by omega) (by omega)
      have w6 : wrap64 (p * 29) = p * 29 := w64 (by omega) (by omega)
      have w7 : wrap64 (A * 131 + B * 1117 + p * 29) = A * 131 + B * 1117 + p * 29 := w64 (by omega) (by omega)
      have w8 : wrap64 D = D := w64 (by omega) (by omega)
      have w9 : wrap64 (D * 53) = D * 53 := w64 (by omega) (by omega)
      have wa : wrap64 (A * 131 + B * 1117 + p * 29 + D * 53) = A * 131 + B * 1117 + p * 29 + D * 53 := w64 (by omega) (by omega)
      generalize hX : A * 131 + B * 1117 + p * 29 + D * 53 = X at *
      have X0 : 0 ≤ X := by omega
      have X1 : X < 1099511627776 := by omega
      have t64 : Int.tdiv X 64 = X / 64 := Int.tdiv_eq_ediv_of_nonneg X0
      have wb : wrap64 (X / 64) = X / 64 := w64 (by omega) (by omega)
      have xr := xor_nonneg X (X / 64) X0 X1 (by omega) (by omega)
      refine ⟨Int.tmod (bits .xor .i64 X (X / 64)) n, EV.succ ?_, tmod_range _ _ xr.1 (by omega)⟩
      simp only [spec_l6Rd_pick.j0, hf, e2, e3, e4, if_neg hlt, if_neg (show ¬ (b.length : Int) = 0 by omega), if_pos q0.1, if_pos q0.2, if_pos q1.1, if_pos q1.2,
        if_neg (show ¬ n = 0 by omega), Bool.false_eq_true, if_false, hA, hB, d0, w1, w2, w3, w4, w5, w6, w7, w8, w9, wa, hX, t64, wb]
      exact EV.pure _
/-- The same, as a step of a walk through a draw. -/
theorem pick_tot {b : List Int} {p : Int} (n : Int) (hb : Code b) (hp : 0 ≤ p) (hp1 : p ≤ 1000000000) (hn : 1 ≤ n) :
    Tot (fun k => spec_l6Rd_pick.f k b p n) (fun r => 0 ≤ r.1 ∧ r.1 < n ∧ r.2 = p + 1) := by
  obtain ⟨r, h, a, c⟩ := pick_ev b p n hb hp hp1 hn
  exact ⟨_, h, a, c, rfl⟩
theorem in_eq (a b c : Int) : spec_l6In.f a b c = some (decide (b ≤ a ∧ a ≤ c)) := by
  unfold spec_l6In.f
  by_cases h : a ≥ b
  · rw [if_pos h]
    simp [show b ≤ a from h]
  · rw [if_neg h]
    simp [show ¬ b ≤ a by omega]

end Go.Proofs.Ytlobnnakikgcnaa.Ev

/- How data that came in read by the print's kinds: whole numbers, slices, structs by value. No condition. -/
namespace Go.Proofs.Ytlobnnakikgcnaa.In
open Go.RowKit Go.ChangeShapes Go.WideShapes Go.Deep Go.Joins Go.Proofs.YtlobnnakikgcnaaW.PrintWords

/-- Whatever reads as data of type t is of kind d. -/
def Opens {α : Type} (d : Kd α) (P : Program) (t : TypeId) : Prop :=
  ∀ (H : Type) (enc : TypeId × Value → H) (w : World) (fuel : Nat) (cs : List Value) (x : DataW H × List MemPlace),
    DataW.trod enc P w 0 (fun _ => true) true fuel t cs = some x → ∃ v, d.K w v cs
theorem opens_int {P : Program} {t : TypeId} {k : IntKind} (hu : P.underlying t = some (.int k)) : Opens (Kd.int k) P t := by
  intro H enc w fuel cs x h
  obtain ⟨n, rfl, _⟩ := DataW.trod_int hu h
  exact ⟨n, rfl⟩
theorem opens_two {α : Type} {d : Kd α} {P : Program} {t : TypeId} {f0 f1 : Field} (hs : P.underlying t = some (.struct #[f0, f1])) (hc : P.cellsOf t = 2) (hone : oneCellFields P #[f0, f1] = true)
    (h0 : P.underlying f0.type = some (.int .i64)) (h1 : P.underlying f1.type = some (.int .i64)) (mk : ∀ a b : Int, ∃ v, ∀ w, d.K w v [.int .i64 a, .int .i64 b]) : Opens d P t := by
  intro H enc w fuel cs x h
  obtain ⟨y0, y1, n, _, hl, g0, g1⟩ := trod_struct2 hs h
  rw [hc] at hl
  obtain ⟨o0, k0⟩ := hone_of hone 0 f0 rfl
  obtain ⟨o1, k1⟩ := hone_of hone 1 f1 rfl
  rw [o0, k0] at g0
  rw [o1, k1] at g1
  match cs, hl with
  | [c0, c1], _ =>
    obtain ⟨a, e0, _⟩ := DataW.trod_int h0 g0
    obtain ⟨b, e1, _⟩ := DataW.trod_int h1 g1
    simp at e0 e1
    subst e0
    subst e1
    obtain ⟨v, hv⟩ := mk a b
    exact ⟨v, hv w⟩
theorem opens_slice {α : Type} {d : Kd α} {P : Program} {t e : TypeId} (ht : P.underlying t = some (.slice e)) (hsz : P.cellsOf e = d.sz) (hd : Opens d P e) : Opens (Kd.slice e d) P t := by
  intro H enc w fuel cs x h
  rcases open_slice ht h with ⟨rfl, _⟩ | ⟨a, len, cap, m, n, D, Pl, rfl, _, hl, hm, hmm, _, hx⟩
  · exact ⟨[], none, 0, rfl, Nat.le_refl _, Kd.C_nil _ _⟩
  · have hm' : m = cap := by simpa using hmm
    have key : ∀ j, j ≤ len → ∃ xs : List α, xs.length = j ∧ ∀ i p, xs[i]? = some p → ∃ c, c.length = d.sz ∧ d.K w p c ∧ ∀ q u, c[q]? = some u → w.cell? (a.add (i * d.sz + q)) = some u := by
      intro j
      induction j with
      | zero => exact fun _ => ⟨[], rfl, fun i p hp => by simp at hp⟩
      | succ j ih =>
        intro hj
        obtain ⟨xs, hxl, hxs⟩ := ih (by omega)
        obtain ⟨cs', h1, h2⟩ := hx j (by omega)
        obtain ⟨v, hv⟩ := hd H enc w n cs' _ h2
        obtain ⟨_, hcl, hcc⟩ := World.cells?_some h1
        refine ⟨xs ++ [v], by simp [hxl], fun i p hp => ?_⟩
        by_cases hi : i < xs.length
        · rw [List.getElem?_append_left hi] at hp
          exact hxs i p hp
        · rw [List.getElem?_append_right (by omega)] at hp
          have hij : i = j := by
            rcases Nat.lt_or_ge (i - xs.length) 1 with g | g
            · omega
            · rw [List.getElem?_eq_none (by simpa using g)] at hp
              cases hp
          subst hij
          rw [hxl] at hp
          simp at hp
          subst hp
          refine ⟨cs', by rw [hcl, hsz], hv, fun q u hu => ?_⟩
          have hq : q < cs'.length := (List.getElem?_eq_some_iff.1 hu).1
          have := hcc q (by omega)
          rw [Go.Deep.add_add, hsz] at this
          rw [this]
          exact hu
    obtain ⟨xs, hxl, hxs⟩ := key len (Nat.le_refl _)
    unfold maxLen at hm
    exact ⟨xs, some a, cap, by rw [hxl], by omega, rfl, by omega, fun _ => ⟨a, rfl, hxs⟩⟩
theorem inner_bd {α : Type} {d : Kd α} {e : Nat} {w : World} {A : Option Addr} {n : Nat} {l : List (List α)} (h : (Kd.slice e d).C w A n l) : ∀ x ∈ l, x.length ≤ 9223372036854775807 := by
  intro x hx
  obtain ⟨j, hj⟩ := List.getElem?_of_mem hx
  have hn : 0 < n := by rw [← h.1]; exact List.length_pos_of_mem hx
  obtain ⟨ad, _, hc⟩ := h.2.2 hn
  obtain ⟨c, _, ⟨A', c', _, _, hr⟩, _⟩ := hc j x hj
  exact hr.2.1
/-- A struct of one field, by value, opened. -/
theorem open_agg1 {H : Type} {enc : TypeId × Value → H} {P : Program} {w : World} {base : Nat} {spare : Nat → Bool} {held : Bool} {r : Reach} {b0 : Nat} {t : TypeId} {f0 : Field} {v : Value} {d : DataW H} {p : List MemPlace} (hs : P.underlying t = some (.struct #[f0])) (hone : oneCellFields P #[f0] = true) (hC : P.cellsOf t = 1)
    (hv : Value.okWide P w r b0 t v) (h : DataW.Trod enc P w base spare held t v d p) :
    ∃ (v0 : Value) (y0 : DataW H × List MemPlace) (n : Nat), v = .agg #[v0] ∧ d = .agg [y0.1] ∧ p = y0.2 ∧ DataW.trod enc P w base spare held n f0.type [v0] = some y0 := by
  obtain ⟨cs, rfl, hsz⟩ := okWide_struct hs hv
  obtain ⟨fuel, hf⟩ := h
  obtain ⟨y0, n, hx, _, h0⟩ := trod_struct1 hs hf
  obtain ⟨o0, k0⟩ := hone_of hone 0 f0 rfl
  simp only [Prod.mk.injEq] at hx
  rw [hC] at hsz
  obtain ⟨l⟩ := cs
  match l, hsz with
  | [c0], _ => exact ⟨c0, y0, n, rfl, hx.1, hx.2, by simpa [Value.cells, o0, k0] using h0⟩

end Go.Proofs.Ytlobnnakikgcnaa.In

/- What the program's and the reference's TopOk tell: plain functions over lists, the same for both. Conditions: lists shorter than 2^50. -/
namespace Go.Proofs.Ytlobnnakikgcnaa.Ev
open Go.RowKit Go.Proofs.YtlobnnakikgcnaaW.PrintWords Go.Proofs.YtlobnnakikgcnaaW.PrintLast Go.Proofs.Ytlobnnakikgcnaa.PA

theorem rdS_mid (pre suf : List S54) (x : S54) (i : Int) (h : i = (pre.length : Int)) : rd_T54 (pre ++ x :: suf) i = x := by
  subst h
  unfold rd_T54
  rw [Int.toNat_natCast]
  exact getD_mid _ _ _ _
def ordB : Int → List S54 → Bool
  | _, [] => true
  | b, x :: l => decide (b < x.f0 ∧ x.f0 ≤ 63 ∧ 1 ≤ x.f1 ∧ x.f1 ≤ 2000) && ordB x.f0 l
def sumN : List S54 → Int
  | [] => 0
  | x :: l => x.f1 + sumN l
theorem ord_cons {b : Int} {x : S54} {l : List S54} : ordB b (x :: l) = true ↔ (b < x.f0 ∧ x.f0 ≤ 63 ∧ 1 ≤ x.f1 ∧ x.f1 ≤ 2000) ∧ ordB x.f0 l = true := by
  show (decide _ && ordB x.f0 l) = true ↔ _
  simp
theorem sumN_bd : ∀ (l : List S54) (b : Int), ordB b l = true → 0 ≤ sumN l ∧ sumN l ≤ 2000 * (l.length : Int)
  | [], _, _ => by simp [sumN]
  | x :: l, b, h => by
    obtain ⟨h1, h2⟩ := ord_cons.1 h
    have := sumN_bd l x.f0 h2
    simp only [sumN, List.length_cons]
    omega
theorem sumN_app : ∀ (l m : List S54), sumN (l ++ m) = sumN l + sumN m
  | [], m => by simp [sumN]
  | x :: l, m => by
    simp only [List.cons_append, sumN, sumN_app l m]
    omega
theorem ord_pre : ∀ {pre suf : List S54} {b : Int}, ordB b (pre ++ suf) = true → ordB b pre = true
  | [], _, _, _ => rfl
  | x :: pre, suf, b, h => by
    obtain ⟨h1, h2⟩ := ord_cons.1 h
    exact ord_cons.2 ⟨h1, ord_pre h2⟩
def topB (l : List S54) (lost all : Int) : Bool := decide (l.length ≤ 4 ∧ 0 ≤ lost ∧ lost ≤ 2000 ∧ 0 ≤ all ∧ all ≤ 2000) && ordB (-1) l && decide (sumN l + 5 * lost ≤ all)
theorem topB_iff {l : List S54} {lost all : Int} : topB l lost all = true ↔ (l.length ≤ 4 ∧ 0 ≤ lost ∧ lost ≤ 2000 ∧ 0 ≤ all ∧ all ≤ 2000) ∧ ordB (-1) l = true ∧ sumN l + 5 * lost ≤ all := by
  unfold topB
  simp [and_assoc]
theorem topB_out {l : List S54} {lost all : Int} (h : ¬ (l.length ≤ 4 ∧ 0 ≤ lost ∧ lost ≤ 2000 ∧ 0 ≤ all ∧ all ≤ 2000)) : topB l lost all = false := by
  unfold topB
  rw [decide_eq_false h]
  rfl
theorem impl_TopOk_l0 (L : List S54) (lost all : Int) (h4 : L.length ≤ 4) : ∀ (suf pre : List S54) (b s : Int), pre ++ suf = L → 0 ≤ s → s ≤ 10000 + 2000 * pre.length →
    EV (fun k => impl_TopOk.l0 k s b L (L.length : Int) (pre.length : Int) L lost all) (ordB b suf && decide (s + sumN suf ≤ all)) := by
  intro suf
  induction suf with
  | nil =>
    intro pre b s e h0 h1
    obtain rfl : pre = L := by simpa using e
    refine EV.succ ?_
    simp only [impl_TopOk.l0, if_neg (show ¬ (pre.length : Int) < (pre.length : Int) by omega)]
    exact (EV.pure _).cast (by simp [ordB, sumN])
  | cons x suf ih =>
    intro pre b s e h0 h1
    have hl : (L.length : Int) = pre.length + suf.length + 1 := by rw [← e]; exact len_mid _ _ _
    have hx : rd_T54 L (pre.length : Int) = x := by rw [← e]; exact rdS_mid _ _ _ _ rfl
    refine EV.succ ?_
    simp only [impl_TopOk.l0, hx, if_pos (show (pre.length : Int) < (L.length : Int) by omega), if_pos (show (0 : Int) ≤ (pre.length : Int) by omega)]
    have no : ¬ (b < x.f0 ∧ x.f0 ≤ 63 ∧ 1 ≤ x.f1 ∧ x.f1 ≤ 2000) → false = (ordB b (x :: suf) && decide (s + sumN (x :: suf) ≤ all)) := by
      intro h
      unfold ordB
      rw [decide_eq_false h]
      rfl
    by_cases c1 : x.f0 ≤ b
    · simp only [if_pos c1]
      exact (EV.pure _).cast (no (by omega))
    simp only [if_neg c1]
    by_cases c2 : x.f0 ≥ 64
    · simp only [if_pos c2]
      exact (EV.pure _).cast (no (by omega))
    simp only [if_neg c2]
    by_cases c3 : x.f1 < 1
    · simp only [if_pos c3]
      exact (EV.pure _).cast (no (by omega))
    simp only [if_neg c3]
    by_cases c4 : x.f1 > 2000
    · simp only [if_pos c4]
      exact (EV.pure _).cast (no (by omega))
    simp only [if_neg c4]
    rw [w64 (x := s + x.f1) (by omega) (by omega), w64 (x := (pre.length : Int) + 1) (by omega) (by omega), ← len_snoc pre x]
    refine (ih (pre ++ [x]) x.f0 (s + x.f1) (by rw [← app_mid]; exact e) (by omega) (by rw [len_snoc]; omega)).cast ?_
    have yes : ordB b (x :: suf) = ordB x.f0 suf := by
      show (decide _ && ordB x.f0 suf) = _
      rw [decide_eq_true (show b < x.f0 ∧ x.f0 ≤ 63 ∧ 1 ≤ x.f1 ∧ x.f1 ≤ 2000 by omega)]
      rfl
    rw [yes, show sumN (x :: suf) = x.f1 + sumN suf from rfl, Int.add_assoc]
theorem impl_TopOk_ev (l : List S54) (lost all : Int) : EV (fun k => impl_TopOk.f k l lost all) (topB l lost all) := by
  unfold impl_TopOk.f
  have stop : ¬ (l.length ≤ 4 ∧ 0 ≤ lost ∧ lost ≤ 2000 ∧ 0 ≤ all ∧ all ≤ 2000) → EV (fun k => impl_TopOk.j0 k true l lost all) (topB l lost all) := by
    intro h
    refine EV.succ ?_
    simp only [impl_TopOk.j0, if_true]
    exact (EV.pure _).cast (topB_out h).symm
  by_cases c1 : (l.length : Int) > 4
  · simp only [if_pos c1]
    exact stop (by omega)
  simp only [if_neg c1]
  by_cases c2 : lost < 0
  · simp only [if_pos c2]
    exact stop (by omega)
  simp only [if_neg c2]
  by_cases c3 : lost > 2000
  · simp only [if_pos c3]
    exact stop (by omega)
  simp only [if_neg c3]
  by_cases c4 : all < 0
  · simp only [if_pos c4]
    exact stop (by omega)
  simp only [if_neg c4]
  by_cases c5 : all > 2000
  · simp only [decide_eq_true c5]
    exact stop (by omega)
  simp only [decide_eq_false c5]
  refine EV.succ ?_
  simp only [impl_TopOk.j0, Bool.false_eq_true, if_false]
  rw [w64 (x := lost * 5) (by omega) (by omega)]
  refine (impl_TopOk_l0 l lost all (by omega) l [] (-1) (lost * 5) rfl (by omega) (by simp; omega)).cast ?_
  unfold topB
  rw [decide_eq_true (show l.length ≤ 4 ∧ 0 ≤ lost ∧ lost ≤ 2000 ∧ 0 ≤ all ∧ all ≤ 2000 by omega), Bool.true_and, show lost * 5 + sumN l = sumN l + 5 * lost by omega]
theorem l3All_l0 (L : List S54) (hL : L.length ≤ 1000000) (h : ordB (-1) L = true) : ∀ (suf pre : List S54), pre ++ suf = L → EV (fun k => spec_l3All.l0 k L (sumN pre) (pre.length : Int)) (sumN L) := by
  intro suf
  induction suf with
  | nil =>
    intro pre e
    obtain rfl : pre = L := by simpa using e
    refine EV.succ ?_
    simp only [spec_l3All.l0, if_neg (show ¬ (pre.length : Int) < (pre.length : Int) by omega)]
    exact EV.pure _
  | cons x suf ih =>
    intro pre e
    have hl : (L.length : Int) = pre.length + suf.length + 1 := by rw [← e]; exact len_mid _ _ _
    have hx : rd_T54 L (pre.length : Int) = x := by rw [← e]; exact rdS_mid _ _ _ _ rfl
    have hb := sumN_bd (pre ++ [x]) (-1) (ord_pre (suf := suf) (by rw [← app_mid, e]; exact h))
    have hs : sumN (pre ++ [x]) = sumN pre + x.f1 := by rw [sumN_app]; simp [sumN]
    have hn : ((pre ++ [x]).length : Int) = pre.length + 1 := len_snoc _ _
    refine EV.succ ?_
    simp only [spec_l3All.l0, hx, if_pos (show (pre.length : Int) < (L.length : Int) by omega), if_pos (show (0 : Int) ≤ (pre.length : Int) by omega)]
    rw [w64 (x := sumN pre + x.f1) (by omega) (by omega), w64 (x := (pre.length : Int) + 1) (by omega) (by omega), ← len_snoc pre x, ← hs]
    exact ih (pre ++ [x]) (by rw [← app_mid]; exact e)
theorem l3All_ev (L : List S54) (hL : L.length ≤ 1000000) (h : ordB (-1) L = true) : EV (fun k => spec_l3All.f k L) (sumN L) := l3All_l0 L hL h L [] rfl
theorem spec_TopOk_l0 (L : List S54) (lost all : Int) (hL : L.length < 1125899906842624) : ∀ (suf pre : List S54) (b : Int), pre ++ suf = L → -1 ≤ b → (ordB b suf = true → ordB (-1) L = true) →
    ((pre = [] ∧ b = -1) ∨ ∃ p y, pre = p ++ [y] ∧ y.f0 = b ∧ 0 ≤ b) → EV (fun k => spec_TopOk.l0 k (pre.length : Int) L lost all) (ordB b suf && topB L lost all) := by
  intro suf
  induction suf with
  | nil =>
    intro pre b e hb ho hp
    obtain rfl : pre = L := by simpa using e
    have ho' := ho rfl
    refine EV.succ ?_
    simp only [spec_TopOk.l0, if_neg (show ¬ (pre.length : Int) < (pre.length : Int) by omega), in_eq, Option.bind_some]
    by_cases c : (pre.length : Int) ≤ 4
    · simp only [if_pos c]
      by_cases c2 : 0 ≤ all ∧ all ≤ 2000
      · simp only [decide_eq_true c2, if_true]
        by_cases c3 : 0 ≤ lost ∧ lost ≤ 2000
        · have hs := sumN_bd pre (-1) ho'
          simp only [decide_eq_true c3, if_true]
          refine EV.bind (l3All_ev pre (by omega) ho') ?_
          rw [w64 (x := 5 * lost) (by omega) (by omega), w64 (x := sumN pre + 5 * lost) (by omega) (by omega)]
          refine (EV.pure _).cast ?_
          unfold topB
          rw [decide_eq_true (show pre.length ≤ 4 ∧ 0 ≤ lost ∧ lost ≤ 2000 ∧ 0 ≤ all ∧ all ≤ 2000 by omega), ho']
          simp [ordB]
        · simp only [decide_eq_false c3, Bool.false_eq_true, if_false]
          exact (EV.pure _).cast (by rw [topB_out (by omega)]; simp)
      · simp only [decide_eq_false c2, Bool.false_eq_true, if_false]
        exact (EV.pure _).cast (by rw [topB_out (by omega)]; simp)
    · simp only [if_neg c]
      exact (EV.pure _).cast (by rw [topB_out (by omega)]; simp)
  | cons x suf ih =>
    intro pre b e hb ho hp
    have hl : (L.length : Int) = pre.length + suf.length + 1 := by rw [← e]; exact len_mid _ _ _
    have hx : rd_T54 L (pre.length : Int) = x := by rw [← e]; exact rdS_mid _ _ _ _ rfl
    have no : ¬ (b < x.f0 ∧ x.f0 ≤ 63 ∧ 1 ≤ x.f1 ∧ x.f1 ≤ 2000) → false = (ordB b (x :: suf) && topB L lost all) := by
      intro h
      unfold ordB
      rw [decide_eq_false h]
      rfl
    have go : b < x.f0 → 0 ≤ x.f0 → x.f0 ≤ 63 → 1 ≤ x.f1 → x.f1 ≤ 2000 → EV (fun k => spec_TopOk.l0 k (wrap64 ((pre.length : Int) + 1)) L lost all) (ordB b (x :: suf) && topB L lost all) := by
      intro d0 d1 d2 d3 d4
      have yes : ordB b (x :: suf) = ordB x.f0 suf := by
        show (decide _ && ordB x.f0 suf) = _
        rw [decide_eq_true (show b < x.f0 ∧ x.f0 ≤ 63 ∧ 1 ≤ x.f1 ∧ x.f1 ≤ 2000 by omega)]
        rfl
      rw [w64 (x := (pre.length : Int) + 1) (by omega) (by omega), ← len_snoc pre x, yes]
      exact ih (pre ++ [x]) x.f0 (by rw [← app_mid]; exact e) (by omega) (fun h => ho (by rw [yes]; exact h)) (.inr ⟨pre, x, rfl, rfl, d1⟩)
    refine EV.succ ?_
    simp only [spec_TopOk.l0, hx, if_pos (show (pre.length : Int) < (L.length : Int) by omega), if_pos (show (0 : Int) ≤ (pre.length : Int) by omega), in_eq, Option.bind_some]
    by_cases c1 : 0 ≤ x.f0 ∧ x.f0 ≤ 63
    · simp only [decide_eq_true c1, if_true]
      by_cases c2 : 1 ≤ x.f1 ∧ x.f1 ≤ 2000
      · simp only [decide_eq_true c2, if_true]
        rcases hp with ⟨rfl, rfl⟩ | ⟨p, y, rfl, rfl, hb0⟩
        · simp only [List.length_nil, Int.natCast_zero, if_neg (show ¬ (0 : Int) > 0 by omega)]
          simpa using go (by omega) c1.1 c1.2 c2.1 c2.2
        · have hp1 : ((p ++ [y]).length : Int) = p.length + 1 := len_snoc _ _
          have hw : wrap64 (((p ++ [y]).length : Int) - 1) = p.length := by rw [w64 (by omega) (by omega)]; omega
          have hy : rd_T54 L (p.length : Int) = y := by rw [← e, ← app_mid]; exact rdS_mid _ _ _ _ rfl
          simp only [if_pos (show ((p ++ [y]).length : Int) > 0 by omega), hw, if_pos (show (0 : Int) ≤ (p.length : Int) by omega), if_pos (show (p.length : Int) < (L.length : Int) by omega), hy]
          by_cases c3 : y.f0 ≥ x.f0
          · simp only [if_pos c3]
            exact (EV.pure false).cast (no (by omega))
          · simp only [if_neg c3]
            exact go (by omega) c1.1 c1.2 c2.1 c2.2
      · simp only [decide_eq_false c2, Bool.false_eq_true, if_false]
        exact (EV.pure false).cast (no (by omega))
    · simp only [decide_eq_false c1, Bool.false_eq_true, if_false]
      refine (EV.pure false).cast (no ?_)
      rcases hp with ⟨_, rfl⟩ | ⟨_, _, _, _, hb0⟩ <;> omega
theorem spec_TopOk_ev (l : List S54) (lost all : Int) (h : l.length < 1125899906842624) : EV (fun k => spec_TopOk.f k l lost all) (topB l lost all) := by
  unfold spec_TopOk.f
  refine (spec_TopOk_l0 l lost all h l [] (-1) rfl (by omega) id (.inl ⟨rfl, rfl⟩)).cast ?_
  cases ho : ordB (-1) l
  · unfold topB
    rw [ho]
    simp
  · rfl

end Go.Proofs.Ytlobnnakikgcnaa.Ev

/- The exact laws' own functions over tops (szTop, toTop, eqTop). Conditions: lists of at most 2^63 - 1. -/
namespace Go.Proofs.Ytlobnnakikgcnaa.Ev
open Go.RowKit Go.Proofs.YtlobnnakikgcnaaW.PrintWords Go.Proofs.YtlobnnakikgcnaaW.PrintLast Go.Proofs.Ytlobnnakikgcnaa.PA

theorem szTop_eq (l : List S70) (x y a : Int) (h0 : 0 ≤ a) (h1 : a ≤ 1048576) (h : l.length ≤ 9223372036854775807) : laws_szTop.f l x y a = some (if a < (l.length : Int) then (-1 : Int) else a - l.length) := by
  unfold laws_szTop.f laws_szPairS.f
  rw [w64 (x := a - (l.length : Int)) (by omega) (by omega)]
  by_cases c : a < (l.length : Int)
  · rw [if_pos (show a - (l.length : Int) < 0 by omega), if_pos c]
    rfl
  · rw [if_neg (show ¬ a - (l.length : Int) < 0 by omega), if_neg c]
    simp only [Option.bind_some]
    rw [if_neg (show ¬ a - (l.length : Int) < 0 by omega)]
def toP (x : S70) : S54 := ⟨x.f0, x.f1⟩
theorem rdS2_mid (pre suf : List S70) (x : S70) (i : Int) (h : i = (pre.length : Int)) : rd_T70 (pre ++ x :: suf) i = x := by
  subst h
  unfold rd_T70
  rw [Int.toNat_natCast]
  exact getD_mid _ _ _ _
theorem toPairS_l0 (L : List S70) (hL : L.length < 1125899906842624) : ∀ (suf pre : List S70), pre ++ suf = L →
    EV (fun k => laws_toPairS.l0 k L (pre.map toP ++ List.replicate suf.length z54) (pre.length : Int)) (L.map toP) := by
  intro suf
  induction suf with
  | nil =>
    intro pre e
    obtain rfl : pre = L := by simpa using e
    refine EV.succ ?_
    simp only [laws_toPairS.l0, if_neg (show ¬ (pre.length : Int) < (pre.length : Int) by omega)]
    exact (EV.pure _).cast (by simp)
  | cons x suf ih =>
    intro pre e
    have hl : (L.length : Int) = pre.length + suf.length + 1 := by rw [← e]; exact len_mid _ _ _
    have hx : rd_T70 L (pre.length : Int) = x := by rw [← e]; exact rdS2_mid _ _ _ _ rfl
    have hs : (pre.map toP ++ List.replicate (x :: suf).length z54).set (pre.length : Int).toNat (⟨x.f0, x.f1⟩ : S54) = (pre ++ [x]).map toP ++ List.replicate suf.length z54 := by
      rw [List.length_cons, List.replicate_succ, set_mid _ _ _ _ _ (by simp)]
      simp [toP]
    have hn : (pre.length : Int) < ((pre.map toP ++ List.replicate (x :: suf).length z54).length : Int) := by simp; omega
    refine EV.succ ?_
    simp only [laws_toPairS.l0, hx, if_pos (show (pre.length : Int) < (L.length : Int) by omega), if_pos (show (0 : Int) ≤ (pre.length : Int) by omega), laws_toPair.f, Option.bind_some, if_pos hn, hs]
    rw [w64 (x := (pre.length : Int) + 1) (by omega) (by omega), ← len_snoc pre x]
    exact ih (pre ++ [x]) (by rw [← app_mid]; exact e)
theorem toTop_ev (l : List S70) (x y : Int) (h : l.length ≤ 1048576) : EV (fun k => laws_toTop.f k l x y) (l.map toP, x, y) := by
  unfold laws_toTop.f laws_toPairS.f
  simp only [if_pos (show 0 ≤ (l.length : Int) by omega), Int.toNat_natCast, if_pos (show l.length ≤ 17592186044416 by omega)]
  refine EV.bind (toPairS_l0 l (by omega) l [] rfl) ?_
  exact EV.pure _
theorem eqPairS_l0 (L : List S54) (hL : L.length < 1125899906842624) : ∀ (suf pre : List S54), pre ++ suf = L → EV (fun k => laws_eqPairS.l0 k L L (pre.length : Int)) true := by
  intro suf
  induction suf with
  | nil =>
    intro pre e
    obtain rfl : pre = L := by simpa using e
    refine EV.succ ?_
    simp only [laws_eqPairS.l0, if_neg (show ¬ (pre.length : Int) < (pre.length : Int) by omega)]
    exact EV.pure _
  | cons x suf ih =>
    intro pre e
    have hl : (L.length : Int) = pre.length + suf.length + 1 := by rw [← e]; exact len_mid _ _ _
    refine EV.succ ?_
    simp only [laws_eqPairS.l0, if_pos (show (pre.length : Int) < (L.length : Int) by omega), if_pos (show (0 : Int) ≤ (pre.length : Int) by omega), laws_eqPair.f, if_true, Option.bind_some]
    rw [w64 (x := (pre.length : Int) + 1) (by omega) (by omega), ← len_snoc pre x]
    exact ih (pre ++ [x]) (by rw [← app_mid]; exact e)
theorem eqTop_ev (l : List S54) (x y : Int) (h : l.length < 1125899906842624) : EV (fun k => laws_eqTop.f k l x y l x y) true := by
  unfold laws_eqTop.f laws_eqPairS.f
  simp only [if_true]
  refine EV.bind (eqPairS_l0 l h l [] rfl) ?_
  simp only [if_true]
  exact EV.pure _

end Go.Proofs.Ytlobnnakikgcnaa.Ev

/- The reference's l3Put, l3Over, l3Less, l3Cut: plain functions over lists. Conditions: short lists, numbers below 2^20. -/
namespace Go.Proofs.Ytlobnnakikgcnaa.Ev
open Go.RowKit Go.Proofs.YtlobnnakikgcnaaW.PrintWords Go.Proofs.YtlobnnakikgcnaaW.PrintLast Go.Proofs.Ytlobnnakikgcnaa.PA

def Small (l : List S54) : Prop := l.length ≤ 1000 ∧ ∀ x ∈ l, 0 ≤ x.f1 ∧ x.f1 ≤ 1000000
def putP (x : S54) : List S54 → List S54
  | [] => [x]
  | y :: l => if y.f0 ≥ x.f0 then (if y.f0 = x.f0 then (⟨x.f0, x.f1 + y.f1⟩ : S54) :: l else x :: y :: l) else y :: putP x l
theorem putP_len (x : S54) : ∀ l : List S54, (putP x l).length ≤ l.length + 1
  | [] => by simp [putP]
  | y :: l => by
    have := putP_len x l
    unfold putP
    split
    · split <;> simp
    · simp only [List.length_cons]
      omega
theorem putP_small {x : S54} (hx : 0 ≤ x.f1 ∧ x.f1 ≤ 500000) : ∀ {l : List S54}, (∀ y ∈ l, 0 ≤ y.f1 ∧ y.f1 ≤ 500000) → ∀ y ∈ putP x l, 0 ≤ y.f1 ∧ y.f1 ≤ 1000000
  | [], _, y, hy => by
    obtain rfl : y = x := by simpa [putP] using hy
    omega
  | z :: l, h, y, hy => by
    have hz := h z (by simp)
    have hl : ∀ y ∈ l, 0 ≤ y.f1 ∧ y.f1 ≤ 500000 := fun y hy => h y (List.mem_cons_of_mem _ hy)
    unfold putP at hy
    split at hy
    · split at hy
      · rcases List.mem_cons.1 hy with rfl | hy
        · simp only
          omega
        · have := hl y hy
          omega
      · rcases List.mem_cons.1 hy with rfl | hy
        · omega
        · rcases List.mem_cons.1 hy with rfl | hy
          · omega
          · have := hl y hy
            omega
    · rcases List.mem_cons.1 hy with rfl | hy
      · omega
      · exact putP_small hx hl y hy
theorem l3Put_done (L : List S54) (t n : Int) (hL : L.length ≤ 1000) : ∀ (suf pre out : List S54), pre ++ suf = L → out.length ≤ 1 + pre.length →
    EV (fun k => spec_l3Put.l0 k L out true (pre.length : Int) t n) (out ++ suf) := by
  intro suf
  induction suf with
  | nil =>
    intro pre out e ho
    obtain rfl : pre = L := by simpa using e
    refine EV.succ ?_
    simp only [spec_l3Put.l0, if_neg (show ¬ (pre.length : Int) < (pre.length : Int) by omega), if_true]
    exact (EV.pure _).cast (by simp)
  | cons x suf ih =>
    intro pre out e ho
    have hl : (L.length : Int) = pre.length + suf.length + 1 := by rw [← e]; exact len_mid _ _ _
    have hx : rd_T54 L (pre.length : Int) = x := by rw [← e]; exact rdS_mid _ _ _ _ rfl
    have hst : wrap64 ((pre.length : Int) + 1) = ((pre ++ [x]).length : Int) := by rw [len_snoc]; exact w64 (by omega) (by omega)
    refine EV.succ ?_
    simp only [spec_l3Put.l0, if_pos (show (pre.length : Int) < (L.length : Int) by omega), if_true]
    refine EV.succ ?_
    simp only [spec_l3Put.j1, Bool.false_eq_true, if_false, if_pos (show (0 : Int) ≤ (pre.length : Int) by omega), if_pos (show (pre.length : Int) < (L.length : Int) by omega), hx, hst, if_pos (show out.length < 8796093022208 by omega)]
    exact (ih (pre ++ [x]) (out ++ [x]) (by rw [← app_mid]; exact e) (by simp; omega)).cast (by simp)
theorem l3Put_l0 (L : List S54) (p : S54) (hL : L.length ≤ 1000) (hs : ∀ y ∈ L, 0 ≤ y.f1 ∧ y.f1 ≤ 1000000) (hp : 0 ≤ p.f1 ∧ p.f1 ≤ 1000000) : ∀ (suf pre out : List S54), pre ++ suf = L → out.length ≤ pre.length →
    EV (fun k => spec_l3Put.l0 k L out false (pre.length : Int) p.f0 p.f1) (out ++ putP p suf) := by
  intro suf
  induction suf with
  | nil =>
    intro pre out e ho
    obtain rfl : pre = L := by simpa using e
    refine EV.succ ?_
    simp only [spec_l3Put.l0, if_neg (show ¬ (pre.length : Int) < (pre.length : Int) by omega), Bool.false_eq_true, if_false, if_pos (show out.length < 8796093022208 by omega)]
    exact EV.pure _
  | cons x suf ih =>
    intro pre out e ho
    have hl : (L.length : Int) = pre.length + suf.length + 1 := by rw [← e]; exact len_mid _ _ _
    have hx : rd_T54 L (pre.length : Int) = x := by rw [← e]; exact rdS_mid _ _ _ _ rfl
    have hxs := hs x (by rw [← e]; simp)
    have hst : wrap64 ((pre.length : Int) + 1) = ((pre ++ [x]).length : Int) := by rw [len_snoc]; exact w64 (by omega) (by omega)
    have hlen : (out ++ [p]).length < 8796093022208 := by simp; omega
    refine EV.succ ?_
    simp only [spec_l3Put.l0, if_pos (show (pre.length : Int) < (L.length : Int) by omega), Bool.false_eq_true, if_false, if_pos (show (0 : Int) ≤ (pre.length : Int) by omega), hx]
    refine EV.succ ?_
    by_cases g : x.f0 ≥ p.f0
    · simp only [spec_l3Put.j1, decide_eq_true g, if_true, if_pos (show out.length < 8796093022208 by omega), Option.bind_some, if_pos (show (0 : Int) ≤ (pre.length : Int) by omega), if_pos (show (pre.length : Int) < (L.length : Int) by omega), hx, hst]
      by_cases c : x.f0 = p.f0
      · simp only [if_pos c, w64 (x := p.f1 + x.f1) (by omega) (by omega)]
        refine (l3Put_done L p.f0 p.f1 hL suf (pre ++ [x]) (out ++ [(⟨p.f0, p.f1 + x.f1⟩ : S54)]) (by rw [← app_mid]; exact e) (by simp; omega)).cast ?_
        unfold putP
        rw [if_pos g, if_pos c]
        simp
      · simp only [if_neg c, if_pos hlen]
        refine (l3Put_done L p.f0 p.f1 hL suf (pre ++ [x]) (out ++ [p] ++ [x]) (by rw [← app_mid]; exact e) (by simp; omega)).cast ?_
        unfold putP
        rw [if_pos g, if_neg c]
        simp
    · simp only [spec_l3Put.j1, decide_eq_false g, Bool.false_eq_true, if_false, if_pos (show (0 : Int) ≤ (pre.length : Int) by omega), if_pos (show (pre.length : Int) < (L.length : Int) by omega), hx, if_pos (show out.length < 8796093022208 by omega), hst]
      refine (ih (pre ++ [x]) (out ++ [x]) (by rw [← app_mid]; exact e) (by simp; omega)).cast ?_
      conv => rhs; unfold putP
      rw [if_neg g]
      simp
theorem l3Put_ev (l : List S54) (p : S54) (h : Small l) (hp : 0 ≤ p.f1 ∧ p.f1 ≤ 1000000) : EV (fun k => spec_l3Put.f k l p.f0 p.f1) (putP p l) :=
  l3Put_l0 l p h.1 h.2 hp l [] [] rfl (by simp)

/-! the number that is taken -/
def cntGe (L : List S54) (v : Int) : Nat := L.countP (fun y => decide (y.f1 ≥ v))
def overF (L : List S54) : List S54 → Int → Int
  | [], b => b
  | x :: s, b => overF L s (if 4 < cntGe L x.f1 then max b x.f1 else b)
def overN (L : List S54) : Int := overF L L 0
theorem overF_bd (L : List S54) (m : Int) : ∀ (s : List S54) (b : Int), (∀ x ∈ s, 0 ≤ x.f1 ∧ x.f1 ≤ m) → 0 ≤ b → b ≤ m → 0 ≤ overF L s b ∧ overF L s b ≤ m
  | [], b, _, h0, h1 => ⟨h0, h1⟩
  | x :: s, b, h, h0, h1 => by
    have hx := h x (by simp)
    unfold overF
    exact overF_bd L m s _ (fun y hy => h y (List.mem_cons_of_mem _ hy)) (by split <;> omega) (by split <;> omega)
theorem l3Over_l1 (L : List S54) (hL : L.length ≤ 1000) (i b R : Int) (x : S54) (hi0 : 0 ≤ i) (hi : i < (L.length : Int)) (hx : rd_T54 L i = x)
    (hR : EV (fun k => spec_l3Over.l0 k L (if 4 < cntGe L x.f1 then max b x.f1 else b) (i + 1)) R) : ∀ (suf pre : List S54), pre ++ suf = L →
    EV (fun k => spec_l3Over.l1 k L b i (cntGe pre x.f1 : Int) (pre.length : Int)) R := by
  intro suf
  induction suf with
  | nil =>
    intro pre e
    obtain rfl : pre = L := by simpa using e
    refine EV.succ ?_
    simp only [spec_l3Over.l1, if_neg (show ¬ (pre.length : Int) < (pre.length : Int) by omega), if_pos hi0, if_pos hi, hx, w64 (x := i + 1) (by omega) (by omega)]
    by_cases c : (cntGe pre x.f1 : Int) > 4
    · have hm : mx b x.f1 = max b x.f1 := by unfold mx; omega
      simp only [if_pos c, hm]
      rw [if_pos (show 4 < cntGe pre x.f1 by omega)] at hR
      exact hR
    · simp only [if_neg c]
      rw [if_neg (show ¬ 4 < cntGe pre x.f1 by omega)] at hR
      exact hR
  | cons y suf ih =>
    intro pre e
    have hl : (L.length : Int) = pre.length + suf.length + 1 := by rw [← e]; exact len_mid _ _ _
    have hy : rd_T54 L (pre.length : Int) = y := by rw [← e]; exact rdS_mid _ _ _ _ rfl
    have hst : wrap64 ((pre.length : Int) + 1) = ((pre ++ [y]).length : Int) := by rw [len_snoc]; exact w64 (by omega) (by omega)
    have hc : cntGe (pre ++ [y]) x.f1 = cntGe pre x.f1 + (if y.f1 ≥ x.f1 then 1 else 0) := by
      unfold cntGe
      rw [List.countP_append]
      simp [List.countP_cons]
    have hle : cntGe pre x.f1 ≤ pre.length := List.countP_le_length
    refine EV.succ ?_
    simp only [spec_l3Over.l1, if_pos (show (pre.length : Int) < (L.length : Int) by omega), if_pos (show (0 : Int) ≤ (pre.length : Int) by omega), if_pos hi0, if_pos hi, hx, hy, hst]
    have := ih (pre ++ [y]) (by rw [← app_mid]; exact e)
    by_cases c : y.f1 ≥ x.f1
    · rw [hc, if_pos c] at this
      simp only [if_pos c]
      rw [w64 (x := (cntGe pre x.f1 : Int) + 1) (by omega) (by omega)]
      simpa using this
    · rw [hc, if_neg c] at this
      simp only [if_neg c]
      simpa using this
theorem l3Over_l0 (L : List S54) (hL : L.length ≤ 1000) : ∀ (suf pre : List S54) (b : Int), pre ++ suf = L → EV (fun k => spec_l3Over.l0 k L b (pre.length : Int)) (overF L suf b) := by
  intro suf
  induction suf with
  | nil =>
    intro pre b e
    obtain rfl : pre = L := by simpa using e
    refine EV.succ ?_
    simp only [spec_l3Over.l0, if_neg (show ¬ (pre.length : Int) < (pre.length : Int) by omega)]
    exact EV.pure _
  | cons x suf ih =>
    intro pre b e
    have hl : (L.length : Int) = pre.length + suf.length + 1 := by rw [← e]; exact len_mid _ _ _
    have hx : rd_T54 L (pre.length : Int) = x := by rw [← e]; exact rdS_mid _ _ _ _ rfl
    refine EV.succ ?_
    simp only [spec_l3Over.l0, if_pos (show (pre.length : Int) < (L.length : Int) by omega)]
    refine l3Over_l1 L hL (pre.length : Int) b _ x (by omega) (by omega) hx ?_ L [] rfl
    rw [← len_snoc pre x]
    exact ih (pre ++ [x]) _ (by rw [← app_mid]; exact e)
theorem l3Over_ev (l : List S54) (h : l.length ≤ 1000) : EV (fun k => spec_l3Over.f k l) (overN l) := l3Over_l0 l h l [] 0 rfl

/-! what is left -/
def lessN (n : Int) : List S54 → List S54
  | [] => []
  | x :: l => if x.f1 > n then (⟨x.f0, x.f1 - n⟩ : S54) :: lessN n l else lessN n l
theorem lessN_len (n : Int) : ∀ l : List S54, (lessN n l).length ≤ l.length
  | [] => by simp [lessN]
  | x :: l => by
    have := lessN_len n l
    unfold lessN
    split <;> simp only [List.length_cons] <;> omega
theorem l3Less_l0 (L : List S54) (n : Int) (h : Small L) (h0 : 0 ≤ n) (h1 : n ≤ 1000000) : ∀ (suf pre out : List S54), pre ++ suf = L → out.length ≤ pre.length →
    EV (fun k => spec_l3Less.l0 k L n out (pre.length : Int)) (out ++ lessN n suf) := by
  obtain ⟨hL, hs⟩ := h
  intro suf
  induction suf with
  | nil =>
    intro pre out e ho
    obtain rfl : pre = L := by simpa using e
    refine EV.succ ?_
    simp only [spec_l3Less.l0, if_neg (show ¬ (pre.length : Int) < (pre.length : Int) by omega)]
    exact (EV.pure _).cast (by simp [lessN])
  | cons x suf ih =>
    intro pre out e ho
    have hl : (L.length : Int) = pre.length + suf.length + 1 := by rw [← e]; exact len_mid _ _ _
    have hx : rd_T54 L (pre.length : Int) = x := by rw [← e]; exact rdS_mid _ _ _ _ rfl
    have hxs := hs x (by rw [← e]; simp)
    have hst : wrap64 ((pre.length : Int) + 1) = ((pre ++ [x]).length : Int) := by rw [len_snoc]; exact w64 (by omega) (by omega)
    refine EV.succ ?_
    simp only [spec_l3Less.l0, if_pos (show (pre.length : Int) < (L.length : Int) by omega), if_pos (show (0 : Int) ≤ (pre.length : Int) by omega), hx, hst, if_pos (show out.length < 8796093022208 by omega), w64 (x := x.f1 - n) (by omega) (by omega)]
    by_cases c : x.f1 > n
    · simp only [if_pos c]
      exact (ih (pre ++ [x]) _ (by rw [← app_mid]; exact e) (by simp; omega)).cast (by simp [lessN, c])
    · simp only [if_neg c]
      exact (ih (pre ++ [x]) out (by rw [← app_mid]; exact e) (by simp; omega)).cast (by simp [lessN, c])
theorem l3Cut_ev (l : List S54) (lost all : Int) (h : Small l) (h0 : 0 ≤ lost) (h1 : lost ≤ 1000000) : EV (fun k => spec_l3Cut.f k l lost all) (lessN (overN l) l, lost + overN l, all) := by
  have hb := overF_bd l 1000000 l 0 h.2 (by omega) (by omega)
  unfold spec_l3Cut.f
  refine EV.bind (l3Over_ev l h.1) ?_
  refine EV.bind (l3Less_l0 l (overN l) h hb.1 hb.2 l [] [] rfl (by simp)) ?_
  rw [w64 (x := lost + overN l) (by have := hb.1; unfold overN; omega) (by have := hb.2; unfold overN; omega)]
  exact EV.pure _
theorem ord_small : ∀ {l : List S54} {b : Int}, ordB b l = true → ∀ y ∈ l, 0 ≤ y.f1 ∧ y.f1 ≤ 2000
  | [], _, _, y, hy => by cases hy
  | x :: l, b, h, y, hy => by
    obtain ⟨h1, h2⟩ := ord_cons.1 h
    rcases List.mem_cons.1 hy with rfl | hy
    · omega
    · exact ord_small h2 y hy
theorem put_small {l : List S54} {b : Int} {p : S54} (hl : l.length ≤ 900) (h : ordB b l = true) (hp : 0 ≤ p.f1 ∧ p.f1 ≤ 2000) : Small (putP p l) :=
  ⟨by have := putP_len p l; omega, putP_small (by omega) (fun y hy => by have := ord_small h y hy; omega)⟩
theorem ord_Small {l : List S54} {b : Int} (hl : l.length ≤ 900) (h : ordB b l = true) : Small l := ⟨by omega, fun y hy => by have := ord_small h y hy; omega⟩

end Go.Proofs.Ytlobnnakikgcnaa.Ev

/- The reference's TopAdd. Conditions: lists shorter than 2^50. -/
namespace Go.Proofs.Ytlobnnakikgcnaa.Ev
open Go.RowKit Go.Proofs.YtlobnnakikgcnaaW.PrintWords Go.Proofs.YtlobnnakikgcnaaW.PrintLast Go.Proofs.Ytlobnnakikgcnaa.PA

def topCut (l : List S54) (lost all : Int) : List S54 × Int × Int := (lessN (overN l) l, lost + overN l, all)
def topAdd (l : List S54) (lost all t : Int) : List S54 × Int × Int × Bool :=
  if topB l lost all = true ∧ 0 ≤ t ∧ t ≤ 63 ∧ all < 2000 then ((topCut (putP ⟨t, 1⟩ l) lost (all + 1)).1, (topCut (putP ⟨t, 1⟩ l) lost (all + 1)).2.1, all + 1, true) else ([], 0, 0, false)
theorem spec_TopAdd_ev (l : List S54) (lost all t : Int) (h : l.length < 1125899906842624) : EV (fun k => spec_TopAdd.f k l lost all t) (topAdd l lost all t) := by
  unfold spec_TopAdd.f topAdd
  have stop : EV (fun k => spec_TopAdd.j0 k t true l lost all) ([], 0, 0, false) := by
    refine EV.succ ?_
    simp only [spec_TopAdd.j0, if_true]
    exact EV.pure _
  refine EV.bind (spec_TopOk_ev l lost all h) ?_
  by_cases c : topB l lost all = true
  · obtain ⟨c1, c2, c3⟩ := topB_iff.1 c
    simp only [if_pos c, in_eq, Option.bind_some]
    by_cases d : 0 ≤ t ∧ t ≤ 63
    · simp only [decide_eq_true d, if_true]
      by_cases e : all ≥ 2000
      · simp only [decide_eq_true e]
        rw [if_neg (by omega)]
        exact stop
      · simp only [decide_eq_false e]
        rw [if_pos ⟨c, d.1, d.2, by omega⟩]
        refine EV.succ ?_
        simp only [spec_TopAdd.j0, Bool.false_eq_true, if_false]
        refine EV.bind (l3Put_ev l ⟨t, 1⟩ (ord_Small (by omega) c2) (by simp)) ?_
        rw [w64 (x := all + 1) (by omega) (by omega)]
        refine EV.bind (l3Cut_ev _ lost (all + 1) (put_small (by omega) c2 (by simp)) (by omega) (by omega)) ?_
        exact EV.pure _
    · simp only [decide_eq_false d, Bool.false_eq_true, if_false]
      rw [if_neg (fun g => d ⟨g.2.1, g.2.2.1⟩)]
      exact stop
  · simp only [if_neg c]
    rw [if_neg (fun g => c g.1)]
    exact stop
theorem topAdd_len (l : List S54) (lost all t : Int) : (topAdd l lost all t).1.length ≤ 5 := by
  unfold topAdd
  split
  · rename_i h
    obtain ⟨c1, _⟩ := topB_iff.1 h.1
    have h1 := lessN_len (overN (putP (⟨t, 1⟩ : S54) l)) (putP ⟨t, 1⟩ l)
    have h2 := putP_len (⟨t, 1⟩ : S54) l
    simp only [topCut]
    omega
  · simp

end Go.Proofs.Ytlobnnakikgcnaa.Ev

/- What the program's and the reference's TopGet tell: the same. Conditions: lists shorter than 2^50. -/
namespace Go.Proofs.Ytlobnnakikgcnaa.Ev
open Go.RowKit Go.Proofs.YtlobnnakikgcnaaW.PrintWords Go.Proofs.YtlobnnakikgcnaaW.PrintLast Go.Proofs.Ytlobnnakikgcnaa.PA

theorem thing_eqT (a : Int) : impl_isThing.f a = some (decide (0 ≤ a ∧ a ≤ 63)) := by
  unfold impl_isThing.f
  by_cases h : a ≥ 0
  · rw [if_pos h]
    by_cases g : a < 64
    · simp [show 0 ≤ a from h, g, show a ≤ 63 by omega]
    · simp [g, show ¬ a ≤ 63 by omega]
  · rw [if_neg h]
    simp [show ¬ 0 ≤ a by omega]
/-- How often a thing is kept. -/
def numOf (t : Int) : List S54 → Int
  | [] => 0
  | x :: l => if x.f0 = t then x.f1 else numOf t l
theorem numOf_bd (t : Int) : ∀ (l : List S54) (b : Int), ordB b l = true → 0 ≤ numOf t l ∧ numOf t l ≤ 2000
  | [], _, _ => by simp [numOf]
  | x :: l, b, h => by
    obtain ⟨h1, h2⟩ := ord_cons.1 h
    have := numOf_bd t l x.f0 h2
    unfold numOf
    split <;> omega
def topGet (l : List S54) (lost all t : Int) : Int × Int := if topB l lost all = true ∧ 0 ≤ t ∧ t ≤ 63 then (numOf t l, numOf t l + lost) else (-1, -1)
theorem impl_TopGet_l0 (L : List S54) (lost all t : Int) (hL : L.length ≤ 4) (ho : ordB (-1) L = true) (h0 : 0 ≤ lost) (h1 : lost ≤ 2000) : ∀ (suf pre : List S54) (b : Int), pre ++ suf = L → ordB b suf = true →
    EV (fun k => impl_TopGet.l0 k t L (L.length : Int) (pre.length : Int) L lost all) (numOf t suf, numOf t suf + lost) := by
  intro suf
  induction suf with
  | nil =>
    intro pre b e _
    obtain rfl : pre = L := by simpa using e
    refine EV.succ ?_
    simp only [impl_TopGet.l0, if_neg (show ¬ (pre.length : Int) < (pre.length : Int) by omega)]
    exact (EV.pure _).cast (by simp [numOf])
  | cons x suf ih =>
    intro pre b e hb
    obtain ⟨g1, g2⟩ := ord_cons.1 hb
    have hl : (L.length : Int) = pre.length + suf.length + 1 := by rw [← e]; exact len_mid _ _ _
    have hx : rd_T54 L (pre.length : Int) = x := by rw [← e]; exact rdS_mid _ _ _ _ rfl
    refine EV.succ ?_
    simp only [impl_TopGet.l0, hx, if_pos (show (pre.length : Int) < (L.length : Int) by omega), if_pos (show (0 : Int) ≤ (pre.length : Int) by omega)]
    by_cases c : x.f0 = t
    · simp only [if_pos c, w64 (x := x.f1 + lost) (by omega) (by omega)]
      exact (EV.pure _).cast (by simp [numOf, c])
    · simp only [if_neg c]
      rw [w64 (x := (pre.length : Int) + 1) (by omega) (by omega), ← len_snoc pre x]
      exact (ih (pre ++ [x]) x.f0 (by rw [← app_mid]; exact e) g2).cast (by simp [numOf, c])
theorem impl_TopGet_ev (l : List S54) (lost all t : Int) : EV (fun k => impl_TopGet.f k l lost all t) (topGet l lost all t) := by
  unfold impl_TopGet.f topGet
  have stop : EV (fun k => impl_TopGet.j0 k t true l lost all) (-1, -1) := by
    refine EV.succ ?_
    simp only [impl_TopGet.j0, if_true]
    exact EV.pure _
  refine EV.bind (impl_TopOk_ev l lost all) ?_
  by_cases c : topB l lost all = true
  · obtain ⟨c1, c2, c3⟩ := topB_iff.1 c
    simp only [if_pos c, thing_eqT, Option.bind_some]
    by_cases d : 0 ≤ t ∧ t ≤ 63
    · simp only [decide_eq_true d, Bool.not_true]
      rw [if_pos ⟨c, d⟩]
      refine EV.succ ?_
      simp only [impl_TopGet.j0, Bool.false_eq_true, if_false]
      exact impl_TopGet_l0 l lost all t c1.1 c2 c1.2.1 c1.2.2.1 l [] (-1) rfl c2
    · simp only [decide_eq_false d, Bool.not_false]
      rw [if_neg (fun g => d g.2)]
      exact stop
  · simp only [if_neg c]
    rw [if_neg (fun g => c g.1)]
    exact stop

end Go.Proofs.Ytlobnnakikgcnaa.Ev

/- Rows of pairs that ascend by things: one is told by how often each thing is in it. Sums of two rows (put one by one, or merged out of a sorted row); the fifth greatest number. No program in sight. -/
namespace Go.Proofs.Ytlobnnakikgcnaa.Ev
open Go.RowKit Go.Proofs.YtlobnnakikgcnaaW.PrintWords Go.Proofs.YtlobnnakikgcnaaW.PrintLast Go.Proofs.Ytlobnnakikgcnaa.PA Go.Proofs.Ytlobnnakikgcnaa.H

set_option linter.unusedVariables false

/-- Ascending by things, beyond b; each number 1 or more. -/
def Up (b : Int) (l : List S54) : Prop := (∀ y ∈ l, b < y.f0 ∧ 1 ≤ y.f1) ∧ l.Pairwise (fun x y => x.f0 < y.f0)
theorem up_nil (b : Int) : Up b [] := ⟨(fun y hy => by cases hy), List.Pairwise.nil⟩
theorem up_cons {b : Int} {x : S54} {l : List S54} : Up b (x :: l) ↔ b < x.f0 ∧ 1 ≤ x.f1 ∧ Up x.f0 l := by
  constructor
  · rintro ⟨h1, h2⟩
    obtain ⟨h3, h4⟩ := List.pairwise_cons.1 h2
    exact ⟨(h1 x List.mem_cons_self).1, (h1 x List.mem_cons_self).2, fun y hy => ⟨h3 y hy, (h1 y (List.mem_cons_of_mem _ hy)).2⟩, h4⟩
  · rintro ⟨h1, h2, h3, h4⟩
    refine ⟨fun y hy => ?_, List.pairwise_cons.2 ⟨fun y hy => (h3 y hy).1, h4⟩⟩
    rcases List.mem_cons.1 hy with rfl | hy
    · exact ⟨h1, h2⟩
    · have := h3 y hy
      exact ⟨by omega, this.2⟩
theorem ord_up : ∀ {l : List S54} {b : Int}, ordB b l = true → Up b l
  | [], b, _ => up_nil b
  | x :: l, b, h => by
    obtain ⟨h1, h2⟩ := ord_cons.1 h
    exact up_cons.2 ⟨h1.1, h1.2.2.1, ord_up h2⟩
theorem up_ord : ∀ {l : List S54} {b : Int}, Up b l → (∀ y ∈ l, y.f0 ≤ 63 ∧ y.f1 ≤ 2000) → ordB b l = true
  | [], b, _, _ => rfl
  | x :: l, b, h, hm => by
    obtain ⟨h1, h2, h3⟩ := up_cons.1 h
    have := hm x List.mem_cons_self
    exact ord_cons.2 ⟨⟨h1, this.1, h2, this.2⟩, up_ord h3 (fun y hy => hm y (List.mem_cons_of_mem _ hy))⟩
/-- How often a thing is in a row. -/
def totN (t : Int) : List S54 → Int
  | [] => 0
  | x :: l => (if x.f0 = t then x.f1 else 0) + totN t l
theorem totN_app (t : Int) : ∀ (l m : List S54), totN t (l ++ m) = totN t l + totN t m
  | [], m => by simp [totN]
  | x :: l, m => by
    show (if x.f0 = t then x.f1 else 0) + totN t (l ++ m) = (if x.f0 = t then x.f1 else 0) + totN t l + totN t m
    rw [totN_app t l m]
    omega
theorem totN_perm (t : Int) {l m : List S54} (h : l.Perm m) : totN t l = totN t m := by
  induction h with
  | nil => rfl
  | cons x _ ih => show _ + totN t _ = _ + totN t _; rw [ih]
  | swap x y l => show _ + (_ + totN t l) = _ + (_ + totN t l); omega
  | trans _ _ h1 h2 => exact h1.trans h2
theorem totN_below (t : Int) : ∀ {l : List S54} {b : Int}, Up b l → t ≤ b → totN t l = 0
  | [], _, _, _ => rfl
  | x :: l, b, h, ht => by
    obtain ⟨h1, h2, h3⟩ := up_cons.1 h
    show (if x.f0 = t then x.f1 else 0) + totN t l = 0
    rw [if_neg (by omega), totN_below t h3 (by omega)]
    rfl
theorem numOf_tot (t : Int) : ∀ {l : List S54} {b : Int}, Up b l → numOf t l = totN t l
  | [], _, _ => rfl
  | x :: l, b, h => by
    obtain ⟨h1, h2, h3⟩ := up_cons.1 h
    show (if x.f0 = t then x.f1 else numOf t l) = (if x.f0 = t then x.f1 else 0) + totN t l
    by_cases c : x.f0 = t
    · rw [if_pos c, if_pos c, totN_below t h3 (by omega)]
      omega
    · rw [if_neg c, if_neg c, numOf_tot t h3]
      omega
theorem up_ext : ∀ {l m : List S54} {b : Int}, Up b l → Up b m → (∀ t, totN t l = totN t m) → l = m
  | [], [], _, _, _, _ => rfl
  | [], y :: m, b, _, hm, h => by
    obtain ⟨h1, h2, h3⟩ := up_cons.1 hm
    have := h y.f0
    have e : totN y.f0 (y :: m) = (if y.f0 = y.f0 then y.f1 else 0) + totN y.f0 m := rfl
    rw [e, if_pos rfl, totN_below _ h3 (Int.le_refl _)] at this
    have : totN y.f0 ([] : List S54) = 0 := rfl
    omega
  | x :: l, [], b, hl, _, h => by
    obtain ⟨h1, h2, h3⟩ := up_cons.1 hl
    have := h x.f0
    have e : totN x.f0 (x :: l) = (if x.f0 = x.f0 then x.f1 else 0) + totN x.f0 l := rfl
    rw [e, if_pos rfl, totN_below _ h3 (Int.le_refl _)] at this
    have : totN x.f0 ([] : List S54) = 0 := rfl
    omega
  | x :: l, y :: m, b, hl, hm, h => by
    obtain ⟨l1, l2, l3⟩ := up_cons.1 hl
    obtain ⟨m1, m2, m3⟩ := up_cons.1 hm
    have ex : ∀ t, totN t (x :: l) = (if x.f0 = t then x.f1 else 0) + totN t l := fun _ => rfl
    have ey : ∀ t, totN t (y :: m) = (if y.f0 = t then y.f1 else 0) + totN t m := fun _ => rfl
    have hf : x.f0 = y.f0 := by
      rcases Int.lt_trichotomy x.f0 y.f0 with c | c | c
      · have := h x.f0
        rw [ex, ey, if_pos rfl, if_neg (by omega), totN_below _ l3 (Int.le_refl _), totN_below _ m3 (by omega)] at this
        omega
      · exact c
      · have := h y.f0
        rw [ex, ey, if_pos rfl, if_neg (by omega), totN_below _ m3 (Int.le_refl _), totN_below _ l3 (by omega)] at this
        omega
    have hg : x.f1 = y.f1 := by
      have := h x.f0
      rw [ex, ey, if_pos rfl, if_pos hf.symm, totN_below _ l3 (Int.le_refl _), totN_below _ m3 (by omega)] at this
      omega
    have hxy : x = y := by
      cases x; cases y
      simp only at hf hg
      rw [hf, hg]
    subst hxy
    rw [up_ext l3 m3 (fun t => by have := h t; rw [ex, ey] at this; omega)]
theorem totN_nonneg (t : Int) : ∀ {l : List S54}, (∀ y ∈ l, 0 ≤ y.f1) → 0 ≤ totN t l
  | [], _ => Int.le_refl 0
  | x :: l, h => by
    have h1 := totN_nonneg t (l := l) (fun y hy => h y (List.mem_cons_of_mem _ hy))
    have h2 := h x List.mem_cons_self
    show 0 ≤ (if x.f0 = t then x.f1 else 0) + totN t l
    split <;> omega
theorem sumN_perm {l m : List S54} (h : l.Perm m) : sumN l = sumN m := by
  induction h with
  | nil => rfl
  | cons x _ ih => show _ + sumN _ = _ + sumN _; rw [ih]
  | swap x y l => show _ + (_ + sumN l) = _ + (_ + sumN l); omega
  | trans _ _ h1 h2 => exact h1.trans h2

/-! #### put one by one -/
theorem put_up {x : S54} (hx : 1 ≤ x.f1) : ∀ {l : List S54} {b : Int}, Up b l → b < x.f0 → Up b (putP x l)
  | [], b, _, hb => up_cons.2 ⟨hb, hx, up_nil _⟩
  | y :: l, b, h, hb => by
    obtain ⟨h1, h2, h3⟩ := up_cons.1 h
    show Up b (if y.f0 ≥ x.f0 then (if y.f0 = x.f0 then (⟨x.f0, x.f1 + y.f1⟩ : S54) :: l else x :: y :: l) else y :: putP x l)
    by_cases c : y.f0 ≥ x.f0
    · rw [if_pos c]
      by_cases d : y.f0 = x.f0
      · rw [if_pos d]
        exact up_cons.2 ⟨hb, by show 1 ≤ x.f1 + y.f1; omega, by show Up x.f0 l; rw [← d]; exact h3⟩
      · rw [if_neg d]
        exact up_cons.2 ⟨hb, hx, up_cons.2 ⟨by omega, h2, h3⟩⟩
    · rw [if_neg c]
      exact up_cons.2 ⟨h1, h2, put_up hx h3 (by omega)⟩
theorem put_tot (x : S54) (t : Int) : ∀ (l : List S54), totN t (putP x l) = totN t l + (if x.f0 = t then x.f1 else 0)
  | [] => by show (if x.f0 = t then x.f1 else 0) + 0 = 0 + _; omega
  | y :: l => by
    show totN t (if y.f0 ≥ x.f0 then (if y.f0 = x.f0 then (⟨x.f0, x.f1 + y.f1⟩ : S54) :: l else x :: y :: l) else y :: putP x l) = (if y.f0 = t then y.f1 else 0) + totN t l + (if x.f0 = t then x.f1 else 0)
    by_cases c : y.f0 ≥ x.f0
    · rw [if_pos c]
      by_cases d : y.f0 = x.f0
      · rw [if_pos d]
        show (if x.f0 = t then x.f1 + y.f1 else 0) + totN t l = _
        rw [d]
        split <;> omega
      · rw [if_neg d]
        show (if x.f0 = t then x.f1 else 0) + ((if y.f0 = t then y.f1 else 0) + totN t l) = _
        omega
    · rw [if_neg c]
      show (if y.f0 = t then y.f1 else 0) + totN t (putP x l) = _
      rw [put_tot x t l]
      omega
theorem put_sum (x : S54) : ∀ (l : List S54), sumN (putP x l) = sumN l + x.f1
  | [] => by show x.f1 + 0 = 0 + x.f1; omega
  | y :: l => by
    show sumN (if y.f0 ≥ x.f0 then (if y.f0 = x.f0 then (⟨x.f0, x.f1 + y.f1⟩ : S54) :: l else x :: y :: l) else y :: putP x l) = y.f1 + sumN l + x.f1
    split
    · split
      · show x.f1 + y.f1 + sumN l = _
        omega
      · show x.f1 + (y.f1 + sumN l) = _
        omega
    · show y.f1 + sumN (putP x l) = _
      rw [put_sum x l]
      omega
theorem put_mem (x : S54) (m : Int) : ∀ (l : List S54), (∀ y ∈ l, y.f0 ≤ m) → x.f0 ≤ m → ∀ y ∈ putP x l, y.f0 ≤ m
  | [], _, hx, y, hy => by
    obtain rfl := List.mem_singleton.1 hy
    exact hx
  | z :: l, h, hx, y, hy => by
    have hz := h z List.mem_cons_self
    have hl : ∀ y ∈ l, y.f0 ≤ m := fun y hy => h y (List.mem_cons_of_mem _ hy)
    have e : putP x (z :: l) = if z.f0 ≥ x.f0 then (if z.f0 = x.f0 then (⟨x.f0, x.f1 + z.f1⟩ : S54) :: l else x :: z :: l) else z :: putP x l := rfl
    rw [e] at hy
    split at hy
    · split at hy
      · rcases List.mem_cons.1 hy with rfl | hy
        · exact hx
        · exact hl y hy
      · rcases List.mem_cons.1 hy with rfl | hy
        · exact hx
        · rcases List.mem_cons.1 hy with rfl | hy
          · exact hz
          · exact hl y hy
    · rcases List.mem_cons.1 hy with rfl | hy
      · exact hz
      · exact put_mem x m l hl hx y hy
/-- A row, and all pairs of another put into it. -/
def joinL (l m : List S54) : List S54 := m.foldl (fun a p => putP p a) l
theorem joinL_up : ∀ {m l : List S54} {b : Int}, Up b l → (∀ p ∈ m, b < p.f0 ∧ 1 ≤ p.f1) → Up b (joinL l m)
  | [], _, _, h, _ => h
  | p :: m, l, b, h, hm => joinL_up (m := m) (put_up (hm p List.mem_cons_self).2 h (hm p List.mem_cons_self).1) (fun q hq => hm q (List.mem_cons_of_mem _ hq))
theorem joinL_tot (t : Int) : ∀ (m l : List S54), totN t (joinL l m) = totN t l + totN t m
  | [], l => by show totN t l = totN t l + 0; omega
  | p :: m, l => by
    show totN t (joinL (putP p l) m) = totN t l + ((if p.f0 = t then p.f1 else 0) + totN t m)
    rw [joinL_tot t m (putP p l), put_tot]
    omega
theorem joinL_sum : ∀ (m l : List S54), sumN (joinL l m) = sumN l + sumN m
  | [], l => by show sumN l = sumN l + 0; omega
  | p :: m, l => by
    show sumN (joinL (putP p l) m) = sumN l + (p.f1 + sumN m)
    rw [joinL_sum m (putP p l), put_sum]
    omega
theorem joinL_len : ∀ (m l : List S54), (joinL l m).length ≤ l.length + m.length
  | [], l => Nat.le_refl _
  | p :: m, l => by
    have h1 := joinL_len m (putP p l)
    have h2 := putP_len p l
    show (joinL (putP p l) m).length ≤ l.length + (m.length + 1)
    omega
theorem joinL_mem (k : Int) : ∀ (m l : List S54), (∀ y ∈ l, y.f0 ≤ k) → (∀ y ∈ m, y.f0 ≤ k) → ∀ y ∈ joinL l m, y.f0 ≤ k
  | [], l, h, _ => h
  | p :: m, l, h, hm => joinL_mem k m (putP p l) (put_mem p k l h (hm p List.mem_cons_self)) (fun y hy => hm y (List.mem_cons_of_mem _ hy))
theorem joinL_comm {l m : List S54} {b : Int} (hl : Up b l) (hm : Up b m) : joinL l m = joinL m l :=
  up_ext (joinL_up hl hm.1) (joinL_up hm hl.1) (fun t => by rw [joinL_tot, joinL_tot]; omega)

/-! #### merged out of a sorted row -/
def push (out : List S54) (x : S54) : List S54 :=
  match out.getLast? with
  | some y => if y.f0 = x.f0 then out.dropLast ++ [(⟨y.f0, y.f1 + x.f1⟩ : S54)] else out ++ [x]
  | none => [x]
theorem push_nil (x : S54) : push [] x = [x] := rfl
theorem push_snoc (pre : List S54) (y x : S54) : push (pre ++ [y]) x = if y.f0 = x.f0 then pre ++ [(⟨y.f0, y.f1 + x.f1⟩ : S54)] else pre ++ [y] ++ [x] := by
  unfold push
  simp
theorem up_snoc {b : Int} {l : List S54} {x : S54} : Up b (l ++ [x]) ↔ Up b l ∧ (∀ y ∈ l, y.f0 < x.f0) ∧ b < x.f0 ∧ 1 ≤ x.f1 := by
  unfold Up
  rw [List.pairwise_append]
  constructor
  · rintro ⟨h1, h2, _, h4⟩
    exact ⟨⟨fun y hy => h1 y (List.mem_append_left _ hy), h2⟩, fun y hy => h4 y hy x (List.mem_singleton.2 rfl), h1 x (by simp)⟩
  · rintro ⟨⟨h1, h2⟩, h3, h4⟩
    refine ⟨fun y hy => ?_, h2, List.pairwise_singleton _ _, fun y hy z hz => ?_⟩
    · rcases List.mem_append.1 hy with hy | hy
      · exact h1 y hy
      · obtain rfl := List.mem_singleton.1 hy
        exact h4
    · obtain rfl := List.mem_singleton.1 hz
      exact h3 y hy
theorem push_tot (t : Int) (out : List S54) (x : S54) : totN t (push out x) = totN t out + (if x.f0 = t then x.f1 else 0) := by
  rcases List.eq_nil_or_concat out with rfl | ⟨pre, y, rfl⟩
  · show (if x.f0 = t then x.f1 else 0) + 0 = 0 + _
    omega
  · rw [List.concat_eq_append, push_snoc]
    by_cases c : y.f0 = x.f0
    · rw [if_pos c, totN_app, totN_app]
      show totN t pre + ((if y.f0 = t then y.f1 + x.f1 else 0) + 0) = totN t pre + ((if y.f0 = t then y.f1 else 0) + 0) + _
      rw [c]
      split <;> omega
    · rw [if_neg c, totN_app]
      show totN t (pre ++ [y]) + ((if x.f0 = t then x.f1 else 0) + 0) = _
      omega
theorem push_up {b : Int} {out : List S54} {x : S54} (h : Up b out) (hb : b < x.f0) (hx : 1 ≤ x.f1) (hle : ∀ y ∈ out, y.f0 ≤ x.f0) : Up b (push out x) ∧ ∀ y ∈ push out x, y.f0 ≤ x.f0 := by
  rcases List.eq_nil_or_concat out with rfl | ⟨pre, y, rfl⟩
  · refine ⟨up_cons.2 ⟨hb, hx, up_nil _⟩, fun y hy => ?_⟩
    obtain rfl := List.mem_singleton.1 hy
    exact Int.le_refl _
  · rw [List.concat_eq_append] at h hle ⊢
    rw [push_snoc]
    obtain ⟨h1, h2, h3, h4⟩ := up_snoc.1 h
    by_cases c : y.f0 = x.f0
    · rw [if_pos c]
      refine ⟨up_snoc.2 ⟨h1, h2, h3, by show 1 ≤ y.f1 + x.f1; omega⟩, fun z hz => ?_⟩
      rcases List.mem_append.1 hz with hz | hz
      · exact hle z (List.mem_append_left _ hz)
      · obtain rfl := List.mem_singleton.1 hz
        show y.f0 ≤ x.f0
        omega
    · rw [if_neg c]
      have hy := hle y (by simp)
      refine ⟨up_snoc.2 ⟨h, fun z hz => ?_, hb, hx⟩, fun z hz => ?_⟩
      · rcases List.mem_append.1 hz with hz | hz
        · have := h2 z hz
          omega
        · obtain rfl := List.mem_singleton.1 hz
          omega
      · rcases List.mem_append.1 hz with hz | hz
        · exact hle z hz
        · obtain rfl := List.mem_singleton.1 hz
          exact Int.le_refl _
def merge (s out : List S54) : List S54 := s.foldl push out
theorem merge_tot (t : Int) : ∀ (s out : List S54), totN t (merge s out) = totN t out + totN t s
  | [], out => by show totN t out = totN t out + 0; omega
  | x :: s, out => by
    show totN t (merge s (push out x)) = totN t out + ((if x.f0 = t then x.f1 else 0) + totN t s)
    rw [merge_tot t s (push out x), push_tot]
    omega
theorem merge_up : ∀ {s out : List S54} {b : Int}, Up b out → (∀ x ∈ s, b < x.f0 ∧ 1 ≤ x.f1) → s.Pairwise (fun x y => x.f0 ≤ y.f0) → (∀ y ∈ out, ∀ x ∈ s, y.f0 ≤ x.f0) → Up b (merge s out)
  | [], _, _, h, _, _, _ => h
  | x :: s, out, b, h, hs, hp, hle => by
    obtain ⟨p1, p2⟩ := List.pairwise_cons.1 hp
    have hx := hs x List.mem_cons_self
    obtain ⟨u1, u2⟩ := push_up h hx.1 hx.2 (fun y hy => hle y hy x List.mem_cons_self)
    refine merge_up (s := s) u1 (fun z hz => hs z (List.mem_cons_of_mem _ hz)) p2 (fun y hy z hz => ?_)
    have := u2 y hy
    have := p1 z hz
    omega

/-! #### the sorts -/
theorem sort_perm {cf : S54 → S54 → Int} (hS : Go.Sort.SWO (ltOf cf)) (l : List S54) : (sortL cf l).Perm l := by
  obtain ⟨h1, _, h3⟩ := (Go.Sort.insertionSort_holds hS l.toArray 0 l.toArray.size (Nat.zero_le _) (Nat.le_refl _)).1
  have e : sortL cf l = (Go.Sort.insertionSort (ltOf cf) l.toArray 0 l.toArray.size).toList := by unfold sortL; simp
  rw [e]
  generalize Go.Sort.insertionSort (ltOf cf) l.toArray 0 l.toArray.size = d at h1 h3
  rw [← h1] at h3
  rw [show d.extract 0 d.size = d by simp, h1, show l.toArray.extract 0 l.toArray.size = l.toArray by simp] at h3
  simpa using h3
theorem sort_get {cf : S54 → S54 → Int} (hS : Go.Sort.SWO (ltOf cf)) (l : List S54) (i j : Nat) (hij : i < j) (hj : j < (sortL cf l).length) : ltOf cf ((sortL cf l)[j]) ((sortL cf l)[i]) = false := by
  have h2 := (Go.Sort.insertionSort_holds hS l.toArray 0 l.toArray.size (Nat.zero_le _) (Nat.le_refl _)).2
  have hl := sortL_len hS l
  have h3 := h2 i j (Nat.zero_le _) hij (by simpa [hl] using hj)
  have e : (Go.Sort.insertionSort (ltOf cf) l.toArray 0 l.toArray.size).toList = sortL cf l := by unfold sortL; simp
  have hd : ∀ k (hk : k < (sortL cf l).length), (Go.Sort.insertionSort (ltOf cf) l.toArray 0 l.toArray.size)[k]! = (sortL cf l)[k] := by
    intro k hk
    rw [getElem!_pos _ k (by rw [← Array.length_toList, e]; exact hk)]
    simp only [← e, Array.getElem_toList]
  rw [hd j hj, hd i (by omega)] at h3
  exact h3
theorem sortT_asc (l : List S54) : (sortL cmpT l).Pairwise (fun x y => x.f0 ≤ y.f0) := by
  rw [List.pairwise_iff_getElem]
  intro i j hi hj hij
  have := sort_get swo_T l i j hij hj
  rw [lt_T] at this
  simpa using this
theorem sortN_desc (l : List S54) : (sortL cmpN l).Pairwise (fun x y => y.f1 ≤ x.f1) := by
  rw [List.pairwise_iff_getElem]
  intro i j hi hj hij
  have := sort_get swo_N l i j hij hj
  rw [lt_N] at this
  simpa using this
/-- Both rows together, merged: as put one by one. -/
theorem merge_join {l m : List S54} {b : Int} (hl : Up b l) (hm : Up b m) : merge (sortL cmpT (l ++ m)) [] = joinL l m := by
  have hp := sort_perm swo_T (l ++ m)
  refine up_ext (merge_up (up_nil b) (fun x hx => ?_) (sortT_asc _) (fun y hy => by cases hy)) (joinL_up hl hm.1) (fun t => ?_)
  · rcases List.mem_append.1 (hp.mem_iff.1 hx) with h | h
    · exact hl.1 x h
    · exact hm.1 x h
  · rw [merge_tot, joinL_tot, totN_perm t hp, totN_app]
    show 0 + _ = _
    omega

/-! #### the fifth greatest number -/
theorem overF_ge (L : List S54) : ∀ (s : List S54) (b : Int), b ≤ overF L s b ∧ (∀ x ∈ s, 4 < cntGe L x.f1 → x.f1 ≤ overF L s b) ∧ (overF L s b = b ∨ ∃ x ∈ s, 4 < cntGe L x.f1 ∧ overF L s b = x.f1)
  | [], b => ⟨Int.le_refl _, (fun x hx => by cases hx), .inl rfl⟩
  | y :: s, b => by
    obtain ⟨h1, h2, h3⟩ := overF_ge L s (if 4 < cntGe L y.f1 then max b y.f1 else b)
    have e : overF L (y :: s) b = overF L s (if 4 < cntGe L y.f1 then max b y.f1 else b) := rfl
    rw [e]
    by_cases c : 4 < cntGe L y.f1
    · rw [if_pos c] at h1 h2 h3 ⊢
      refine ⟨by omega, fun x hx hc => ?_, ?_⟩
      · rcases List.mem_cons.1 hx with rfl | hx
        · omega
        · exact h2 x hx hc
      · rcases h3 with h3 | ⟨x, hx, hc, h3⟩
        · rcases Int.le_total y.f1 b with d | d
          · exact .inl (by omega)
          · exact .inr ⟨y, List.mem_cons_self, c, by omega⟩
        · exact .inr ⟨x, List.mem_cons_of_mem _ hx, hc, h3⟩
    · rw [if_neg c] at h1 h2 h3 ⊢
      refine ⟨h1, fun x hx hc => ?_, ?_⟩
      · rcases List.mem_cons.1 hx with rfl | hx
        · exact absurd hc c
        · exact h2 x hx hc
      · rcases h3 with h3 | ⟨x, hx, hc, h3⟩
        · exact .inl h3
        · exact .inr ⟨x, List.mem_cons_of_mem _ hx, hc, h3⟩
theorem over_few {L : List S54} (h : L.length ≤ 4) : overN L = 0 := by
  rcases (overF_ge L L 0).2.2 with h3 | ⟨x, _, hc, _⟩
  · exact h3
  · have := List.countP_le_length (p := fun y : S54 => decide (y.f1 ≥ x.f1)) (l := L)
    unfold cntGe at hc
    omega
theorem over_fifth {L S : List S54} (hp : S.Perm L) (hd : S.Pairwise (fun x y => y.f1 ≤ x.f1)) (h1 : ∀ y ∈ L, 1 ≤ y.f1) (h4 : 4 < S.length) : overN L = (S[4]).f1 := by
  have hmem : S[4] ∈ L := hp.mem_iff.1 (List.getElem_mem h4)
  have hge : ∀ i (hi : i < S.length), i ≤ 4 → (S[4]).f1 ≤ (S[i]).f1 := by
    intro i hi h
    rcases Nat.lt_or_eq_of_le h with h | rfl
    · exact List.pairwise_iff_getElem.1 hd i 4 hi h4 h
    · exact Int.le_refl _
  have hle : ∀ i (hi : i < S.length), 4 ≤ i → (S[i]).f1 ≤ (S[4]).f1 := by
    intro i hi h
    rcases Nat.lt_or_eq_of_le h with h | rfl
    · exact List.pairwise_iff_getElem.1 hd 4 i h4 hi h
    · exact Int.le_refl _
  have hsplit : S = S.take 5 ++ S.drop 5 := (List.take_append_drop 5 S).symm
  have hcnt : ∀ v, cntGe L v = (S.take 5).countP (fun y => decide (y.f1 ≥ v)) + (S.drop 5).countP (fun y => decide (y.f1 ≥ v)) := by
    intro v
    unfold cntGe
    rw [← hp.countP_eq, ← List.countP_append, List.take_append_drop]
  have hc5 : 4 < cntGe L (S[4]).f1 := by
    rw [hcnt]
    have : (S.take 5).countP (fun y => decide (y.f1 ≥ (S[4]).f1)) = (S.take 5).length := by
      rw [List.countP_eq_length]
      intro y hy
      obtain ⟨i, hi, rfl⟩ := List.mem_iff_getElem.1 hy
      rw [List.length_take] at hi
      rw [List.getElem_take]
      exact decide_eq_true (hge i (by omega) (by omega))
    rw [this, List.length_take]
    omega
  obtain ⟨_, g2, g3⟩ := overF_ge L L 0
  have a := g2 _ hmem hc5
  have hpos := h1 _ hmem
  rcases g3 with g3 | ⟨x, hx, hcx, g3⟩
  · have e : overN L = overF L L 0 := rfl
    omega
  · have e : overN L = overF L L 0 := rfl
    rw [e]
    rcases Int.lt_or_le (S[4]).f1 x.f1 with c | c
    · exfalso
      have h0 : (S.drop 4).countP (fun y => decide (y.f1 ≥ x.f1)) = 0 := by
        rw [List.countP_eq_zero]
        intro y hy
        obtain ⟨i, hi, rfl⟩ := List.mem_iff_getElem.1 hy
        rw [List.length_drop] at hi
        rw [List.getElem_drop]
        have := hle (4 + i) (by omega) (by omega)
        simp
        omega
      have h5 : cntGe L x.f1 = (S.take 4).countP (fun y => decide (y.f1 ≥ x.f1)) + (S.drop 4).countP (fun y => decide (y.f1 ≥ x.f1)) := by
        unfold cntGe
        rw [← hp.countP_eq, ← List.countP_append, List.take_append_drop]
      have h6 := List.countP_le_length (p := fun y : S54 => decide (y.f1 ≥ x.f1)) (l := S.take 4)
      rw [List.length_take] at h6
      omega
    · omega

/-! #### what is left -/
theorem less_zero : ∀ {l : List S54}, (∀ y ∈ l, 1 ≤ y.f1) → lessN 0 l = l
  | [], _ => rfl
  | x :: l, h => by
    have hx := h x List.mem_cons_self
    show (if x.f1 > 0 then (⟨x.f0, x.f1 - 0⟩ : S54) :: lessN 0 l else lessN 0 l) = x :: l
    rw [if_pos (by omega), less_zero (fun y hy => h y (List.mem_cons_of_mem _ hy)), Int.sub_zero]
theorem less_up (n : Int) : ∀ {l : List S54} {b : Int}, Up b l → Up b (lessN n l)
  | [], b, _ => up_nil b
  | x :: l, b, h => by
    obtain ⟨h1, h2, h3⟩ := up_cons.1 h
    have ih := less_up n h3
    show Up b (if x.f1 > n then (⟨x.f0, x.f1 - n⟩ : S54) :: lessN n l else lessN n l)
    split
    · exact up_cons.2 ⟨h1, by show 1 ≤ x.f1 - n; omega, ih⟩
    · exact ⟨fun y hy => ⟨by have := (ih.1 y hy).1; omega, (ih.1 y hy).2⟩, ih.2⟩
theorem less_mem (n : Int) : ∀ {l : List S54} (m : Int), 0 ≤ n → (∀ y ∈ l, y.f0 ≤ 63 ∧ y.f1 ≤ m) → ∀ y ∈ lessN n l, y.f0 ≤ 63 ∧ y.f1 ≤ m
  | [], _, _, _, y, hy => by cases hy
  | x :: l, m, h0, h, y, hy => by
    have hx := h x List.mem_cons_self
    have ih := less_mem n (l := l) m h0 (fun y hy => h y (List.mem_cons_of_mem _ hy))
    have e : lessN n (x :: l) = if x.f1 > n then (⟨x.f0, x.f1 - n⟩ : S54) :: lessN n l else lessN n l := rfl
    rw [e] at hy
    split at hy
    · rcases List.mem_cons.1 hy with rfl | hy
      · exact ⟨hx.1, by show x.f1 - n ≤ m; omega⟩
      · exact ih y hy
    · exact ih y hy
theorem less_num (n t : Int) (h0 : 0 ≤ n) : ∀ {l : List S54} {b : Int}, Up b l → numOf t (lessN n l) = if numOf t l > n then numOf t l - n else 0
  | [], _, _ => by show (0 : Int) = if (0 : Int) > n then _ else 0; rw [if_neg (by omega)]
  | x :: l, b, h => by
    obtain ⟨h1, h2, h3⟩ := up_cons.1 h
    have ih := less_num n t h0 h3
    have e : lessN n (x :: l) = if x.f1 > n then (⟨x.f0, x.f1 - n⟩ : S54) :: lessN n l else lessN n l := rfl
    have en : numOf t (x :: l) = if x.f0 = t then x.f1 else numOf t l := rfl
    rw [e, en]
    by_cases c : x.f1 > n
    · rw [if_pos c]
      show (if x.f0 = t then x.f1 - n else numOf t (lessN n l)) = _
      by_cases d : x.f0 = t
      · rw [if_pos d, if_pos d, if_pos c]
      · rw [if_neg d, if_neg d, ih]
    · rw [if_neg c]
      by_cases d : x.f0 = t
      · rw [if_pos d, if_neg c, ih]
        have : numOf t l = 0 := by rw [numOf_tot t h3, totN_below t h3 (by omega)]
        rw [this, if_neg (by omega)]
      · rw [if_neg d, ih]
theorem less_sum (n : Int) (h0 : 0 ≤ n) : ∀ (l : List S54), (∀ y ∈ l, 0 ≤ y.f1) → sumN (lessN n l) + n * (l.countP (fun y => decide (y.f1 ≥ n)) : Int) ≤ sumN l
  | [], _ => by simp [lessN, sumN]
  | x :: l, h => by
    have ih := less_sum n h0 l (fun y hy => h y (List.mem_cons_of_mem _ hy))
    have hx := h x List.mem_cons_self
    have e : lessN n (x :: l) = if x.f1 > n then (⟨x.f0, x.f1 - n⟩ : S54) :: lessN n l else lessN n l := rfl
    rw [e, List.countP_cons]
    show _ ≤ x.f1 + sumN l
    by_cases c : x.f1 > n
    · rw [if_pos c, if_pos (decide_eq_true (show x.f1 ≥ n by omega))]
      show x.f1 - n + sumN (lessN n l) + n * ((l.countP _ + 1 : Nat) : Int) ≤ _
      rw [Int.natCast_add, Int.mul_add]
      simp only [Int.natCast_one, Int.mul_one]
      omega
    · rw [if_neg c]
      by_cases d : x.f1 ≥ n
      · rw [if_pos (decide_eq_true d), Int.natCast_add, Int.mul_add]
        simp only [Int.natCast_one, Int.mul_one]
        omega
      · rw [if_neg (by simpa using d), Nat.add_zero]
        omega
theorem less_len (n : Int) : ∀ (l : List S54), (lessN n l).length + l.countP (fun y => decide (y.f1 ≤ n)) = l.length
  | [] => rfl
  | x :: l => by
    have ih := less_len n l
    have e : lessN n (x :: l) = if x.f1 > n then (⟨x.f0, x.f1 - n⟩ : S54) :: lessN n l else lessN n l := rfl
    rw [e, List.countP_cons, List.length_cons]
    by_cases c : x.f1 > n
    · rw [if_pos c, if_neg (by simp; omega), List.length_cons]
      omega
    · rw [if_neg c, if_pos (decide_eq_true (show x.f1 ≤ n by omega))]
      omega
/-- A cut row: at most four are left; five times what is taken of each was there. -/
theorem cut_facts {L : List S54} {b : Int} (hu : Up b L) : 0 ≤ overN L ∧ (lessN (overN L) L).length ≤ 4 ∧ sumN (lessN (overN L) L) + 5 * overN L ≤ sumN L := by
  have hpos : ∀ y ∈ L, 0 ≤ y.f1 := fun y hy => by have := (hu.1 y hy).2; omega
  have h1 : ∀ y ∈ L, 1 ≤ y.f1 := fun y hy => (hu.1 y hy).2
  by_cases c : L.length ≤ 4
  · rw [over_few c, less_zero h1]
    exact ⟨Int.le_refl _, c, by omega⟩
  · have hp := sort_perm swo_N L
    have hd := sortN_desc L
    have hl := sortL_len swo_N L
    generalize sortL cmpN L = S at hp hd hl
    have h4 : 4 < S.length := by omega
    have ho := over_fifth hp hd h1 h4
    have hle : ∀ i (hi : i < S.length), 4 ≤ i → (S[i]).f1 ≤ (S[4]).f1 := by
      intro i hi h
      rcases Nat.lt_or_eq_of_le h with h | rfl
      · exact List.pairwise_iff_getElem.1 hd 4 i h4 hi h
      · exact Int.le_refl _
    have hge : ∀ i (hi : i < S.length), i ≤ 4 → (S[4]).f1 ≤ (S[i]).f1 := by
      intro i hi h
      rcases Nat.lt_or_eq_of_le h with h | rfl
      · exact List.pairwise_iff_getElem.1 hd i 4 hi h4 h
      · exact Int.le_refl _
    rw [ho]
    have hv := h1 _ (hp.mem_iff.1 (List.getElem_mem h4))
    generalize hvv : (S[4]).f1 = v at *
    refine ⟨by omega, ?_, ?_⟩
    · have h5 := less_len v L
      have h6 : L.countP (fun y => decide (y.f1 ≤ v)) = (S.take 4).countP (fun y => decide (y.f1 ≤ v)) + (S.drop 4).countP (fun y => decide (y.f1 ≤ v)) := by
        rw [← hp.countP_eq, ← List.countP_append, List.take_append_drop]
      have h7 : (S.drop 4).countP (fun y => decide (y.f1 ≤ v)) = (S.drop 4).length := by
        rw [List.countP_eq_length]
        intro y hy
        obtain ⟨i, hi, rfl⟩ := List.mem_iff_getElem.1 hy
        rw [List.length_drop] at hi
        rw [List.getElem_drop]
        exact decide_eq_true (hle (4 + i) (by omega) (by omega))
      rw [List.length_drop] at h7
      omega
    · have h5 := less_sum v (by omega) L hpos
      have h6 : L.countP (fun y => decide (y.f1 ≥ v)) = (S.take 5).countP (fun y => decide (y.f1 ≥ v)) + (S.drop 5).countP (fun y => decide (y.f1 ≥ v)) := by
        rw [← hp.countP_eq, ← List.countP_append, List.take_append_drop]
      have h7 : (S.take 5).countP (fun y => decide (y.f1 ≥ v)) = (S.take 5).length := by
        rw [List.countP_eq_length]
        intro y hy
        obtain ⟨i, hi, rfl⟩ := List.mem_iff_getElem.1 hy
        rw [List.length_take] at hi
        rw [List.getElem_take]
        exact decide_eq_true (hge i (by omega) (by omega))
      rw [List.length_take] at h7
      have h8 : 5 ≤ L.countP (fun y => decide (y.f1 ≥ v)) := by omega
      have h9 : v * 5 ≤ v * (L.countP (fun y => decide (y.f1 ≥ v)) : Int) := Int.mul_le_mul_of_nonneg_left (by omega) (by omega)
      omega

end Go.Proofs.Ytlobnnakikgcnaa.Ev

/- The program's bothPairs, cutTop, topSum, TopAdd, TopJoin, the reference's TopJoin: what they tell. Conditions: those that the functions' own test of form gives. -/
namespace Go.Proofs.Ytlobnnakikgcnaa.Ev
open Go.RowKit Go.Proofs.YtlobnnakikgcnaaW.PrintWords Go.Proofs.YtlobnnakikgcnaaW.PrintLast Go.Proofs.Ytlobnnakikgcnaa.PA Go.Proofs.Ytlobnnakikgcnaa.H
set_option linter.unusedVariables false

theorem both_l0 (L : List S54) (hL : L.length ≤ 12) (hs : ∀ y ∈ L, 0 ≤ y.f1 ∧ y.f1 ≤ 2000) : ∀ (suf pre out : List S54), pre ++ suf = L → out.length ≤ pre.length → (∀ y ∈ out, 0 ≤ y.f1 ∧ y.f1 ≤ 2000 * (pre.length : Int)) →
    EV (fun k => impl_bothPairs.l0 k out L (L.length : Int) (pre.length : Int)) (merge suf out) := by
  intro suf
  induction suf with
  | nil =>
    intro pre out e _ _
    obtain rfl : pre = L := by simpa using e
    refine EV.succ ?_
    simp only [impl_bothPairs.l0, if_neg (show ¬ (pre.length : Int) < (pre.length : Int) by omega)]
    exact EV.pure _
  | cons x suf ih =>
    intro pre out e ho hb
    have hl : (L.length : Int) = pre.length + suf.length + 1 := by rw [← e]; exact len_mid _ _ _
    have hx : rd_T54 L (pre.length : Int) = x := by rw [← e]; exact rdS_mid _ _ _ _ rfl
    have hxs := hs x (by rw [← e]; simp)
    have hst : wrap64 ((pre.length : Int) + 1) = ((pre ++ [x]).length : Int) := by rw [len_snoc]; exact w64 (by omega) (by omega)
    have next : EV (fun k => impl_bothPairs.l0 k (push out x) L (L.length : Int) ((pre ++ [x]).length : Int)) (merge suf (push out x)) := by
      refine ih (pre ++ [x]) (push out x) (by rw [← app_mid]; exact e) ?_ ?_
      · rcases List.eq_nil_or_concat out with rfl | ⟨o, y, rfl⟩
        · rw [push_nil]
          simp
        · rw [List.concat_eq_append] at ho ⊢
          rw [push_snoc]
          simp only [List.length_append, List.length_singleton] at ho ⊢
          split <;> simp <;> omega
      · rw [len_snoc]
        rcases List.eq_nil_or_concat out with rfl | ⟨o, y, rfl⟩
        · rw [push_nil]
          intro z hz
          obtain rfl := List.mem_singleton.1 hz
          omega
        · rw [List.concat_eq_append] at hb ⊢
          rw [push_snoc]
          intro z hz
          have hy := hb y (by simp)
          split at hz
          · rcases List.mem_append.1 hz with hz | hz
            · have := hb z (List.mem_append_left _ hz)
              omega
            · obtain rfl := List.mem_singleton.1 hz
              show 0 ≤ y.f1 + x.f1 ∧ y.f1 + x.f1 ≤ _
              omega
          · rcases List.mem_append.1 hz with hz | hz
            · have := hb z hz
              omega
            · obtain rfl := List.mem_singleton.1 hz
              omega
    refine EV.succ ?_
    simp only [impl_bothPairs.l0, if_pos (show (pre.length : Int) < (L.length : Int) by omega), if_pos (show (0 : Int) ≤ (pre.length : Int) by omega), hx, hst]
    rcases List.eq_nil_or_concat out with rfl | ⟨o, y, rfl⟩
    · have hw : wrap64 ((([] : List S54).length : Int) - 1) = -1 := w64 (by decide) (by decide)
      simp only [hw, if_neg (show ¬ (-1 : Int) ≥ 0 by omega), if_pos (show ([] : List S54).length < 8796093022208 by decide)]
      exact next
    · rw [List.concat_eq_append] at ho hb next ⊢
      have hol : (o ++ [y]).length = o.length + 1 := by simp
      have hw : wrap64 (((o ++ [y]).length : Int) - 1) = (o.length : Int) := by rw [w64 (by omega) (by omega)]; omega
      have hy : rd_T54 (o ++ [y]) (o.length : Int) = y := rdS_mid o [] y _ rfl
      have hyb := hb y (by simp)
      rw [push_snoc] at next
      simp only [hw, if_pos (show (o.length : Int) ≥ 0 by omega), if_pos (show (o.length : Int) < ((o ++ [y]).length : Int) by omega), hy, Int.toNat_natCast, set_mid o [] y _ _ rfl]
      by_cases c : y.f0 = x.f0
      · simp only [if_pos c, w64 (x := y.f1 + x.f1) (by omega) (by omega)] at next ⊢
        rw [show merge (x :: suf) (o ++ [y]) = merge suf (push (o ++ [y]) x) from rfl, push_snoc, if_pos c]
        exact next
      · simp only [if_neg c, if_pos (show (o ++ [y]).length < 8796093022208 by omega)] at next ⊢
        rw [show merge (x :: suf) (o ++ [y]) = merge suf (push (o ++ [y]) x) from rfl, push_snoc, if_neg c]
        exact next
theorem impl_bothPairs_ev (l m : List S54) (hl : l.length ≤ 4) (hm : m.length ≤ 4) (bl : ∀ y ∈ l, 0 ≤ y.f1 ∧ y.f1 ≤ 2000) (bm : ∀ y ∈ m, 0 ≤ y.f1 ∧ y.f1 ≤ 2000) :
    EV (fun k => impl_bothPairs.f k l m) (merge (sortL cmpT (l ++ m)) []) := by
  unfold impl_bothPairs.f
  have hc : impl_Pair_46.f l m = some (l ++ m) := if_pos ⟨hl, hm⟩
  have hn : (l ++ m).length ≤ 12 := by rw [List.length_append]; omega
  have hs : ∀ k, impl_sortPairs.f k (l ++ m) 0 = some (sortL cmpT (l ++ m)) := fun k => by
    show sortP (l ++ m) 0 = _
    unfold sortP
    rw [if_pos hn, if_pos rfl]
  simp only [hc, Option.bind_some, hs]
  have hk := sortL_len swo_T (l ++ m)
  have hp := sort_perm swo_T (l ++ m)
  have h := both_l0 (sortL cmpT (l ++ m)) (by omega) (fun y hy => by
    rcases List.mem_append.1 (hp.mem_iff.1 hy) with h | h
    · exact bl y h
    · exact bm y h) (sortL cmpT (l ++ m)) [] [] rfl (Nat.le_refl _) (fun y hy => by cases hy)
  rw [hk] at h
  exact h
theorem cut_l0 (L : List S54) (hL : L.length ≤ 12) (v lost all : Int) (hv : 0 ≤ v ∧ v ≤ 1000000) (hlost : 0 ≤ lost ∧ lost ≤ 1000000) (hs : ∀ y ∈ L, 0 ≤ y.f1 ∧ y.f1 ≤ 1000000) (l : List S54) : ∀ (suf pre out : List S54), pre ++ suf = L → out.length ≤ pre.length →
    EV (fun k => impl_cutTop.l0 k v out L (L.length : Int) (pre.length : Int) l lost all) (out ++ lessN v suf, lost + v, all) := by
  intro suf
  induction suf with
  | nil =>
    intro pre out e _
    obtain rfl : pre = L := by simpa using e
    refine EV.succ ?_
    simp only [impl_cutTop.l0, if_neg (show ¬ (pre.length : Int) < (pre.length : Int) by omega), w64 (x := lost + v) (by omega) (by omega)]
    exact (EV.pure _).cast (by simp [lessN])
  | cons x suf ih =>
    intro pre out e ho
    have hl : (L.length : Int) = pre.length + suf.length + 1 := by rw [← e]; exact len_mid _ _ _
    have hx : rd_T54 L (pre.length : Int) = x := by rw [← e]; exact rdS_mid _ _ _ _ rfl
    have hxs := hs x (by rw [← e]; simp)
    have hst : wrap64 ((pre.length : Int) + 1) = ((pre ++ [x]).length : Int) := by rw [len_snoc]; exact w64 (by omega) (by omega)
    have hpl : (pre ++ [x]).length = pre.length + 1 := by simp
    have el : lessN v (x :: suf) = if x.f1 > v then (⟨x.f0, x.f1 - v⟩ : S54) :: lessN v suf else lessN v suf := rfl
    refine EV.succ ?_
    simp only [impl_cutTop.l0, if_pos (show (pre.length : Int) < (L.length : Int) by omega), if_pos (show (0 : Int) ≤ (pre.length : Int) by omega), hx, hst]
    by_cases c : x.f1 > v
    · simp only [if_pos c, if_pos (show out.length < 8796093022208 by omega), w64 (x := x.f1 - v) (by omega) (by omega)]
      refine (ih (pre ++ [x]) (out ++ [(⟨x.f0, x.f1 - v⟩ : S54)]) (by rw [← app_mid]; exact e) (by simp; omega)).cast ?_
      rw [el, if_pos c, List.append_assoc]
      rfl
    · simp only [if_neg c]
      refine (ih (pre ++ [x]) out (by rw [← app_mid]; exact e) (by omega)).cast ?_
      rw [el, if_neg c]
theorem impl_cutTop_ev {L : List S54} {b : Int} (hu : Up b L) (hL : L.length ≤ 8) (lost all : Int) (hlost : 0 ≤ lost ∧ lost ≤ 1000000) (hs : ∀ y ∈ L, y.f1 ≤ 1000000) : EV (fun k => impl_cutTop.f k L lost all) (topCut L lost all) := by
  have h1 : ∀ y ∈ L, 1 ≤ y.f1 := fun y hy => (hu.1 y hy).2
  have h2 : ∀ y ∈ L, 0 ≤ y.f1 ∧ y.f1 ≤ 1000000 := fun y hy => ⟨by have := h1 y hy; omega, hs y hy⟩
  unfold impl_cutTop.f topCut
  by_cases c : L.length ≤ 4
  · simp only [if_pos (show (L.length : Int) ≤ 4 by omega)]
    rw [over_few c, less_zero h1, Int.add_zero]
    exact EV.pure _
  · simp only [if_neg (show ¬ (L.length : Int) ≤ 4 by omega)]
    have hc : impl_Pair_44.f L = some L := if_pos (by omega)
    have hsort : ∀ k, impl_sortPairs.f k L 1 = some (sortL cmpN L) := fun k => by
      show sortP L 1 = _
      unfold sortP
      rw [if_pos (by omega), if_neg (by decide), if_pos rfl]
    simp only [hc, Option.bind_some, hsort, if_pos (show (4 : Int) < (L.length : Int) by omega)]
    have hk := sortL_len swo_N L
    have h4 : 4 < (sortL cmpN L).length := by omega
    have ho := over_fifth (sort_perm swo_N L) (sortN_desc L) h1 h4
    have hr : (rd_T54 (sortL cmpN L) 4).f1 = overN L := by
      rw [ho]
      unfold rd_T54
      rw [show (4 : Int).toNat = 4 from rfl, List.getD_eq_getElem?_getD, List.getElem?_eq_getElem h4]
      rfl
    rw [hr]
    have hm : (sortL cmpN L)[4] ∈ L := (sort_perm swo_N L).mem_iff.1 (List.getElem_mem h4)
    have hv := h2 _ hm
    rw [← ho] at hv
    exact cut_l0 L (by omega) (overN L) lost all hv hlost h2 L L [] [] rfl (Nat.le_refl _)
theorem f1_sum : ∀ {l : List S54} {b : Int}, Up b l → (∀ y ∈ l, y.f1 ≤ sumN l) ∧ 0 ≤ sumN l
  | [], _, _ => ⟨(fun y hy => by cases hy), Int.le_refl 0⟩
  | x :: l, b, h => by
    obtain ⟨h1, h2, h3⟩ := up_cons.1 h
    obtain ⟨i1, i2⟩ := f1_sum h3
    have e : sumN (x :: l) = x.f1 + sumN l := rfl
    refine ⟨fun y hy => ?_, by omega⟩
    rcases List.mem_cons.1 hy with rfl | hy
    · omega
    · have := i1 y hy
      omega
theorem ord_mem : ∀ {l : List S54} {b : Int}, ordB b l = true → ∀ y ∈ l, y.f0 ≤ 63 ∧ y.f1 ≤ 2000
  | [], _, _, y, hy => by cases hy
  | x :: l, b, h, y, hy => by
    obtain ⟨h1, h2⟩ := ord_cons.1 h
    rcases List.mem_cons.1 hy with rfl | hy
    · exact ⟨h1.2.1, h1.2.2.2⟩
    · exact ord_mem h2 y hy
theorem topSum_ev {l m : List S54} {lost all lost' all' : Int} (hl : Up (-1) l) (hm : Up (-1) m) (nl : l.length ≤ 4) (nm : m.length ≤ 4) (bl : ∀ y ∈ l, y.f1 ≤ 2000) (bm : ∀ y ∈ m, y.f1 ≤ 2000)
    (k0 : 0 ≤ lost ∧ lost ≤ 2000) (k1 : 0 ≤ lost' ∧ lost' ≤ 2000) (a0 : 0 ≤ all ∧ all ≤ 2000) (a1 : 0 ≤ all' ∧ all' ≤ 2000) (s0 : sumN l ≤ 2000) (s1 : sumN m ≤ 2000) :
    EV (fun k => impl_topSum.f k l lost all m lost' all') (topCut (joinL l m) (lost + lost') (all + all')) := by
  unfold impl_topSum.f
  have pos : ∀ {x : List S54}, Up (-1) x → ∀ y ∈ x, 0 ≤ y.f1 := fun h y hy => by have := (h.1 y hy).2; omega
  have hb := impl_bothPairs_ev l m nl nm (fun y hy => ⟨pos hl y hy, bl y hy⟩) (fun y hy => ⟨pos hm y hy, bm y hy⟩)
  rw [merge_join hl hm] at hb
  have hj := joinL_up hl hm.1
  have hn := joinL_len m l
  have hsum := joinL_sum m l
  have hf := f1_sum hj
  refine EV.bind hb ?_
  simp only [w64 (x := lost + lost') (by omega) (by omega), w64 (x := all + all') (by omega) (by omega)]
  refine EV.bind (impl_cutTop_ev hj (by omega) (lost + lost') (all + all') (by omega) (fun y hy => by have := hf.1 y hy; omega)) ?_
  exact EV.pure _
theorem topB_up {l : List S54} {lost all : Int} (h : topB l lost all = true) : Up (-1) l ∧ l.length ≤ 4 ∧ (∀ y ∈ l, y.f0 ≤ 63 ∧ y.f1 ≤ 2000) ∧ (0 ≤ lost ∧ lost ≤ 2000) ∧ (0 ≤ all ∧ all ≤ 2000) ∧ sumN l + 5 * lost ≤ all ∧ 0 ≤ sumN l := by
  obtain ⟨⟨c1, c2, c3, c4, c5⟩, o, s⟩ := topB_iff.1 h
  have u := ord_up o
  exact ⟨u, c1, ord_mem o, ⟨c2, c3⟩, ⟨c4, c5⟩, s, (f1_sum u).2⟩
theorem thing_eqF (a : Int) : impl_isThing.f a = some (decide (0 ≤ a ∧ a ≤ 63)) := thing_eqT a
theorem impl_TopAdd_ev (l : List S54) (lost all t : Int) : EV (fun k => impl_TopAdd.f k l lost all t) (topAdd l lost all t) := by
  unfold impl_TopAdd.f topAdd
  refine EV.bind (impl_TopOk_ev l lost all) ?_
  by_cases c : topB l lost all = true
  · obtain ⟨u, n, bm, hlost, hall, hs, hs0⟩ := topB_up c
    simp only [if_pos c, thing_eqF, Option.bind_some]
    by_cases d : 0 ≤ t ∧ t ≤ 63
    · simp only [decide_eq_true d, if_true]
      by_cases e : all = 2000
      · simp only [if_pos e]
        rw [if_neg (by omega)]
        exact EV.pure _
      · simp only [if_neg e]
        rw [if_pos ⟨c, d.1, d.2, by omega⟩]
        have hm : Up (-1) [(⟨t, 1⟩ : S54)] := up_cons.2 ⟨by show -1 < t; omega, by show (1 : Int) ≤ 1; omega, up_nil _⟩
        have h := topSum_ev (lost := lost) (all := all) (lost' := 0) (all' := 1) u hm n (by simp) (fun y hy => (bm y hy).2) (fun y hy => by obtain rfl := List.mem_singleton.1 hy; show (1 : Int) ≤ 2000; omega) hlost (by omega) hall (by omega) (by omega) (by show (1 : Int) + 0 ≤ 2000; omega)
        refine EV.bind h ?_
        rw [show joinL l [(⟨t, 1⟩ : S54)] = putP ⟨t, 1⟩ l from rfl, Int.add_zero]
        exact EV.pure _
    · simp only [decide_eq_false d, Bool.false_eq_true, if_false]
      rw [if_neg (fun g => d ⟨g.2.1, g.2.2.1⟩)]
      exact EV.pure _
  · simp only [if_neg c]
    rw [if_neg (fun g => c g.1)]
    exact EV.pure _
def topJoin (l : List S54) (lost all : Int) (m : List S54) (lost' all' : Int) : List S54 × Int × Int × Bool :=
  if topB l lost all = true ∧ topB m lost' all' = true ∧ all + all' ≤ 2000 then ((topCut (joinL l m) (lost + lost') (all + all')).1, (topCut (joinL l m) (lost + lost') (all + all')).2.1, all + all', true) else ([], 0, 0, false)
theorem impl_TopJoin_ev (l : List S54) (lost all : Int) (m : List S54) (lost' all' : Int) : EV (fun k => impl_TopJoin.f k l lost all m lost' all') (topJoin l lost all m lost' all') := by
  unfold impl_TopJoin.f topJoin
  refine EV.bind (impl_TopOk_ev l lost all) ?_
  by_cases c : topB l lost all = true
  · obtain ⟨u, n, bm, hlost, hall, hs, hs0⟩ := topB_up c
    simp only [if_pos c]
    refine EV.bind (impl_TopOk_ev m lost' all') ?_
    by_cases c' : topB m lost' all' = true
    · obtain ⟨u', n', bm', hlost', hall', hs', hs0'⟩ := topB_up c'
      simp only [if_pos c', w64 (x := all + all') (by omega) (by omega)]
      by_cases e : all + all' > 2000
      · simp only [if_pos e]
        rw [if_neg (by omega)]
        exact EV.pure _
      · simp only [if_neg e]
        rw [if_pos ⟨c, c', by omega⟩]
        refine EV.bind (topSum_ev u u' n n' (fun y hy => (bm y hy).2) (fun y hy => (bm' y hy).2) hlost hlost' hall hall' (by omega) (by omega)) ?_
        exact EV.pure _
    · simp only [if_neg c']
      rw [if_neg (fun g => c' g.2.1)]
      exact EV.pure _
  · simp only [if_neg c]
    rw [if_neg (fun g => c g.1)]
    exact EV.pure _
theorem join_small {l m : List S54} (hl : Up (-1) l) (hm : ∀ p ∈ m, -1 < p.f0 ∧ 1 ≤ p.f1) (nl : l.length ≤ 4) (nm : m.length ≤ 4) (s0 : sumN l ≤ 2000) (s1 : sumN m ≤ 2000) : Small (joinL l m) := by
  have hj := joinL_up hl hm
  have hn := joinL_len m l
  have hsum := joinL_sum m l
  have hf := f1_sum hj
  exact ⟨by omega, fun y hy => by have := hf.1 y hy; have := (hj.1 y hy).2; omega⟩
theorem sjoin_l0 {l m : List S54} {lost all lost' all' : Int} (hl : Up (-1) l) (hm : Up (-1) m) (nl : l.length ≤ 4) (nm : m.length ≤ 4) (k0 : 0 ≤ lost ∧ lost ≤ 2000) (k1 : 0 ≤ lost' ∧ lost' ≤ 2000) (a0 : 0 ≤ all ∧ all ≤ 2000) (a1 : 0 ≤ all' ∧ all' ≤ 2000) (s0 : sumN l ≤ 2000) (s1 : sumN m ≤ 2000) :
    ∀ (suf pre : List S54), pre ++ suf = m → EV (fun k => spec_TopJoin.l0 k (joinL l pre) (pre.length : Int) l lost all m lost' all') ((topCut (joinL l m) (lost + lost') (all + all')).1, (topCut (joinL l m) (lost + lost') (all + all')).2.1, all + all', true) := by
  intro suf
  induction suf with
  | nil =>
    intro pre e
    obtain rfl : pre = m := by simpa using e
    refine EV.succ ?_
    simp only [spec_TopJoin.l0, if_neg (show ¬ (pre.length : Int) < (pre.length : Int) by omega), w64 (x := lost + lost') (by omega) (by omega), w64 (x := all + all') (by omega) (by omega)]
    refine EV.bind (l3Cut_ev _ (lost + lost') (all + all') (join_small hl hm.1 nl nm s0 s1) (by omega) (by omega)) ?_
    exact EV.pure _
  | cons x suf ih =>
    intro pre e
    have hlen : (m.length : Int) = pre.length + suf.length + 1 := by rw [← e]; exact len_mid _ _ _
    have hx : rd_T54 m (pre.length : Int) = x := by rw [← e]; exact rdS_mid _ _ _ _ rfl
    have hst : wrap64 ((pre.length : Int) + 1) = ((pre ++ [x]).length : Int) := by rw [len_snoc]; exact w64 (by omega) (by omega)
    have hxm := hm.1 x (by rw [← e]; simp)
    have hxs := (f1_sum hm).1 x (by rw [← e]; simp)
    have hpre : ∀ p ∈ pre, -1 < p.f0 ∧ 1 ≤ p.f1 := fun p hp => hm.1 p (by rw [← e]; exact List.mem_append_left _ hp)
    have hsp : sumN pre ≤ 2000 := by
      have hsm : sumN m = sumN pre + sumN (x :: suf) := by rw [← e, sumN_app]
      have hu : Up (-1) (x :: suf) := ⟨fun y hy => hm.1 y (by rw [← e]; exact List.mem_append_right _ hy), by
        have := hm.2
        rw [← e] at this
        exact (List.pairwise_append.1 this).2.1⟩
      have := (f1_sum hu).2
      omega
    refine EV.succ ?_
    simp only [spec_TopJoin.l0, if_pos (show (pre.length : Int) < (m.length : Int) by omega), if_pos (show (0 : Int) ≤ (pre.length : Int) by omega), hx, hst]
    refine EV.bind (l3Put_ev (joinL l pre) x (join_small hl hpre nl (by omega) s0 hsp) (by omega)) ?_
    have := ih (pre ++ [x]) (by rw [← app_mid]; exact e)
    have hj : joinL l (pre ++ [x]) = putP x (joinL l pre) := by unfold joinL; rw [List.foldl_append]; rfl
    rw [hj] at this
    exact this
theorem spec_TopJoin_ev (l : List S54) (lost all : Int) (m : List S54) (lost' all' : Int) (h : l.length < 1125899906842624) (h' : m.length < 1125899906842624) : EV (fun k => spec_TopJoin.f k l lost all m lost' all') (topJoin l lost all m lost' all') := by
  unfold spec_TopJoin.f topJoin
  have stop : EV (fun k => spec_TopJoin.j0 k true l lost all m lost' all') ([], 0, 0, false) := by
    refine EV.succ ?_
    simp only [spec_TopJoin.j0, if_true]
    exact EV.pure _
  refine EV.bind (spec_TopOk_ev l lost all h) ?_
  by_cases c : topB l lost all = true
  · obtain ⟨u, n, bm, hlost, hall, hs, hs0⟩ := topB_up c
    simp only [if_pos c]
    refine EV.bind (spec_TopOk_ev m lost' all' h') ?_
    by_cases c' : topB m lost' all' = true
    · obtain ⟨u', n', bm', hlost', hall', hs', hs0'⟩ := topB_up c'
      simp only [if_pos c', w64 (x := all + all') (by omega) (by omega)]
      by_cases e : all + all' > 2000
      · simp only [decide_eq_true e]
        rw [if_neg (by omega)]
        exact stop
      · simp only [decide_eq_false e]
        rw [if_pos ⟨c, c', by omega⟩]
        refine EV.succ ?_
        simp only [spec_TopJoin.j0, Bool.false_eq_true, if_false, Option.bind_some, if_pos (show ([] : List S54).length + l.length < 8796093022208 by simp; omega), List.nil_append]
        exact sjoin_l0 u u' n n' hlost hlost' hall hall' (by omega) (by omega) m [] rfl
    · simp only [if_neg c']
      rw [if_neg (fun g => c' g.2.1)]
      exact stop
  · simp only [if_neg c]
    rw [if_neg (fun g => c g.1)]
    exact stop
/-- What is cut is in form again. -/
theorem cut_ok {L : List S54} {lost all : Int} (hu : Up (-1) L) (h63 : ∀ y ∈ L, y.f0 ≤ 63) (hlost : 0 ≤ lost) (hall : 0 ≤ all ∧ all ≤ 2000) (hs : sumN L + 5 * lost ≤ all) : topB (lessN (overN L) L) (lost + overN L) all = true := by
  obtain ⟨h0, h4, h5⟩ := cut_facts hu
  have hf := f1_sum hu
  have hul := less_up (overN L) hu
  have hfl := f1_sum hul
  have hm := less_mem (overN L) (l := L) 2000 h0 (fun y hy => ⟨h63 y hy, by have := hf.1 y hy; omega⟩)
  exact topB_iff.2 ⟨⟨h4, by omega, by omega, hall.1, hall.2⟩, up_ord hul hm, by omega⟩

end Go.Proofs.Ytlobnnakikgcnaa.Ev

/- Marking and holding of rows of pairs in an exact law: what was marked from k0 on, two numbers a pair, is held. Conditions: at most 2^32 pairs, numbers below 2^60. -/
namespace Go.Proofs.Ytlobnnakikgcnaa.Ev
open Go.RowKit Go.Proofs.YtlobnnakikgcnaaW.PrintWords Go.Proofs.YtlobnnakikgcnaaW.PrintLast Go.Proofs.Ytlobnnakikgcnaa.PA

/-- n pairs, numbered on from k. -/
def upP : Int → Nat → List S54
  | _, 0 => []
  | k, n + 1 => ⟨k, k + 1⟩ :: upP (k + 2) n
theorem upP_len : ∀ (n : Nat) (k : Int), (upP k n).length = n
  | 0, _ => rfl
  | n + 1, k => by
    show (upP (k + 2) n).length + 1 = n + 1
    rw [upP_len n]
theorem markP_l0 : ∀ (suf pre : List S54) (k0 : Int), pre.length + suf.length ≤ 4294967296 → 0 ≤ k0 → k0 + 2 * suf.length ≤ 1152921504606846976 →
    EV (fun k => laws_markPairS.l0 k (pre ++ suf) k0 (pre.length : Int)) (k0 + 2 * suf.length, pre ++ upP k0 suf.length) := by
  intro suf
  induction suf with
  | nil =>
    intro pre k0 _ _ _
    refine EV.succ ?_
    simp only [laws_markPairS.l0, List.append_nil, if_neg (show ¬ (pre.length : Int) < (pre.length : Int) by omega)]
    exact (EV.pure _).cast (by simp [upP])
  | cons x suf ih =>
    intro pre k0 h h0 h1
    simp only [List.length_cons] at h h1
    have hl : (((pre ++ x :: suf).length : Nat) : Int) = pre.length + suf.length + 1 := len_mid _ _ _
    have hst : ∀ y : S54, wrap64 ((pre.length : Int) + 1) = ((pre ++ [y]).length : Int) := fun y => by rw [len_snoc]; exact w64 (by omega) (by omega)
    have hk : wrap64 (k0 + 1) = k0 + 1 := w64 (by omega) (by omega)
    have hk2 : wrap64 (k0 + 1 + 1) = k0 + 2 := by rw [w64 (by omega) (by omega)]; omega
    have hpl : ∀ y : S54, (pre ++ [y]).length = pre.length + 1 := fun y => by simp
    have hy : ∀ y : S54, rd_T54 (pre ++ y :: suf) (pre.length : Int) = y := fun y => rdS_mid _ _ _ _ rfl
    refine EV.succ ?_
    simp only [laws_markPairS.l0, if_pos (show (pre.length : Int) < ((pre ++ x :: suf).length : Int) by omega), if_pos (show (0 : Int) ≤ (pre.length : Int) by omega), Option.bind_some, Int.toNat_natCast, set_mid pre suf _ _ _ rfl, hy, hk, hk2]
    rw [app_mid pre suf (⟨k0, k0 + 1⟩ : S54), hst (⟨k0, k0 + 1⟩ : S54)]
    refine (ih (pre ++ [(⟨k0, k0 + 1⟩ : S54)]) (k0 + 2) (by have := hpl (⟨k0, k0 + 1⟩ : S54); omega) (by omega) (by omega)).cast ?_
    simp only [List.length_cons, upP, List.append_assoc, List.singleton_append, Prod.mk.injEq, and_true]
    omega
theorem markTop_ev (l : List S54) (x y k0 : Int) (h : l.length ≤ 4294967296) (h0 : 0 ≤ k0) (h1 : k0 + 2 * l.length ≤ 1152921504606846976) : EV (fun k => laws_markTop.f k l x y k0) (k0 + 2 * l.length, upP k0 l.length) := by
  unfold laws_markTop.f laws_markPairS.f
  refine EV.bind (markP_l0 l [] k0 (by simpa using h) h0 h1) ?_
  exact EV.pure _
theorem heldP_l0 : ∀ (n : Nat) (pre : List S54) (k0 : Int), pre.length + n ≤ 4294967296 → 0 ≤ k0 → k0 + 2 * n ≤ 1152921504606846976 →
    EV (fun k => laws_heldPairS.l0 k (pre ++ upP k0 n) k0 (pre.length : Int)) (k0 + 2 * n) := by
  intro n
  induction n with
  | zero =>
    intro pre k0 _ _ _
    refine EV.succ ?_
    simp only [upP, laws_heldPairS.l0, List.append_nil, if_neg (show ¬ (pre.length : Int) < (pre.length : Int) by omega)]
    exact (EV.pure _).cast (by simp)
  | succ n ih =>
    intro pre k0 h h0 h1
    have hl : (((pre ++ (⟨k0, k0 + 1⟩ : S54) :: upP (k0 + 2) n).length : Nat) : Int) = pre.length + (upP (k0 + 2) n).length + 1 := len_mid _ _ _
    rw [upP_len] at hl
    have hx : rd_T54 (pre ++ (⟨k0, k0 + 1⟩ : S54) :: upP (k0 + 2) n) (pre.length : Int) = ⟨k0, k0 + 1⟩ := rdS_mid _ _ _ _ rfl
    have hst : wrap64 ((pre.length : Int) + 1) = ((pre ++ [(⟨k0, k0 + 1⟩ : S54)]).length : Int) := by rw [len_snoc]; exact w64 (by omega) (by omega)
    have hk : wrap64 (k0 + 1) = k0 + 1 := w64 (by omega) (by omega)
    have hk2 : wrap64 (k0 + 1 + 1) = k0 + 2 := by rw [w64 (by omega) (by omega)]; omega
    have hpl : (pre ++ [(⟨k0, k0 + 1⟩ : S54)]).length = pre.length + 1 := by simp
    refine EV.succ ?_
    simp only [upP, laws_heldPairS.l0, hx, if_pos (show (pre.length : Int) < ((pre ++ (⟨k0, k0 + 1⟩ : S54) :: upP (k0 + 2) n).length : Int) by omega), if_pos (show (0 : Int) ≤ (pre.length : Int) by omega), hst, hk, hk2, if_true]
    rw [app_mid pre (upP (k0 + 2) n) (⟨k0, k0 + 1⟩ : S54)]
    refine (ih (pre ++ [(⟨k0, k0 + 1⟩ : S54)]) (k0 + 2) (by omega) (by omega) (by omega)).cast ?_
    omega
theorem heldTop_ev (n : Nat) (x y k0 : Int) (h : n ≤ 4294967296) (h0 : 0 ≤ k0) (h1 : k0 + 2 * n ≤ 1152921504606846976) : EV (fun k => laws_heldTop.f k (upP k0 n) x y k0) (k0 + 2 * n) := by
  unfold laws_heldTop.f laws_heldPairS.f
  refine EV.bind (heldP_l0 n [] k0 (by simpa using h) h0 h1) ?_
  simp only [if_neg (show ¬ k0 + 2 * (n : Int) < 0 by omega)]
  exact EV.pure _

end Go.Proofs.Ytlobnnakikgcnaa.Ev

/- FnExactTopJoin: the program's TopJoin tells what the reference's tells, of all two tops; what it told is its own. -/
namespace Go.Proofs.Ytlobnnakikgcnaa.Pure
open Go.RowKit Go.Proofs.Ytlobnnakikgcnaa.PA Go.Proofs.YtlobnnakikgcnaaW.PrintWords Go.Proofs.YtlobnnakikgcnaaW.PrintLast Go.Proofs.Ytlobnnakikgcnaa.Ev

theorem topJoin_len (l : List S54) (lost all : Int) (m : List S54) (lost' all' : Int) : (topJoin l lost all m lost' all').1.length ≤ 8 := by
  unfold topJoin
  split
  · rename_i h
    obtain ⟨c1, _⟩ := topB_iff.1 h.1
    obtain ⟨c2, _⟩ := topB_iff.1 h.2.1
    have h1 := lessN_len (overN (joinL l m)) (joinL l m)
    have h2 := joinL_len m l
    show (lessN (overN (joinL l m)) (joinL l m)).length ≤ 8
    omega
  · show (0 : Nat) ≤ 8
    omega
theorem FnExactTopJoin (l : List S70) (x y : Int) (m : List S70) (x' y' : Int) (hl : l.length ≤ 9223372036854775807) (hm : m.length ≤ 9223372036854775807) : ∃ k, laws_FnExactTopJoin.f k l x y m x' y' = some true := by
  refine EV.get ?_
  unfold laws_FnExactTopJoin.f
  rw [szTop_eq l x y 1048576 (by omega) (by omega) hl]
  simp only [Option.bind_some]
  by_cases c : (1048576 : Int) < l.length
  · simp only [if_pos c, if_pos (show (-1 : Int) < 0 by omega)]
    exact EV.pure _
  simp only [if_neg c, if_neg (show ¬ (1048576 : Int) - l.length < 0 by omega)]
  rw [szTop_eq m x' y' (1048576 - l.length) (by omega) (by omega) hm]
  simp only [Option.bind_some]
  by_cases d : (1048576 : Int) - l.length < m.length
  · simp only [if_pos d, if_pos (show (-1 : Int) < 0 by omega)]
    exact EV.pure _
  simp only [if_neg d, if_neg (show ¬ (1048576 : Int) - l.length - m.length < 0 by omega)]
  have hlm : (l.map toP).length = l.length := by simp
  have hmm : (m.map toP).length = m.length := by simp
  have t := toTop_ev l x y (by omega)
  have t' := toTop_ev m x' y' (by omega)
  generalize l.map toP = L at hlm t
  generalize m.map toP = M at hmm t'
  have hr := topJoin_len L x y M x' y'
  have sp := spec_TopJoin_ev L x y M x' y' (by omega) (by omega)
  have im := impl_TopJoin_ev L x y M x' y'
  generalize topJoin L x y M x' y' = R at hr sp im
  obtain ⟨w, w1, w2, told⟩ := R
  simp only at hr
  have ew := eqTop_ev w w1 w2 (by omega)
  have hd := heldTop_ev w.length w1 w2 1 (by omega) (by omega) (by omega)
  refine EV.bind t (EV.bind t' (EV.bind sp (EV.bind t (EV.bind t' (EV.bind im (EV.bind ew ?_))))))
  simp only [if_true, bne_self_eq_false]
  refine EV.succ ?_
  simp only [laws_FnExactTopJoin.j0, Bool.false_eq_true, if_false]
  refine EV.bind t (EV.bind (eqTop_ev L x y (by omega)) ?_)
  simp only [if_true]
  refine EV.bind t' (EV.bind (eqTop_ev M x' y' (by omega)) ?_)
  simp only [if_true]
  refine EV.bind (markTop_ev L x y 1 (by omega) (by omega) (by omega)) (EV.bind (markTop_ev M x' y' _ (by omega) (by simp only; omega) (by simp only; omega)) ?_)
  simp only [if_neg (show ¬ (1 : Int) + 2 * (L.length : Int) + 2 * (M.length : Int) < 0 by omega)]
  refine EV.bind ew ?_
  simp only [if_true, bne_self_eq_false]
  refine EV.succ ?_
  simp only [laws_FnExactTopJoin.j1, Bool.false_eq_true, if_false]
  refine EV.bind (markTop_ev w w1 w2 1 (by omega) (by omega) (by omega)) (EV.bind hd ?_)
  simp only [if_neg (show ¬ (1 : Int) + 2 * (w.length : Int) < 0 by omega), if_true]
  refine EV.bind t (EV.bind t' (EV.bind im (EV.bind ew ?_)))
  simp only [if_true, bne_self_eq_false]
  refine EV.succ ?_
  simp only [laws_FnExactTopJoin.j2, Bool.false_eq_true, if_false]
  refine EV.bind hd ?_
  simp only [if_neg (show ¬ (1 : Int) + 2 * (w.length : Int) < 0 by omega), if_true]
  exact EV.pure _

end Go.Proofs.Ytlobnnakikgcnaa.Pure
