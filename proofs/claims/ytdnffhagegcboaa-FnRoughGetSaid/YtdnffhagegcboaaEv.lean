/- Words for plain proofs about functions with a number of rounds: 'EV g r' says that with enough rounds g tells r, 'Tot g P' that with enough rounds g tells something of which P holds. No condition. -/
import Derived.Test.YtdnffhagegcboaaPAx0
namespace Go.Proofs.Ytdnffhagegcboaa.Ev
open Go.RowKit Go.Proofs.YtdnffhagegcboaaW.PrintWords Go.Proofs.YtdnffhagegcboaaW.PrintLast

def EV {α : Type} (g : Nat → Option α) (r : α) : Prop := ∃ n, ∀ k, n ≤ k → g k = some r
def Tot {α : Type} (g : Nat → Option α) (P : α → Prop) : Prop := ∃ r, EV g r ∧ P r

theorem EV.pure {α : Type} (r : α) : EV (fun _ => some r) r := ⟨0, fun _ _ => rfl⟩
theorem EV.succ {α : Type} {g : Nat → Option α} {r : α} (h : EV (fun k => g (k + 1)) r) : EV g r := by
  obtain ⟨n, h⟩ := h
  refine ⟨n + 1, fun k hk => ?_⟩
  obtain ⟨m, rfl⟩ : ∃ m, k = m + 1 := ⟨k - 1, by omega⟩
  exact h m (by omega)
theorem EV.bind {α β : Type} {g : Nat → Option α} {h : α → Nat → Option β} {a : α} {r : β} (hg : EV g a) (hh : EV (h a) r) :
    EV (fun k => (g k).bind fun x => h x k) r := by
  obtain ⟨n, hg⟩ := hg
  obtain ⟨m, hh⟩ := hh
  refine ⟨n + m, fun k hk => ?_⟩
  show (g k).bind (fun x => h x k) = some r
  rw [hg k (by omega)]
  exact hh k (by omega)
theorem EV.get {α : Type} {g : Nat → Option α} {r : α} (h : EV g r) : ∃ k, g k = some r := by
  obtain ⟨n, h⟩ := h
  exact ⟨n, h n (Nat.le_refl _)⟩
theorem EV.cast {α : Type} {g : Nat → Option α} {r s : α} (h : EV g r) (e : r = s) : EV g s := e ▸ h
theorem EV.of_mono {α : Type} {g : Nat → Option α} {r : α} (hm : ∀ k, LeO (g k) (g (k + 1))) (n : Nat) (h : g n = some r) : EV g r := by
  refine ⟨n, fun k hk => ?_⟩
  obtain ⟨d, rfl⟩ : ∃ d, k = n + d := ⟨k - n, by omega⟩
  clear hk
  induction d with
  | zero => exact h
  | succ d ih => exact hm (n + d) r ih
theorem EV.uniq {α : Type} {g : Nat → Option α} {r s : α} (h : EV g r) (h' : EV g s) : r = s := by
  obtain ⟨n, h⟩ := h
  obtain ⟨m, h'⟩ := h'
  have a := h (n + m) (by omega)
  have b := h' (n + m) (by omega)
  rw [a] at b
  exact Option.some.inj b
theorem Tot.pure {α : Type} {P : α → Prop} (r : α) (h : P r) : Tot (fun _ => some r) P := ⟨r, EV.pure r, h⟩
theorem Tot.of {α : Type} {g : Nat → Option α} {P : α → Prop} {r : α} (h : EV g r) (p : P r) : Tot g P := ⟨r, h, p⟩
theorem Tot.succ {α : Type} {g : Nat → Option α} {P : α → Prop} (h : Tot (fun k => g (k + 1)) P) : Tot g P := by
  obtain ⟨r, h, p⟩ := h
  exact ⟨r, EV.succ h, p⟩
theorem Tot.bind {α β : Type} {g : Nat → Option α} {h : α → Nat → Option β} {P : α → Prop} {Q : β → Prop} (hg : Tot g P) (hh : ∀ a, P a → Tot (h a) Q) :
    Tot (fun k => (g k).bind fun x => h x k) Q := by
  obtain ⟨a, hg, p⟩ := hg
  obtain ⟨r, hr, q⟩ := hh a p
  exact ⟨r, EV.bind hg hr, q⟩
theorem Tot.mono {α : Type} {g : Nat → Option α} {P Q : α → Prop} (h : Tot g P) (i : ∀ a, P a → Q a) : Tot g Q := by
  obtain ⟨r, h, p⟩ := h
  exact ⟨r, h, i r p⟩
/-- A law's last step: what is told is true. -/
theorem Tot.true {g : Nat → Option Bool} (h : Tot g (fun b => b = Bool.true)) : EV g Bool.true := by
  obtain ⟨r, h, rfl⟩ := h
  exact h

theorem w64 {x : Int} (h0 : -9223372036854775808 ≤ x) (h1 : x ≤ 9223372036854775807) : wrap64 x = x := by
  unfold wrap64
  omega
theorem wr1 : wrap64 (0 + 1) = 1 := by rw [w64 (by omega) (by omega)]; rfl
theorem wr2 : wrap64 (1 + 1) = 2 := by rw [w64 (by omega) (by omega)]; rfl
theorem wr3 : wrap64 (2 + 1) = 3 := by rw [w64 (by omega) (by omega)]; rfl
theorem tdiv8 {x : Int} (h : 0 ≤ x) : Int.tdiv x 8 = x / 8 := Int.tdiv_eq_ediv_of_nonneg h
theorem tdiv2 {x : Int} (h : 0 ≤ x) : Int.tdiv x 2 = x / 2 := Int.tdiv_eq_ediv_of_nonneg h
theorem rd_mid (pre suf : List Int) (x : Int) (i : Int) (h : i = (pre.length : Int)) : rd (pre ++ x :: suf) i = x := by
  subst h
  unfold rd
  rw [Int.toNat_natCast]
  simp [List.getD_eq_getElem?_getD]
theorem getD_mid {α : Type} (pre suf : List α) (x z : α) : (pre ++ x :: suf).getD pre.length z = x := by
  simp [List.getD_eq_getElem?_getD]
theorem len_mid {α : Type} (pre suf : List α) (x : α) : (((pre ++ x :: suf).length : Nat) : Int) = (pre.length : Int) + suf.length + 1 := by
  simp
  omega
theorem app_mid {α : Type} (pre suf : List α) (x : α) : pre ++ x :: suf = (pre ++ [x]) ++ suf := by simp
theorem len_snoc {α : Type} (pre : List α) (x : α) : (((pre ++ [x]).length : Nat) : Int) = (pre.length : Int) + 1 := by simp

theorem set_mid {α : Type} (pre suf : List α) (x y : α) (n : Nat) (h : n = pre.length) : (pre ++ x :: suf).set n y = pre ++ y :: suf := by
  subst h
  simp

end Go.Proofs.Ytdnffhagegcboaa.Ev
