/- Counting a thing so often: what the reference's RoughAdd tells. No condition. -/
import Derived.Test.YtdnffhagegcboaaRoughA
import Derived.Test.YtdnffhagegcboaaRoughP
import Derived.Test.YtdnffhagegcboaaPAx10
import Derived.Test.YtdnffhagegcboaaPAx13
import Derived.Test.YtdnffhagegcboaaPAx14
namespace Go.Proofs.Ytdnffhagegcboaa.Ev
open Go.RowKit Go.Proofs.YtdnffhagegcboaaW.PrintWords Go.Proofs.YtdnffhagegcboaaW.PrintLast Go.Proofs.Ytdnffhagegcboaa.PA

theorem set_sum : ∀ (p : List Int) (n : Nat) (v : Int), n < p.length → (p.set n v).sum = p.sum - p.getD n 0 + v
  | [], n, v, h => by simp at h
  | x :: p, 0, v, _ => by
    simp
    omega
  | x :: p, n + 1, v, h => by
    have ih := set_sum p n v (by simpa using h)
    simp only [List.set_cons_succ, List.sum_cons, List.getD_cons_succ]
    omega
theorem getD_sum : ∀ (p : List Int) (n : Nat), (∀ x ∈ p, 0 ≤ x ∧ x ≤ 2000) → 0 ≤ p.getD n 0 ∧ p.getD n 0 ≤ p.sum
  | [], n, _ => by simp
  | x :: p, 0, h => by
    have h0 := h x (by simp)
    have := (sum_bd p (fun y hy => h y (List.mem_cons_of_mem _ hy))).1
    simp
    omega
  | x :: p, n + 1, h => by
    have h0 := h x (by simp)
    have ih := getD_sum p n (fun y hy => h y (List.mem_cons_of_mem _ hy))
    simp only [List.sum_cons, List.getD_cons_succ]
    omega
/-- A row with a place so much greater. -/
def addRow (p : List Int) (k n : Int) : List Int := p.set k.toNat (rd p k + n)
theorem addRow_len (p : List Int) (k n : Int) : (addRow p k n).length = p.length := by unfold addRow; simp
theorem addRow_at {p : List Int} (h : rowB p = true) (k : Int) : 0 ≤ rd p k ∧ rd p k ≤ p.sum := getD_sum p k.toNat (rowB_iff.1 h).2
theorem addRow_ok {p : List Int} {k n : Int} (h : rowB p = true) (k0 : 0 ≤ k) (k1 : k < 8) (n0 : 0 ≤ n) (hs : p.sum + n ≤ 2000) : rowB (addRow p k n) = true ∧ (addRow p k n).sum = p.sum + n := by
  obtain ⟨h8, hm⟩ := rowB_iff.1 h
  have hk := addRow_at h k
  refine ⟨rowB_iff.2 ⟨by rw [addRow_len, h8], fun x hx => ?_⟩, ?_⟩
  · rcases List.mem_or_eq_of_mem_set hx with hx | rfl
    · exact hm x hx
    · omega
  · unfold addRow
    rw [set_sum p k.toNat _ (by omega)]
    unfold rd
    omega
def zero8 : List Int := List.replicate 8 0
def zeros : List (List Int) := [zero8, zero8, zero8]
theorem zero8_ok : rowB zero8 = true := by decide
theorem zeros_ok : roughB zeros = true := by decide
theorem spec_RoughNew_ev : EV (fun k => spec_RoughNew.f k) zeros := by
  refine ⟨4, fun k hk => ?_⟩
  obtain ⟨m, rfl⟩ : ∃ m, k = m + 4 := ⟨k - 4, by omega⟩
  show spec_RoughNew.l0 (m + 4) 0 [] = some zeros
  simp [spec_RoughNew.l0, wrap64, zeros, zero8, List.replicate]
theorem rdL_mid' (pre suf : List (List Int)) (x : List Int) (i : Int) (h : i = (pre.length : Int)) : rd_L1 (pre ++ x :: suf) i = x := by
  subst h
  unfold rd_L1
  rw [Int.toNat_natCast]
  simp [List.getD_eq_getElem?_getD]
theorem l1Copy_l0 (L : List (List Int)) (hL : L.length ≤ 1048576) (hi : ∀ x ∈ L, x.length ≤ 1048576) : ∀ (suf pre : List (List Int)), pre ++ suf = L → EV (fun k => spec_l1Copy.l0 k (pre.length : Int) L pre) L := by
  intro suf
  induction suf with
  | nil =>
    intro pre e
    obtain rfl : pre = L := by simpa using e
    refine EV.succ ?_
    simp only [spec_l1Copy.l0, if_neg (show ¬ (pre.length : Int) < (pre.length : Int) by omega)]
    exact EV.pure _
  | cons x suf ih =>
    intro pre e
    have hl : (L.length : Int) = pre.length + suf.length + 1 := by rw [← e]; exact len_mid _ _ _
    have hx : rd_L1 L (pre.length : Int) = x := by rw [← e]; exact rdL_mid' _ _ _ _ rfl
    have hxl : x.length ≤ 1048576 := hi x (by rw [← e]; simp)
    have hst : wrap64 ((pre.length : Int) + 1) = ((pre ++ [x]).length : Int) := by rw [len_snoc]; exact w64 (by omega) (by omega)
    refine EV.succ ?_
    simp only [spec_l1Copy.l0, hx, if_pos (show (pre.length : Int) < (L.length : Int) by omega), if_pos (show (0 : Int) ≤ (pre.length : Int) by omega), Option.bind_some, List.nil_append, hst,
      if_pos (show ([] : List Int).length + x.length < 17592186044416 by simp; omega), if_pos (show pre.length < 5864062014805 by omega)]
    exact ih (pre ++ [x]) (by rw [← app_mid]; exact e)
theorem l1Copy_ev (L : List (List Int)) (hL : L.length ≤ 1048576) (hi : ∀ x ∈ L, x.length ≤ 1048576) : EV (fun k => spec_l1Copy.f k L) L :=
  l1Copy_l0 L hL hi L [] rfl
theorem add_round {L : List (List Int)} {t n i : Int} {p : List Int} {R : List (List Int) × Bool} (i0 : 0 ≤ i) (i1 : i ≤ 2) (hL : L.length = 3) (t0 : 0 ≤ t) (t1 : t ≤ 63) (hp : rd_L1 L i = p) (hr : rowB p = true) (n0 : 0 ≤ n) (n1 : n ≤ 2000)
    (h : EV (fun k => spec_RoughAdd.l0 k t n (i + 1) (L.set i.toNat (addRow p (placeOf i t) n))) R) : EV (fun k => spec_RoughAdd.l0 k t n i L) R := by
  obtain ⟨q1, _, q3, q4⟩ := place_at i0 i1 t0 t1
  have h8 := (rowB_iff.1 hr).1
  have ha := addRow_at hr (placeOf i t)
  have hb := (sum_bd p (rowB_iff.1 hr).2).2
  rw [h8] at hb
  refine EV.succ ?_
  simp only [spec_RoughAdd.l0, if_pos (show i < 3 by omega), if_pos i0, if_pos (show i < (L.length : Int) by omega), q1, Option.bind_some, hp, if_pos q3, if_pos (show placeOf i t < (p.length : Int) by omega), w64 (x := i + 1) (by omega) (by omega), w64 (x := rd p (placeOf i t) + n) (by omega) (by omega)]
  exact h
/-- What RoughAdd tells. -/
def addL (L : List (List Int)) (t n : Int) : List (List Int) :=
  [addRow (L.getD 0 []) (placeOf 0 t) n, addRow (L.getD 1 []) (placeOf 1 t) n, addRow (L.getD 2 []) (placeOf 2 t) n]
def roughAdd (L : List (List Int)) (t n : Int) : List (List Int) × Bool :=
  if roughB L = true ∧ (0 ≤ t ∧ t ≤ 63) ∧ 0 ≤ n ∧ n ≤ 2000 - (L.headD []).sum then (addL L t n, true) else ([], false)
theorem addL_ok {L : List (List Int)} {t n : Int} (h : roughB L = true) (d : 0 ≤ t ∧ t ≤ 63) (n0 : 0 ≤ n) (n1 : n ≤ 2000 - (L.headD []).sum) : roughB (addL L t n) = true ∧ ((addL L t n).headD []).sum = (L.headD []).sum + n := by
  obtain ⟨a, b, c, rfl, ra, rb, rc, sb, sc, s0, s1⟩ := roughB_open h
  have n1' : n ≤ 2000 - a.sum := n1
  have p0 := place_at (i := 0) (by omega) (by omega) d.1 d.2
  have p1 := place_at (i := 1) (by omega) (by omega) d.1 d.2
  have p2 := place_at (i := 2) (by omega) (by omega) d.1 d.2
  have x0 := addRow_ok ra p0.2.2.1 p0.2.2.2 n0 (by omega)
  have x1 := addRow_ok rb p1.2.2.1 p1.2.2.2 n0 (by omega)
  have x2 := addRow_ok rc p2.2.2.1 p2.2.2.2 n0 (by omega)
  show roughB [addRow a (placeOf 0 t) n, addRow b (placeOf 1 t) n, addRow c (placeOf 2 t) n] = true ∧ (addRow a (placeOf 0 t) n).sum = a.sum + n
  exact ⟨roughB_iff.2 ⟨x0.1, x1.1, x2.1, by omega, by omega, by omega⟩, x0.2⟩
theorem spec_RoughAdd_ev (L : List (List Int)) (t n : Int) : EV (fun k => spec_RoughAdd.f k L t n) (roughAdd L t n) := by
  unfold spec_RoughAdd.f roughAdd
  have stop : EV (fun k => spec_RoughAdd.j0 k t n true L) ([], false) := by
    refine EV.succ ?_
    simp only [spec_RoughAdd.j0, if_true]
    exact EV.pure _
  refine EV.bind (spec_RoughOk_ev L) ?_
  by_cases h : roughB L = true
  · simp only [if_pos h, in_eq, Option.bind_some]
    by_cases d : 0 ≤ t ∧ t ≤ 63
    · obtain ⟨a, b, c, rfl, ra, rb, rc, sb, sc, s0, s1⟩ := roughB_open h
      simp only [decide_eq_true d, if_true, if_pos (show 0 < (([a, b, c] : List (List Int)).length : Int) by simp), show rd_L1 [a, b, c] 0 = a from rfl]
      refine EV.bind (l1Sum_row ra) ?_
      rw [w64 (x := 2000 - a.sum) (by omega) (by omega)]
      by_cases g : 0 ≤ n ∧ n ≤ 2000 - a.sum
      · simp only [decide_eq_true g, Bool.not_true]
        rw [if_pos ⟨h, d, g⟩]
        refine EV.succ ?_
        simp only [spec_RoughAdd.j0, Bool.false_eq_true, if_false]
        have l8 := (rowB_iff.1 ra).1
        have l8b := (rowB_iff.1 rb).1
        have l8c := (rowB_iff.1 rc).1
        refine EV.bind (l1Copy_ev [a, b, c] (by simp) (by intro x hx; simp at hx; rcases hx with rfl | rfl | rfl <;> omega)) ?_
        refine add_round (p := a) (by omega) (by omega) rfl d.1 d.2 rfl ra g.1 (by omega) ?_
        refine add_round (p := b) (by omega) (by omega) rfl d.1 d.2 rfl rb g.1 (by omega) ?_
        refine add_round (p := c) (by omega) (by omega) rfl d.1 d.2 rfl rc g.1 (by omega) ?_
        refine EV.succ ?_
        simp only [spec_RoughAdd.l0, show ((0 : Int) + 1 + 1 + 1) = 3 from rfl, if_neg (show ¬ (3 : Int) < 3 by omega)]
        exact EV.pure _
      · simp only [decide_eq_false g, Bool.not_false]
        rw [if_neg (fun q => g q.2.2)]
        exact stop
    · simp only [decide_eq_false d, Bool.false_eq_true, if_false]
      rw [if_neg (fun q => d q.2.1)]
      exact stop
  · simp only [if_neg h]
    rw [if_neg (fun q => h q.1)]
    exact stop

end Go.Proofs.Ytdnffhagegcboaa.Ev
