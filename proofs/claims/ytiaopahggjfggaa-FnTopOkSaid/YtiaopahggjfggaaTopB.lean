/- The reference's l3Put, l3Over, l3Less, l3Cut: plain functions over lists. Conditions: short lists, numbers below 2^20. -/
import Derived.Test.YtiaopahggjfggaaTopA
import Derived.Test.YtiaopahggjfggaaPAx55
import Derived.Test.YtiaopahggjfggaaPAx52
import Derived.Test.YtiaopahggjfggaaPAx53
import Derived.Test.YtiaopahggjfggaaPAx54
namespace Go.Proofs.Ytiaopahggjfggaa.Ev
open Go.RowKit Go.Proofs.YtiaopahggjfggaaW.PrintWords Go.Proofs.YtiaopahggjfggaaW.PrintLast Go.Proofs.Ytiaopahggjfggaa.PA

def Small (l : List S61) : Prop := l.length ≤ 1000 ∧ ∀ x ∈ l, 0 ≤ x.f1 ∧ x.f1 ≤ 1000000
def putP (x : S61) : List S61 → List S61
  | [] => [x]
  | y :: l => if y.f0 ≥ x.f0 then (if y.f0 = x.f0 then (⟨x.f0, x.f1 + y.f1⟩ : S61) :: l else x :: y :: l) else y :: putP x l
theorem putP_len (x : S61) : ∀ l : List S61, (putP x l).length ≤ l.length + 1
  | [] => by simp [putP]
  | y :: l => by
    have := putP_len x l
    unfold putP
    split
    · split <;> simp
    · simp only [List.length_cons]
      omega
theorem putP_small {x : S61} (hx : 0 ≤ x.f1 ∧ x.f1 ≤ 500000) : ∀ {l : List S61}, (∀ y ∈ l, 0 ≤ y.f1 ∧ y.f1 ≤ 500000) → ∀ y ∈ putP x l, 0 ≤ y.f1 ∧ y.f1 ≤ 1000000
  | [], _, y, hy => by
    obtain rfl : y = x := by simpa [putP] using hy
    omega
  | z :: l, h, y, hy => by
    have hz := h z (by simp)
    have hl : ∀ y ∈ l, 0 ≤ y.f1 ∧ y.f1 ≤ 500000 := fun y hy => h y (List.mem_cons_of_mem _ hy)
    unfold putP at hy
    split at hy
    · split at hy
      · rcases List.mem_cons.1 hy with rfl | hy
        · simp only
          omega
        · have := hl y hy
          omega
      · rcases List.mem_cons.1 hy with rfl | hy
        · omega
        · rcases List.mem_cons.1 hy with rfl | hy
          · omega
          · have := hl y hy
            omega
    · rcases List.mem_cons.1 hy with rfl | hy
      · omega
      · exact putP_small hx hl y hy
theorem l3Put_done (L : List S61) (t n : Int) (hL : L.length ≤ 1000) : ∀ (suf pre out : List S61), pre ++ suf = L → out.length ≤ 1 + pre.length →
    EV (fun k => spec_l3Put.l0 k L out true (pre.length : Int) t n) (out ++ suf) := by
  intro suf
  induction suf with
  | nil =>
    intro pre out e ho
    obtain rfl : pre = L := by simpa using e
    refine EV.succ ?_
    simp only [spec_l3Put.l0, if_neg (show ¬ (pre.length : Int) < (pre.length : Int) by omega), if_true]
    exact (EV.pure _).cast (by simp)
  | cons x suf ih =>
    intro pre out e ho
    have hl : (L.length : Int) = pre.length + suf.length + 1 := by rw [← e]; exact len_mid _ _ _
    have hx : rd_T61 L (pre.length : Int) = x := by rw [← e]; exact rdS_mid _ _ _ _ rfl
    have hst : wrap64 ((pre.length : Int) + 1) = ((pre ++ [x]).length : Int) := by rw [len_snoc]; exact w64 (by omega) (by omega)
    refine EV.succ ?_
    simp only [spec_l3Put.l0, if_pos (show (pre.length : Int) < (L.length : Int) by omega), if_true]
    refine EV.succ ?_
    simp only [spec_l3Put.j1, Bool.false_eq_true, if_false, if_pos (show (0 : Int) ≤ (pre.length : Int) by omega), if_pos (show (pre.length : Int) < (L.length : Int) by omega), hx, hst, if_pos (show out.length < 8796093022208 by omega)]
    exact (ih (pre ++ [x]) (out ++ [x]) (by rw [← app_mid]; exact e) (by simp; omega)).cast (by simp)
theorem l3Put_l0 (L : List S61) (p : S61) (hL : L.length ≤ 1000) (hs : ∀ y ∈ L, 0 ≤ y.f1 ∧ y.f1 ≤ 1000000) (hp : 0 ≤ p.f1 ∧ p.f1 ≤ 1000000) : ∀ (suf pre out : List S61), pre ++ suf = L → out.length ≤ pre.length →
    EV (fun k => spec_l3Put.l0 k L out false (pre.length : Int) p.f0 p.f1) (out ++ putP p suf) := by
  intro suf
  induction suf with
  | nil =>
    intro pre out e ho
    obtain rfl : pre = L := by simpa using e
    refine EV.succ ?_
    simp only [spec_l3Put.l0, if_neg (show ¬ (pre.length : Int) < (pre.length : Int) by omega), Bool.false_eq_true, if_false, if_pos (show out.length < 8796093022208 by omega)]
    exact EV.pure _
  | cons x suf ih =>
    intro pre out e ho
    have hl : (L.length : Int) = pre.length + suf.length + 1 := by rw [← e]; exact len_mid _ _ _
    have hx : rd_T61 L (pre.length : Int) = x := by rw [← e]; exact rdS_mid _ _ _ _ rfl
    have hxs := hs x (by rw [← e]; simp)
    have hst : wrap64 ((pre.length : Int) + 1) = ((pre ++ [x]).length : Int) := by rw [len_snoc]; exact w64 (by omega) (by omega)
    have hlen : (out ++ [p]).length < 8796093022208 := by simp; omega
    refine EV.succ ?_
    simp only [spec_l3Put.l0, if_pos (show (pre.length : Int) < (L.length : Int) by omega), Bool.false_eq_true, if_false, if_pos (show (0 : Int) ≤ (pre.length : Int) by omega), hx]
    refine EV.succ ?_
    by_cases g : x.f0 ≥ p.f0
    · simp only [spec_l3Put.j1, decide_eq_true g, if_true, if_pos (show out.length < 8796093022208 by omega), Option.bind_some, if_pos (show (0 : Int) ≤ (pre.length : Int) by omega), if_pos (show (pre.length : Int) < (L.length : Int) by omega), hx, hst]
      by_cases c : x.f0 = p.f0
      · simp only [if_pos c, w64 (x := p.f1 + x.f1) (by omega) (by omega)]
        refine (l3Put_done L p.f0 p.f1 hL suf (pre ++ [x]) (out ++ [(⟨p.f0, p.f1 + x.f1⟩ : S61)]) (by rw [← app_mid]; exact e) (by simp; omega)).cast ?_
        unfold putP
        rw [if_pos g, if_pos c]
        simp
      · simp only [if_neg c, if_pos hlen]
        refine (l3Put_done L p.f0 p.f1 hL suf (pre ++ [x]) (out ++ [p] ++ [x]) (by rw [← app_mid]; exact e) (by simp; omega)).cast ?_
        unfold putP
        rw [if_pos g, if_neg c]
        simp
    · simp only [spec_l3Put.j1, decide_eq_false g, Bool.false_eq_true, if_false, if_pos (show (0 : Int) ≤ (pre.length : Int) by omega), if_pos (show (pre.length : Int) < (L.length : Int) by omega), hx, if_pos (show out.length < 8796093022208 by omega), hst]
      refine (ih (pre ++ [x]) (out ++ [x]) (by rw [← app_mid]; exact e) (by simp; omega)).cast ?_
      conv => rhs; unfold putP
      rw [if_neg g]
      simp
theorem l3Put_ev (l : List S61) (p : S61) (h : Small l) (hp : 0 ≤ p.f1 ∧ p.f1 ≤ 1000000) : EV (fun k => spec_l3Put.f k l p.f0 p.f1) (putP p l) :=
  l3Put_l0 l p h.1 h.2 hp l [] [] rfl (by simp)

/-! the number that is taken -/
def cntGe (L : List S61) (v : Int) : Nat := L.countP (fun y => decide (y.f1 ≥ v))
def overF (L : List S61) : List S61 → Int → Int
  | [], b => b
  | x :: s, b => overF L s (if 4 < cntGe L x.f1 then max b x.f1 else b)
def overN (L : List S61) : Int := overF L L 0
theorem overF_bd (L : List S61) (m : Int) : ∀ (s : List S61) (b : Int), (∀ x ∈ s, 0 ≤ x.f1 ∧ x.f1 ≤ m) → 0 ≤ b → b ≤ m → 0 ≤ overF L s b ∧ overF L s b ≤ m
  | [], b, _, h0, h1 => ⟨h0, h1⟩
  | x :: s, b, h, h0, h1 => by
    have hx := h x (by simp)
    unfold overF
    exact overF_bd L m s _ (fun y hy => h y (List.mem_cons_of_mem _ hy)) (by split <;> omega) (by split <;> omega)
theorem l3Over_l1 (L : List S61) (hL : L.length ≤ 1000) (i b R : Int) (x : S61) (hi0 : 0 ≤ i) (hi : i < (L.length : Int)) (hx : rd_T61 L i = x)
    (hR : EV (fun k => spec_l3Over.l0 k L (if 4 < cntGe L x.f1 then max b x.f1 else b) (i + 1)) R) : ∀ (suf pre : List S61), pre ++ suf = L →
    EV (fun k => spec_l3Over.l1 k L b i (cntGe pre x.f1 : Int) (pre.length : Int)) R := by
  intro suf
  induction suf with
  | nil =>
    intro pre e
    obtain rfl : pre = L := by simpa using e
    refine EV.succ ?_
    simp only [spec_l3Over.l1, if_neg (show ¬ (pre.length : Int) < (pre.length : Int) by omega), if_pos hi0, if_pos hi, hx, w64 (x := i + 1) (by omega) (by omega)]
    by_cases c : (cntGe pre x.f1 : Int) > 4
    · have hm : mx b x.f1 = max b x.f1 := by unfold mx; omega
      simp only [if_pos c, hm]
      rw [if_pos (show 4 < cntGe pre x.f1 by omega)] at hR
      exact hR
    · simp only [if_neg c]
      rw [if_neg (show ¬ 4 < cntGe pre x.f1 by omega)] at hR
      exact hR
  | cons y suf ih =>
    intro pre e
    have hl : (L.length : Int) = pre.length + suf.length + 1 := by rw [← e]; exact len_mid _ _ _
    have hy : rd_T61 L (pre.length : Int) = y := by rw [← e]; exact rdS_mid _ _ _ _ rfl
    have hst : wrap64 ((pre.length : Int) + 1) = ((pre ++ [y]).length : Int) := by rw [len_snoc]; exact w64 (by omega) (by omega)
    have hc : cntGe (pre ++ [y]) x.f1 = cntGe pre x.f1 + (if y.f1 ≥ x.f1 then 1 else 0) := by
      unfold cntGe
      rw [List.countP_append]
      simp [List.countP_cons]
    have hle : cntGe pre x.f1 ≤ pre.length := List.countP_le_length
    refine EV.succ ?_
    simp only [spec_l3Over.l1, if_pos (show (pre.length : Int) < (L.length : Int) by omega), if_pos (show (0 : Int) ≤ (pre.length : Int) by omega), if_pos hi0, if_pos hi, hx, hy, hst]
    have := ih (pre ++ [y]) (by rw [← app_mid]; exact e)
    by_cases c : y.f1 ≥ x.f1
    · rw [hc, if_pos c] at this
      simp only [if_pos c]
      rw [w64 (x := (cntGe pre x.f1 : Int) + 1) (by omega) (by omega)]
      simpa using this
    · rw [hc, if_neg c] at this
      simp only [if_neg c]
      simpa using this
theorem l3Over_l0 (L : List S61) (hL : L.length ≤ 1000) : ∀ (suf pre : List S61) (b : Int), pre ++ suf = L → EV (fun k => spec_l3Over.l0 k L b (pre.length : Int)) (overF L suf b) := by
  intro suf
  induction suf with
  | nil =>
    intro pre b e
    obtain rfl : pre = L := by simpa using e
    refine EV.succ ?_
    simp only [spec_l3Over.l0, if_neg (show ¬ (pre.length : Int) < (pre.length : Int) by omega)]
    exact EV.pure _
  | cons x suf ih =>
    intro pre b e
    have hl : (L.length : Int) = pre.length + suf.length + 1 := by rw [← e]; exact len_mid _ _ _
    have hx : rd_T61 L (pre.length : Int) = x := by rw [← e]; exact rdS_mid _ _ _ _ rfl
    refine EV.succ ?_
    simp only [spec_l3Over.l0, if_pos (show (pre.length : Int) < (L.length : Int) by omega)]
    refine l3Over_l1 L hL (pre.length : Int) b _ x (by omega) (by omega) hx ?_ L [] rfl
    rw [← len_snoc pre x]
    exact ih (pre ++ [x]) _ (by rw [← app_mid]; exact e)
theorem l3Over_ev (l : List S61) (h : l.length ≤ 1000) : EV (fun k => spec_l3Over.f k l) (overN l) := l3Over_l0 l h l [] 0 rfl

/-! what is left -/
def lessN (n : Int) : List S61 → List S61
  | [] => []
  | x :: l => if x.f1 > n then (⟨x.f0, x.f1 - n⟩ : S61) :: lessN n l else lessN n l
theorem lessN_len (n : Int) : ∀ l : List S61, (lessN n l).length ≤ l.length
  | [] => by simp [lessN]
  | x :: l => by
    have := lessN_len n l
    unfold lessN
    split <;> simp only [List.length_cons] <;> omega
theorem l3Less_l0 (L : List S61) (n : Int) (h : Small L) (h0 : 0 ≤ n) (h1 : n ≤ 1000000) : ∀ (suf pre out : List S61), pre ++ suf = L → out.length ≤ pre.length →
    EV (fun k => spec_l3Less.l0 k L n out (pre.length : Int)) (out ++ lessN n suf) := by
  obtain ⟨hL, hs⟩ := h
  intro suf
  induction suf with
  | nil =>
    intro pre out e ho
    obtain rfl : pre = L := by simpa using e
    refine EV.succ ?_
    simp only [spec_l3Less.l0, if_neg (show ¬ (pre.length : Int) < (pre.length : Int) by omega)]
    exact (EV.pure _).cast (by simp [lessN])
  | cons x suf ih =>
    intro pre out e ho
    have hl : (L.length : Int) = pre.length + suf.length + 1 := by rw [← e]; exact len_mid _ _ _
    have hx : rd_T61 L (pre.length : Int) = x := by rw [← e]; exact rdS_mid _ _ _ _ rfl
    have hxs := hs x (by rw [← e]; simp)
    have hst : wrap64 ((pre.length : Int) + 1) = ((pre ++ [x]).length : Int) := by rw [len_snoc]; exact w64 (by omega) (by omega)
    refine EV.succ ?_
    simp only [spec_l3Less.l0, if_pos (show (pre.length : Int) < (L.length : Int) by omega), if_pos (show (0 : Int) ≤ (pre.length : Int) by omega), hx, hst, if_pos (show out.length < 8796093022208 by omega), w64 (x := x.f1 - n) (by omega) (by omega)]
    by_cases c : x.f1 > n
    · simp only [if_pos c]
      exact (ih (pre ++ [x]) _ (by rw [← app_mid]; exact e) (by simp; omega)).cast (by simp [lessN, c])
    · simp only [if_neg c]
      exact (ih (pre ++ [x]) out (by rw [← app_mid]; exact e) (by simp; omega)).cast (by simp [lessN, c])
theorem l3Cut_ev (l : List S61) (lost all : Int) (h : Small l) (h0 : 0 ≤ lost) (h1 : lost ≤ 1000000) : EV (fun k => spec_l3Cut.f k l lost all) (lessN (overN l) l, lost + overN l, all) := by
  have hb := overF_bd l 1000000 l 0 h.2 (by omega) (by omega)
  unfold spec_l3Cut.f
  refine EV.bind (l3Over_ev l h.1) ?_
  refine EV.bind (l3Less_l0 l (overN l) h hb.1 hb.2 l [] [] rfl (by simp)) ?_
  rw [w64 (x := lost + overN l) (by have := hb.1; unfold overN; omega) (by have := hb.2; unfold overN; omega)]
  exact EV.pure _
theorem ord_small : ∀ {l : List S61} {b : Int}, ordB b l = true → ∀ y ∈ l, 0 ≤ y.f1 ∧ y.f1 ≤ 2000
  | [], _, _, y, hy => by cases hy
  | x :: l, b, h, y, hy => by
    obtain ⟨h1, h2⟩ := ord_cons.1 h
    rcases List.mem_cons.1 hy with rfl | hy
    · omega
    · exact ord_small h2 y hy
theorem put_small {l : List S61} {b : Int} {p : S61} (hl : l.length ≤ 900) (h : ordB b l = true) (hp : 0 ≤ p.f1 ∧ p.f1 ≤ 2000) : Small (putP p l) :=
  ⟨by have := putP_len p l; omega, putP_small (by omega) (fun y hy => by have := ord_small h y hy; omega)⟩
theorem ord_Small {l : List S61} {b : Int} (hl : l.length ≤ 900) (h : ordB b l = true) : Small l := ⟨by omega, fun y hy => by have := ord_small h y hy; omega⟩

end Go.Proofs.Ytiaopahggjfggaa.Ev
