/- The walk of marksOf and leastOf: what they compute is the first six of both lists merged. Conditions: at most six marks each, none above 63. -/
import Derived.RangeFuncBox
import Derived.RangeFuncLeaves
import Derived.Shelf.Abstract
import Derived.WalkKit
import Derived.OwnWalkIn
import Derived.TacticsInMore
import Derived.LoopNIn
import Derived.LoopIn
import Derived.RegionIn
import Derived.BigRegionIn
import Derived.Maps.AppendAt
import Derived.Lib.Hide
import Derived.Test.YtnolipncjjclcaaFewM
namespace Go.Proofs.Ytnolipncjjclcaa.H
open Go.RowKit Go.Shelf Go.Proofs.YtnolipncjjclcaaW.PrintWords Go.Proofs.YtnolipncjjclcaaW.PrintLast Go.Proofs.YtnolipncjjclcaaW.PrintMore Go.Proofs.Ytnolipncjjclcaa.Ev

attribute [local go_sem] Oper.semAt_some
attribute [local go_sem] max2_int min2_int max_two min_two

theorem info3 : (Try.prog.info? 3).map (fun i => (i.zero, i.size, i.bytes)) = some (some (.int .i64 0), 1, 8) := by kernel_rfl

/-- A slice of marks that lies in w0: its address, its capacity. -/
def Lies (w0 : World) (A : Option Addr) (c : Nat) (l : List Int) : Prop := ReadsInt w0 .i64 A l.length l ∧ l.length ≤ c ∧ l.length ≤ 6 ∧ low l = true
theorem Lies.head {w0 W : World} {A : Option Addr} {c : Nat} {x : Int} {l : List Int} (h : Lies w0 A c (x :: l)) (hb : Below w0.heap.size w0 W) : ∃ ad, A = some ad ∧ W.cell? ad = some (.int .i64 x) ∧ x ≤ 63 := by
  obtain ⟨ad, e, hc⟩ := (h.1.below hb).at_ 0 (by omega) (by simp)
  refine ⟨ad, e, ?_, ?_⟩
  · have : rd (x :: l) 0 = x := rd_mid [] l x 0 rfl
    rw [this] at hc
    simpa [Addr.add] using hc
  · have := h.2.2.2
    simp [low] at this
    exact this.1
theorem Lies.tail {w0 : World} {A : Option Addr} {c : Nat} {x : Int} {l : List Int} (h : Lies w0 A c (x :: l)) :
    ∃ A', Lies w0 A' (c - 1) l ∧ ∀ W : World, (Instr.slice 23 (.slice A (l.length + 1) c) (some (.int .i64 1)) none none).run Try.prog W = .ok (.slice A' l.length (c - 1)) W := by
  obtain ⟨i0, hi, hz0, hz1, hz2⟩ := info_parts info3
  obtain ⟨A', h1, h2⟩ := print_cut_of (P := Try.prog) (Value.int .i64) (0 : Int) 23 3 .i64 Try.underlying23 hi hz1 A (x :: l).length c 1 (by simp)
  have hr := h2 w0 (x :: l) h.2.1 h.1
  obtain ⟨g1, g2, g3⟩ := h.2
  simp only [List.length_cons] at g1 g2
  refine ⟨A', ⟨?_, by omega, by omega, ?_⟩, fun W => ?_⟩
  · exact readsInt_of.2 (by simpa using hr)
  · simp [low] at g3 ⊢
    exact g3.2
  · simpa using h1 W

set_option maxRecDepth 100000 in
set_option maxHeartbeats 4000000 in
theorem marks1_in (F : Fence) (n : Nat) (h43 : F.fn 43) (hro : F.round = none) (hn : 1 ≤ n) (l Ba Bb : Nat) (w0 : World) (a b : List Int) (A1 A2 : Option Addr) (c1 c2 : Nat) (J Jx : List Int → World → Prop)
    (hY : ∀ pre x W, J pre W → pre.length < (mrg a b).length → YieldAt F (n - 1) Try.prog l #[.int .i64 x] W fun e W' =>
      (e = .returned (.bool true) ∧ J (pre ++ [x]) W' ∧ Below w0.heap.size W W') ∨ (e = .returned (.bool false) ∧ Jx (pre ++ [x]) W'))
    (W : World) (hBa : W.cell? ⟨Ba, 0, none⟩ = some (.slice A1 a.length c1)) (hBb : W.cell? ⟨Bb, 0, none⟩ = some (.slice A2 b.length c2)) (ha : Lies w0 A1 c1 a) (hb : Lies w0 A2 c2 b) (hw : Below w0.heap.size w0 W) (h0 : J [] W) (hJd : ∀ pre X, J pre X → J pre X.drew) :
    CallsIn F n Try.prog 43 #[.func (.yield l) #[] #[], .pointer (some ⟨Ba, 0, none⟩), .pointer (some ⟨Bb, 0, none⟩)] W fun e W' => (∃ v, e = .returned v) ∧
      ((∃ ys, ys = mrg a b ∧ J ys W') ∨ (∃ pre, pre <+: mrg a b ∧ Jx pre W')) := by
  refine callsIn_of_wp Try.func43 rfl h43 ?_ hro
  simp only [Try.ntmps43, List.size_toArray, List.length_cons, List.length_nil, Nat.reduceAdd, Nat.reduceSub, Array.replicate_succ, Array.replicate_zero, List.push_toArray, List.append_toArray, List.nil_append, List.cons_append]
  gi_wp2
  gi_region
  all_goals
    gi_wp2
    gi_loopw [4, 5] (fun s4 s5 wr => ∃ (pre l1 l2 : List Int) (B1 B2 : Option Addr) (d1 d2 : Nat), s4 = .slice B1 l1.length d1 ∧ s5 = .slice B2 l2.length d2 ∧ mrg a b = pre ++ mrg l1 l2 ∧ Lies w0 B1 d1 l1 ∧ Lies w0 B2 d2 l2 ∧ Below w0.heap.size w0 wr ∧ J pre wr)
      (fun s4 s5 _ => (match s4 with | .slice _ k _ => k | _ => 0) + (match s5 with | .slice _ k _ => k | _ => 0))
    case atStart => exact ⟨[], a, b, A1, A2, c1, c2, rfl, rfl, rfl, ha, hb, below_drew1 hw, hJd _ _ h0⟩
    case round =>
      obtain ⟨pre, l1, l2, B1, B2, d1, d2, rfl, rfl, hm, g1, g2, hw1, hJ1⟩ := hrel
      cases l1 with
      | nil =>
        cases l2 with
        | nil =>
          gi_wp2
          go_end0
          exact ⟨⟨_, rfl⟩, .inl ⟨pre, by rw [hm]; simp [mrg], hJ1⟩⟩
        | cons y l2 =>
          obtain ⟨ad2, rfl, hc2, hy⟩ := g2.head hw1
          obtain ⟨B2', g2', hr2⟩ := g2.tail
          rw [mrg_nil_l] at hm
          obtain ⟨fn, tmps, assign, body, hy1, hR⟩ := hY pre y wr hJ1 (by rw [hm]; simp)
          have HM := Lib.hid hm
          clear hm
          simp only [List.length_cons, List.length_nil]
          gi_wp2
          refine hR.mono ?_
          rintro e W3 (⟨rfl, hJ3, hk3⟩ | ⟨rfl, hJx3⟩)
          · gi_wp2
            go_roundw
            case rel => exact ⟨pre ++ [y], [], l2, B1, B2', d1, d2 - 1, rfl, rfl, by rw [HM.out]; simp [mrg_nil_l], g1, g2', hw1.trans hk3, hJ3⟩
            case measure => first | (simp; done) | (simp; omega)
          · gi_wp2
            refine bodyPost_ret (results_none rfl _ _ _) rfl ?_
            exact ⟨⟨_, rfl⟩, .inr ⟨pre ++ [y], ⟨_, by rw [HM.out]; simp; rfl⟩, hJx3⟩⟩
      | cons x l1 =>
        obtain ⟨ad1, rfl, hc1, hx⟩ := g1.head hw1
        obtain ⟨B1', g1', hr1⟩ := g1.tail
        cases l2 with
        | nil =>
          rw [mrg_nil_r] at hm
          obtain ⟨fn, tmps, assign, body, hy1, hR⟩ := hY pre x wr hJ1 (by rw [hm]; simp)
          have HM := Lib.hid hm
          clear hm
          simp only [List.length_cons, List.length_nil]
          gi_wp2
          refine hR.mono ?_
          rintro e W3 (⟨rfl, hJ3, hk3⟩ | ⟨rfl, hJx3⟩)
          · gi_wp2
            go_roundw
            case rel => exact ⟨pre ++ [x], l1, [], B1', B2, d1 - 1, d2, rfl, rfl, by rw [HM.out]; simp [mrg_nil_r], g1', g2, hw1.trans hk3, hJ3⟩
            case measure => first | (simp; done) | (simp; omega)
          · gi_wp2
            refine bodyPost_ret (results_none rfl _ _ _) rfl ?_
            exact ⟨⟨_, rfl⟩, .inr ⟨pre ++ [x], ⟨_, by rw [HM.out]; simp; rfl⟩, hJx3⟩⟩
        | cons y l2 =>
          obtain ⟨ad2, rfl, hc2, hy⟩ := g2.head hw1
          obtain ⟨B2', g2', hr2⟩ := g2.tail
          by_cases c : x < y
          · rw [mrg_lt c] at hm
            obtain ⟨fn, tmps, assign, body, hy1, hR⟩ := hY pre x wr hJ1 (by rw [hm]; simp)
            have HM := Lib.hid hm
            have c1 : (y == x) = false := by simp; omega
            clear hm
            simp only [List.length_cons]
            gi_wp2
            refine hR.mono ?_
            rintro e W3 (⟨rfl, hJ3, hk3⟩ | ⟨rfl, hJx3⟩)
            · gi_wp2
              go_roundw
              case rel => exact ⟨pre ++ [x], l1, y :: l2, B1', some ad2, d1 - 1, d2, rfl, rfl, by rw [HM.out]; simp, g1', g2, hw1.trans hk3, hJ3⟩
              case measure => first | (simp; done) | (simp; omega)
            · gi_wp2
              refine bodyPost_ret (results_none rfl _ _ _) rfl ?_
              exact ⟨⟨_, rfl⟩, .inr ⟨pre ++ [x], ⟨_, by rw [HM.out]; simp; rfl⟩, hJx3⟩⟩
          · by_cases c' : y < x
            · rw [mrg_gt c'] at hm
              obtain ⟨fn, tmps, assign, body, hy1, hR⟩ := hY pre y wr hJ1 (by rw [hm]; simp)
              have HM := Lib.hid hm
              have c1 : (x == y) = false := by simp; omega
              clear hm
              simp only [List.length_cons]
              gi_wp2
              refine hR.mono ?_
              rintro e W3 (⟨rfl, hJ3, hk3⟩ | ⟨rfl, hJx3⟩)
              · gi_wp2
                go_roundw
                case rel => exact ⟨pre ++ [y], x :: l1, l2, some ad1, B2', d1, d2 - 1, rfl, rfl, by rw [HM.out]; simp, g1, g2', hw1.trans hk3, hJ3⟩
                case measure => first | (simp; done) | (simp; omega)
              · gi_wp2
                refine bodyPost_ret (results_none rfl _ _ _) rfl ?_
                exact ⟨⟨_, rfl⟩, .inr ⟨pre ++ [y], ⟨_, by rw [HM.out]; simp; rfl⟩, hJx3⟩⟩
            · obtain rfl : x = y := by omega
              rw [mrg_eq] at hm
              obtain ⟨fn, tmps, assign, body, hy1, hR⟩ := hY pre x wr hJ1 (by rw [hm]; simp)
              have HM := Lib.hid hm
              clear hm c c'
              simp only [List.length_cons]
              gi_wp2
              refine hR.mono ?_
              rintro e W3 (⟨rfl, hJ3, hk3⟩ | ⟨rfl, hJx3⟩)
              · gi_wp2
                go_roundw
                case rel => exact ⟨pre ++ [x], l1, l2, B1', B2', d1 - 1, d2 - 1, rfl, rfl, by rw [HM.out]; simp, g1', g2', hw1.trans hk3, hJ3⟩
                case measure => first | (simp; done) | (simp; omega)
              · gi_wp2
                refine bodyPost_ret (results_none rfl _ _ _) rfl ?_
                exact ⟨⟨_, rfl⟩, .inr ⟨pre ++ [x], ⟨_, by rw [HM.out]; simp; rfl⟩, hJx3⟩⟩

set_option maxHeartbeats 1000000 in
theorem marks_in (F : Fence) (n : Nat) (h42 : F.fn 42) (hro : F.round = none) (A1 A2 : Option Addr) (n1 c1 n2 c2 : Nat) (w : World) :
    CallsIn F n Try.prog 42 #[.slice A1 n1 c1, .slice A2 n2 c2] w fun e w' => e = .returned (.func (.func 43) #[] #[.pointer (some ⟨w.heap.size, 0, none⟩), .pointer (some ⟨w.heap.size + 1, 0, none⟩)]) ∧ w' = (w.alloc (.cells #[.slice A1 n1 c1] 23)).alloc (.cells #[.slice A2 n2 c2] 23) := by
  refine callsIn_of_wp Try.func42 rfl h42 ?_ hro
  simp only [Try.ntmps42, List.size_toArray, List.length_cons, List.length_nil, Nat.reduceAdd, Nat.reduceSub, Array.replicate_succ, Array.replicate_zero, List.push_toArray, List.append_toArray, List.nil_append, List.cons_append]
  gi_wp2
  go_ret
  exact ⟨by simp, rfl⟩

theorem marks_stops (F : Fence) (n : Nat) (h43 : F.fn 43) (hro : F.round = none) (hn : 1 ≤ n) (Ba Bb : Nat) (w0 : World) (a b : List Int) (A1 A2 : Option Addr) (c1 c2 : Nat) (w : World) (hBa : Ba < w.heap.size) (hBb : Bb < w.heap.size)
    (ha' : w.cell? ⟨Ba, 0, none⟩ = some (.slice A1 a.length c1)) (hb' : w.cell? ⟨Bb, 0, none⟩ = some (.slice A2 b.length c2)) (ha : Lies w0 A1 c1 a) (hb : Lies w0 A2 c2 b) (hw : Below w0.heap.size w0 w) :
    SeqStopsK F n Try.prog 43 #[.pointer (some ⟨Ba, 0, none⟩), .pointer (some ⟨Bb, 0, none⟩)] (fun x : Int => #[Value.int .i64 x]) (Below w0.heap.size) (fun ys => ys = mrg a b) (fun pre => pre <+: mrg a b) (mrg a b).length w := fun l J Jx W hW hJ _ hY h0 =>
  marks1_in F n h43 hro hn l Ba Bb w0 a b A1 A2 c1 c2 J Jx hY W ((hW.cell (p := ⟨Ba, 0, none⟩) hBa).trans ha') ((hW.cell (p := ⟨Bb, 0, none⟩) hBb).trans hb') ha hb (hw.trans (hW.mono hw.size)) h0
    (fun pre X hX => hJ pre X X.drew none hX ⟨rfl, rfl, rfl, Nat.le_refl _, fun _ _ _ => rfl⟩ (fun r e => by cases e))

end Go.Proofs.Ytnolipncjjclcaa.H
