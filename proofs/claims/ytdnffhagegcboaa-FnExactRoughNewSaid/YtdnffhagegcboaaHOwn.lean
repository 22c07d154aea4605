/- Rows of rows that are one's own and are written: F, the blocks that such a row may have (those made by the call that made it), is told apart from the others' F. XS_.. : the kit's movers of S, said so. -/
import Derived.Test.YtdnffhagegcboaaPAx0
namespace Go.Proofs.Ytdnffhagegcboaa.H
open Go.RowKit Go.Proofs.YtdnffhagegcboaaW.PrintWords Go.Proofs.YtdnffhagegcboaaW.PrintLast Go.Proofs.YtdnffhagegcboaaW.PrintMore

def XS (F : Nat → Prop) (w : World) (base : Nat) (ok : Nat → Prop) (v : Value) (xs : List (List Int)) : Prop :=
  (∀ k, F k → k < w.heap.size) ∧ Kd.S (Kd.slice 3 (Kd.int .i64)) 42 w base (fun k => F k ∧ ok k) v xs
section
variable {F G ok ok' S : Nat → Prop} {w w1 W W2 : World} {base g t : Nat} {v : Value} {xs ys : List (List Int)}
theorem XS_intro (h : Kd.S (Kd.slice 3 (Kd.int .i64)) 42 w base ok v xs) : ∃ F : Nat → Prop, (∀ k, F k → base ≤ k) ∧ XS F w base ok v xs :=
  ⟨fun k => base ≤ k ∧ k < w.heap.size, fun _ hk => hk.1, fun _ hk => hk.2, Kd.S_mono (Kd.S_bound h) (fun _ hk => ⟨⟨hk.2.1, hk.2.2.1⟩, hk.1⟩)⟩
theorem XS_S (h : XS F w base ok v xs) : Kd.S (Kd.slice 3 (Kd.int .i64)) 42 w base ok v xs := Kd.S_mono h.2 (fun _ hk => hk.2)
theorem XS_mono (h : XS F w base ok v xs) (hok : ∀ k, ok k → ok' k) : XS F w base ok' v xs := ⟨h.1, Kd.S_mono h.2 (fun k hk => ⟨hk.1, hok k hk.2⟩)⟩
theorem XS_lt (h : XS F w base ok v xs) : ∀ k, F k → k < w.heap.size := h.1
theorem XS_below (h : XS F w base ok v xs) (hb : Below w.heap.size w w1) : XS F w1 base ok v xs := ⟨fun k hk => Nat.lt_of_lt_of_le (h.1 k hk) hb.size, Kd.S_below h.2 hb⟩
theorem XS_alloc (h : XS F w base ok v xs) (o : Obj) : XS F (w.alloc o) base ok v xs := XS_below h (below_alloc (Below.refl _ _) o)
theorem XS_drew (h : XS F w base ok v xs) : XS F w.drew base ok v xs := XS_below h (below_drew (Below.refl _ _))
theorem XS_drewN (h : XS F w base ok v xs) (m : Nat) : XS F (w.drewN m) base ok v xs := XS_below h (pw_below_drewN (Below.refl _ _) m)
theorem XS_at {m : Nat} (hq : w.drewN m = w1) (h : XS F w base ok v xs) : XS F w1 base ok v xs := by subst hq; exact XS_drewN h m
theorem XS_far (h : XS F w base ok v xs) {p : Addr} (hok : ∀ k, ok k → k ≠ p.block) (u : Value) : XS F (w.setCell p u) base ok v xs :=
  ⟨fun k hk => Nat.lt_of_lt_of_le (h.1 k hk) (by simp [World.setCell]), Kd.S_far h.2 (fun k hk => hok k hk.2) u⟩
theorem XS_types (h : XS F w base ok v xs) {cells : Array Value} (hb : w.heap[g]? = some (.cells cells t (0, 0))) (ht : ∀ q, q ∈ 42 :: (Kd.slice 3 (Kd.int .i64)).E → q ≠ t) : XS F w base (fun k => ok k ∧ k ≠ g) v xs :=
  ⟨h.1, Kd.S_mono (Kd.S_types h.2 hb ht) (fun _ hk => ⟨hk.1.1, hk.1.2, hk.2⟩)⟩
theorem XS_lower {base' : Nat} (h : XS F w base ok v xs) (hb : base' ≤ base) : XS F w base' ok v xs := ⟨h.1, Kd.S_lower h.2 hb⟩
theorem XS_elder (h : XS F W base ok v xs) (hG : ∀ k, G k → W.heap.size ≤ k) (hb : Below W.heap.size W w1) : XS F w1 base (fun k => ok k ∧ ¬ G k) v xs :=
  ⟨fun k hk => Nat.lt_of_lt_of_le (h.1 k hk) hb.size, Kd.S_mono (Kd.S_below (Kd.S_bound h.2) hb) (fun k hk => ⟨hk.1.1, hk.1.2, fun hg => by have := hG k hg; have := hk.2.2.1; omega⟩)⟩
theorem XS_new (h : XS F w1 W.heap.size ok v xs) (hG : ∀ k, G k → k < W.heap.size) : XS F w1 W.heap.size (fun k => ok k ∧ ¬ G k) v xs :=
  ⟨h.1, Kd.S_mono (Kd.S_bound h.2) (fun k hk => ⟨hk.1.1, hk.1.2, fun hg => by have := hG k hg; have := hk.2.1; omega⟩)⟩
theorem XS_slice (h : XS F w base ok v xs) : ∃ A c, v = .slice A xs.length c := Kd.S_slice h.2
theorem XS_reads {A : Option Addr} {n c : Nat} (h : XS F w base ok (.slice A n c) xs) : n = xs.length ∧ n ≤ c ∧ (Kd.slice 3 (Kd.int .i64)).C w A xs.length xs := Kd.S_reads' h.2
theorem XS_keptB (h : XS F W base ok v xs) (hk : Kept W W2 S) (hne : ∀ k, ok k → ¬ S k) : XS F W2 base (fun k => ok k ∧ (¬ S k ∧ k < W.heap.size)) v xs :=
  ⟨fun k hF => Nat.lt_of_lt_of_le (h.1 k hF) hk.1, Kd.S_mono (Kd.S_keptB h.2 hk (fun k ho => hne k ho.2)) (fun _ h_ => ⟨h_.1.1, h_.1.2, h_.2⟩)⟩
/-- Handed over, with its own blocks. -/
theorem XS_own (h : XS F w base ok v xs) : Kd.S (Kd.slice 3 (Kd.int .i64)) 42 w base (fun k => (F k ∧ ok k) ∧ base ≤ k ∧ k < w.heap.size ∧ ∃ q, q ∈ 42 :: (Kd.slice 3 (Kd.int .i64)).E ∧ ∃ cells, w.heap[k]? = some (.cells cells q (0, 0))) v xs := Kd.S_bound h.2
/-- Come back, written. -/
theorem XS_reok {T : Nat → Prop} (h : XS F w base ok v xs) (hy : Kd.S (Kd.slice 3 (Kd.int .i64)) 42 w1 base (fun k => (F k ∧ ok k) ∧ T k) v ys) (hk : Kept w w1 S) : XS F w1 base ok v ys :=
  ⟨fun k hF => Nat.lt_of_lt_of_le (h.1 k hF) hk.1, Kd.S_mono hy (fun _ h_ => h_.1)⟩
/-- A block of another type is none that was written. -/
theorem XS_blk_kept {cs : Array Value} (hb : W.heap[g]? = some (.cells cs t (0, 0))) (hk : Kept W W2 (fun k => S k ∧ base ≤ k ∧ k < W.heap.size ∧ ∃ q, q ∈ 42 :: (Kd.slice 3 (Kd.int .i64)).E ∧ ∃ cells, W.heap[k]? = some (.cells cells q (0, 0)))) (ht : ∀ q, q ∈ 42 :: (Kd.slice 3 (Kd.int .i64)).E → q ≠ t) : W2.heap[g]? = some (.cells cs t (0, 0)) :=
  blk_kept hb hk (fun hs => by
    obtain ⟨_, _, _, q, hq, cells, hc⟩ := hs
    rw [hb] at hc
    injection hc with hc
    injection hc with _ hc
    exact ht q hq hc.symm)
end

end Go.Proofs.Ytdnffhagegcboaa.H
