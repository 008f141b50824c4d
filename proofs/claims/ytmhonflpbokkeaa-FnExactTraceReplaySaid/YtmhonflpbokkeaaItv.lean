/- Rows of the call's own, told by the interval of the blocks that they lie in: what is made later lies behind, what is written lies in its own. By an AI agent. -/
import Derived.Test.YtmhonflpbokkeaaShr2
namespace Go.Proofs.YtmhonflpbokkeaaW.PrintMore
open Go.RowKit Go.Proofs.YtmhonflpbokkeaaW.PrintWords Go.Proofs.YtmhonflpbokkeaaW.PrintLast
section
variable {α : Type} {d : Kd α} {e base n m a b c f : Nat} {ok : Nat → Prop} {w W W0 Wb w1 : World} {v : Value} {xs : List α}
theorem iz (x : Aside0 (n ≤ W0.heap.size)) (h : Below W0.heap.size W0 W := by repeat (first | (with_reducible exact Below.refl _ _) | apply below_alloc | apply pw_below_drewN | apply below_drew1)) : n ≤ W.heap.size := Nat.le_trans x.out h.size
theorem izb (x : Aside0 (n ≤ W0.heap.size)) (hb : Below W.heap.size W w1) (h : Below W0.heap.size W0 W := by repeat (first | (with_reducible exact Below.refl _ _) | apply below_alloc | apply pw_below_drewN | apply below_drew1)) : Aside0 (n ≤ w1.heap.size) := ⟨Nat.le_trans (iz x h) hb.size⟩
theorem izk {P : Nat → Prop} (x : Aside0 (n ≤ W0.heap.size)) (hk : Kept W w1 P) (h : Below W0.heap.size W0 W := by repeat (first | (with_reducible exact Below.refl _ _) | apply below_alloc | apply pw_below_drewN | apply below_drew1)) : Aside0 (n ≤ w1.heap.size) := ⟨Nat.le_trans (iz x h) hk.1⟩
theorem ino (x : Aside0 (n ≤ W0.heap.size)) (hb : Below W.heap.size W w1) (hm : m = w1.heap.size) (h : Below W0.heap.size W0 W := by repeat (first | (with_reducible exact Below.refl _ _) | apply below_alloc | apply pw_below_drewN | apply below_drew1)) : Aside0 (n ≤ m) := ⟨by rw [hm]; exact Nat.le_trans (iz x h) hb.size⟩
theorem iS (ho : Kd.S d e w1 W.heap.size ok v xs) (x : Aside0 (n ≤ W0.heap.size)) (hw : Aside0 (w.heap.size ≤ n)) (hm : m = w1.heap.size) (h : Below W0.heap.size W0 W := by repeat (first | (with_reducible exact Below.refl _ _) | apply below_alloc | apply pw_below_drewN | apply below_drew1)) : Aside0 (Kd.S d e w1 w.heap.size (fun k_ => n ≤ k_ ∧ k_ < m) v xs) :=
  ⟨Kd.S_lower (Kd.S_mono (Kd.S_bound ho) (fun k hk => ⟨Nat.le_trans (iz x h) hk.2.1, by rw [hm]; exact hk.2.2.1⟩)) (Nat.le_trans hw.out (iz x h))⟩
theorem iR (ho : Kd.R d e w1 W.heap.size ok v xs) (x : Aside0 (n ≤ W0.heap.size)) (hw : Aside0 (w.heap.size ≤ n)) (hm : m = w1.heap.size) (h : Below W0.heap.size W0 W := by repeat (first | (with_reducible exact Below.refl _ _) | apply below_alloc | apply pw_below_drewN | apply below_drew1)) : Aside0 (Kd.R d e w1 w.heap.size (fun k_ => n ≤ k_ ∧ k_ < m) v xs) :=
  ⟨Kd.R_lower (Kd.R_mono (Kd.R_bound ho) (fun k hk => ⟨Nat.le_trans (iz x h) hk.2.1, by rw [hm]; exact hk.2.2.1⟩)) (Nat.le_trans hw.out (iz x h))⟩
theorem iN (ho : Kd.N d e w1 W.heap.size (fun k_ => W.heap.size ≤ k_) v xs) (x : Aside0 (n ≤ W0.heap.size)) (hw : Aside0 (w.heap.size ≤ n)) (hm : m = w1.heap.size) (h : Below W0.heap.size W0 W := by repeat (first | (with_reducible exact Below.refl _ _) | apply below_alloc | apply pw_below_drewN | apply below_drew1)) : Aside0 (Kd.N d e w1 w.heap.size (fun k_ => n ≤ k_ ∧ k_ < m) v xs) :=
  ⟨Kd.N_lower (Kd.N_mono (Kd.N_bound ho) (fun k hk => ⟨Nat.le_trans (iz x h) hk.1, by rw [hm]; exact hk.2⟩)) (Nat.le_trans hw.out (iz x h))⟩
theorem idj {k : Nat} (h : b ≤ c ∨ f ≤ a) (hk : a ≤ k ∧ k < b) : ¬ (c ≤ k ∧ k < f) := by omega
theorem ikS (x : Aside0 (Kd.S d e W0 base (fun k_ => a ≤ k_ ∧ k_ < b) v xs)) (hk : Kept W w1 (fun k_ => c ≤ k_ ∧ k_ < f)) (hd : b ≤ c ∨ f ≤ a) (h : Kd.S d e W0 base (fun k_ => a ≤ k_ ∧ k_ < b) v xs → Kd.S d e W base (fun k_ => a ≤ k_ ∧ k_ < b) v xs := by intro h_; (with_reducible repeat (first | apply Kd.S_alloc | apply Kd.S_drewN | apply Kd.S_drew)); exact h_) : Aside0 (Kd.S d e w1 base (fun k_ => a ≤ k_ ∧ k_ < b) v xs) := ⟨Kd.S_kept (h x.out) hk (fun _ q => idj hd q)⟩
theorem ikR (x : Aside0 (Kd.R d e W0 base (fun k_ => a ≤ k_ ∧ k_ < b) v xs)) (hk : Kept W w1 (fun k_ => c ≤ k_ ∧ k_ < f)) (hd : b ≤ c ∨ f ≤ a) (h : Kd.R d e W0 base (fun k_ => a ≤ k_ ∧ k_ < b) v xs → Kd.R d e W base (fun k_ => a ≤ k_ ∧ k_ < b) v xs := by intro h_; (with_reducible repeat (first | apply Kd.R_alloc | apply Kd.R_drewN | apply Kd.R_drew)); exact h_) : Aside0 (Kd.R d e w1 base (fun k_ => a ≤ k_ ∧ k_ < b) v xs) := ⟨Kd.R_kept (h x.out) hk (fun _ q => idj hd q)⟩
theorem ikN (x : Aside0 (Kd.N d e W0 base (fun k_ => a ≤ k_ ∧ k_ < b) v xs)) (hk : Kept W w1 (fun k_ => c ≤ k_ ∧ k_ < f)) (hd : b ≤ c ∨ f ≤ a) (h : Kd.N d e W0 base (fun k_ => a ≤ k_ ∧ k_ < b) v xs → Kd.N d e W base (fun k_ => a ≤ k_ ∧ k_ < b) v xs := by intro h_; (with_reducible repeat (first | apply Kd.N_alloc | apply Kd.N_drewN | apply Kd.N_drew)); exact h_) : Aside0 (Kd.N d e w1 base (fun k_ => a ≤ k_ ∧ k_ < b) v xs) := ⟨Kd.N_kept (h x.out) hk (fun _ q => idj hd q)⟩
theorem itT {p : Prop} [Decidable p] {x : Option Bool} {r : Bool} (h : (if p then x else some false) = some r) (hr : r = true) : p ∧ x = some r := by
  by_cases hp : p
  · rw [if_pos hp] at h; exact ⟨hp, h⟩
  · rw [if_neg hp, hr] at h; exact absurd h (by simp)
theorem itF {p : Prop} [Decidable p] {x : Option Bool} {r : Bool} (h : (if p then some false else x) = some r) (hr : r = true) : ¬ p ∧ x = some r := by
  by_cases hp : p
  · rw [if_pos hp, hr] at h; exact absurd h (by simp)
  · rw [if_neg hp] at h; exact ⟨hp, h⟩
end
end Go.Proofs.YtmhonflpbokkeaaW.PrintMore
