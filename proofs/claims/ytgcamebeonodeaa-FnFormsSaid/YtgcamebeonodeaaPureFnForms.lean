/- FnForms: whatever bytes captures and an address are drawn from, the learned model counts at least as many as fit, fits exactly if all of its form do, and then answers each capture that was seen as it was seen; every guess is between 0 and 999 and made by a model that fits alone. No condition. -/
import Derived.Test.YtgcamebeonodeaaStdFnForms
namespace Go.Proofs.Ytgcamebeonodeaa.Pure
open Go.RowKit Go.Proofs.Ytgcamebeonodeaa.MFnForms Go.Proofs.YtgcamebeonodeaaW.PrintWords Go.Proofs.YtgcamebeonodeaaW.PrintLast Go.Proofs.YtgcamebeonodeaaW.PrintMore Go.Proofs.Ytgcamebeonodeaa.Gen
set_option linter.unusedVariables false
set_option linter.unusedSimpArgs false
def FitimplCapture (y : S40) : Prop := y.f2.f1.length ≤ 1048576
/-- A cursor that stands in its bytes or behind them. -/
def Cur (b : List Int) (i : Int) : Prop := b.length ≤ 1048576 ∧ 0 ≤ i ∧ i ≤ (b.length : Int)
theorem and255 (v : Int) : 0 ≤ Go.bits .and .i64 v 255 ∧ Go.bits .and .i64 v 255 ≤ 255 := by
 have hle : (BitVec.ofInt IntKind.i64.bits v &&& BitVec.ofInt IntKind.i64.bits 255).toNat ≤ 255 := by
  rw [BitVec.toNat_and]
  exact Nat.le_trans Nat.and_le_right (by decide)
 have e : Go.bits .and .i64 v 255 = (((BitVec.ofInt IntKind.i64.bits v &&& BitVec.ofInt IntKind.i64.bits 255).toNat : Nat) : Int) := by
  simp only [Go.bits]
  rw [IntKind.wrap_i64]
  omega
 rw [e]
 omega
/-- From some number of rounds on g answers something of which Q is true. -/
def Any {α : Type} (g : Nat → Option α) (Q : α → Prop) : Prop := ∃ r, Ev g r ∧ Q r
theorem Any.of {α : Type} {g : Nat → Option α} {Q : α → Prop} {r : α} (h : Ev g r) (q : Q r) : Any g Q := ⟨r, h, q⟩
theorem Any.now {α : Type} {Q : α → Prop} {r : α} (q : Q r) : Any (fun _ => some r) Q := ⟨r, Ev.now r, q⟩
theorem Any.mono {α : Type} {g : Nat → Option α} {P Q : α → Prop} (h : Any g P) (m : ∀ r, P r → Q r) : Any g Q := by
 obtain ⟨r, e, q⟩ := h
 exact ⟨r, e, m r q⟩
theorem Any.bind {α β : Type} {f : Nat → Option β} {g : Nat → β → Option α} {P : β → Prop} {Q : α → Prop} (h : Any f P) (k : ∀ x, P x → Any (fun n => g n x) Q) : Any (fun n => (f n).bind (g n)) Q := by
 obtain ⟨x, e, p⟩ := h
 obtain ⟨r, e2, q⟩ := k x p
 exact ⟨r, Ev.bind e e2, q⟩
theorem Any.ev {α β : Type} {f : Nat → Option β} {g : Nat → β → Option α} {v : β} {Q : α → Prop} (h : Ev f v) (k : Any (fun n => g n v) Q) : Any (fun n => (f n).bind (g n)) Q := by
 obtain ⟨r, e2, q⟩ := k
 exact ⟨r, Ev.bind h e2, q⟩
theorem Any.opt {α β : Type} {o : Option β} {g : Nat → β → Option α} {P : β → Prop} {Q : α → Prop} (h : ∃ x, o = some x ∧ P x) (k : ∀ x, P x → Any (fun n => g n x) Q) : Any (fun n => o.bind (g n)) Q := by
 obtain ⟨x, e, p⟩ := h
 obtain ⟨r, e2, q⟩ := k x p
 exact ⟨r, Ev.now_bind e e2, q⟩
theorem Any.ite {α : Type} {c : Prop} [Decidable c] {A B : Nat → Option α} {Q : α → Prop} (k : c → Any A Q) (l : ¬ c → Any B Q) : Any (fun n => if c then A n else B n) Q := by
 by_cases h : c
 ·obtain ⟨r, e, q⟩ := k h
  exact ⟨r, Ev.pos h e, q⟩
 ·obtain ⟨r, e, q⟩ := l h
  exact ⟨r, Ev.neg h e, q⟩
theorem Any.pos {α : Type} {c : Prop} [Decidable c] {A B : Nat → Option α} {Q : α → Prop} (h : c) (k : Any A Q) : Any (fun n => if c then A n else B n) Q := by
 obtain ⟨r, e, q⟩ := k
 exact ⟨r, Ev.pos h e, q⟩
theorem Any.neg {α : Type} {c : Prop} [Decidable c] {A B : Nat → Option α} {Q : α → Prop} (h : ¬ c) (k : Any B Q) : Any (fun n => if c then A n else B n) Q := by
 obtain ⟨r, e, q⟩ := k
 exact ⟨r, Ev.neg h e, q⟩
theorem Any.round {α : Type} {g f : Nat → Option α} {Q : α → Prop} (h : ∀ k, g (k + 1) = f k) (k : Any f Q) : Any g Q := by
 obtain ⟨r, e, q⟩ := k
 exact ⟨r, Ev.round h e, q⟩
theorem Any.to {α : Type} {g : Nat → Option α} {v : α} (h : Any g (fun r => r = v)) : Ev g v := by
 obtain ⟨r, e, rfl⟩ := h
 exact e
theorem Any.then_ {α β : Type} {f : Nat → Option β} {g : Nat → β → Option α} {P : β → Prop} {v : α} (h : Any f P) (k : ∀ x, P x → Ev (fun n => g n x) v) : Ev (fun n => (f n).bind (g n)) v := by
 obtain ⟨x, e, p⟩ := h
 exact Ev.bind e (k x p)
theorem l1New_ev (b : List Int) (hb : b.length ≤ 1048576) : ∃ h, Ev (fun k => spec_l1New.f k b) (b, 0, h) := by
 unfold spec_l1New.f
 have key : ∀ d i : Nat, i + d = b.length → ∀ h : Int, ∃ g, Ev (fun k => spec_l1New.l0 k b h (i : Int)) (b, 0, g) := by
  intro d
  induction d with
  | zero =>
   intro i hi h
   refine ⟨h, ?_⟩
   refine Ev.round (fun _ => by rw [spec_l1New.l0]) ?_
   refine Ev.neg (by omega) ?_
   exact Ev.now _
  | succ d ih =>
   intro i hi h
   by_cases h4 : (i : Int) < 4000
   ·have e1 : wrap64 ((i : Int) + 1) = ((i + 1 : Nat) : Int) := by rw [w64 (by omega) (by omega)]; omega
    obtain ⟨g, hg⟩ := ih (i + 1) (by omega) (Go.bits .and .i64 (wrap64 ((wrap64 ((wrap64 (h * 137)) + (wrap64 (rd b (i : Int))))) + 11)) 1073741823)
    refine ⟨g, ?_⟩
    refine Ev.round (fun _ => by rw [spec_l1New.l0]) ?_
    refine Ev.pos (by omega) ?_
    refine Ev.pos h4 ?_
    refine Ev.pos (by omega) ?_
    simp only [e1]
    exact hg
   ·refine ⟨h, ?_⟩
    refine Ev.round (fun _ => by rw [spec_l1New.l0]) ?_
    refine Ev.pos (by omega) ?_
    refine Ev.neg h4 ?_
    exact Ev.now _
 exact key b.length 0 (by omega) _
theorem cur0 (b : List Int) (hb : b.length ≤ 1048576) : Cur b 0 := ⟨hb, by omega, by omega⟩
theorem aNew (b : List Int) (hb : b.length ≤ 1048576) : Any (fun k => spec_l1New.f k b) (fun x => x.1 = b ∧ Cur b x.2.1) := by
 obtain ⟨h, e⟩ := l1New_ev b hb
 exact ⟨_, e, rfl, cur0 b hb⟩
theorem l1Byte_some (b : List Int) (i h : Int) (c : Cur b i) : ∃ x j g, spec_l1Byte.f b i h = some (x, j, g) ∧ (0 ≤ x ∧ x ≤ 255) ∧ Cur b j := by
 obtain ⟨c1, c2, c3⟩ := c
 unfold spec_l1Byte.f
 by_cases hi : i < (b.length : Int)
 ·rw [if_pos hi, if_pos c2]
  exact ⟨_, _, _, rfl, and255 _, c1, by rw [w64 (by omega) (by omega)]; omega, by rw [w64 (by omega) (by omega)]; omega⟩
 ·rw [if_neg hi]
  exact ⟨_, _, _, rfl, and255 _, c1, c2, c3⟩
theorem l1Below_some (b : List Int) (i h n : Int) (c : Cur b i) : ∃ x j g, spec_l1Below.f b i h n = some (x, j, g) ∧ 0 ≤ x ∧ (0 < n → x < n) ∧ Cur b j := by
 unfold spec_l1Below.f
 by_cases h0 : n ≤ 0
 ·rw [if_pos h0]
  exact ⟨0, i, h, rfl, by omega, by omega, c⟩
 rw [if_neg h0]
 by_cases h1 : n ≤ 256
 ·rw [if_pos h1]
  obtain ⟨x, j, g, e, b1, cj⟩ := l1Byte_some b i h c
  rw [e]
  simp only [Option.bind_some]
  rw [if_neg (by omega)]
  refine ⟨_, _, _, rfl, ?_, ?_, cj⟩
  ·rw [Int.tmod_eq_emod_of_nonneg b1.1]
   exact Int.emod_nonneg _ (by omega)
  ·intro hn
   rw [Int.tmod_eq_emod_of_nonneg b1.1]
   exact Int.emod_lt_of_pos _ hn
 ·rw [if_neg h1]
  obtain ⟨x, j, g, e, b1, cj⟩ := l1Byte_some b i h c
  obtain ⟨y, j2, g2, e2, b2, cj2⟩ := l1Byte_some b j g cj
  obtain ⟨z, j3, g3, e3, b3, cj3⟩ := l1Byte_some b j2 g2 cj2
  rw [e]
  simp only [Option.bind_some]
  rw [e2]
  simp only [Option.bind_some]
  rw [e3]
  simp only [Option.bind_some]
  rw [if_neg (by omega)]
  have hv : 0 ≤ wrap64 (wrap64 (wrap64 (x * 65536) + wrap64 (y * 256)) + z) := by
   rw [w64 (n := x * 65536) (by omega) (by omega), w64 (n := y * 256) (by omega) (by omega), w64 (n := x * 65536 + y * 256) (by omega) (by omega), w64 (by omega) (by omega)]
   omega
  refine ⟨_, _, _, rfl, ?_, ?_, cj3⟩
  ·rw [Int.tmod_eq_emod_of_nonneg hv]
   exact Int.emod_nonneg _ (by omega)
  ·intro hn
   rw [Int.tmod_eq_emod_of_nonneg hv]
   exact Int.emod_lt_of_pos _ hn
theorem l1Below_lt (b : List Int) (i h n : Int) (hn : 0 < n) (c : Cur b i) : ∃ x j g, spec_l1Below.f b i h n = some (x, j, g) ∧ (0 ≤ x ∧ x < n) ∧ Cur b j := by
 obtain ⟨x, j, g, e, h0, h1, cj⟩ := l1Below_some b i h n c
 exact ⟨x, j, g, e, ⟨h0, h1 hn⟩, cj⟩
theorem aBelow (b : List Int) (i h n : Int) (hn : 0 < n) (c : Cur b i) : ∃ x, spec_l1Below.f b i h n = some x ∧ ((0 ≤ x.1 ∧ x.1 < n) ∧ Cur b x.2.1) := by
 obtain ⟨x, j, g, e, hx, cj⟩ := l1Below_lt b i h n hn c
 exact ⟨(x, j, g), e, hx, cj⟩
theorem l1Once_some (b : List Int) (i h n : Int) (c : Cur b i) : ∃ x j g, spec_l1Once.f b i h n = some (x, j, g) ∧ Cur b j := by
 obtain ⟨x, j, g, e, _, _, cj⟩ := l1Below_some b i h n c
 unfold spec_l1Once.f
 rw [e]
 exact ⟨_, _, _, rfl, cj⟩
theorem aOnce (b : List Int) (i h n : Int) (c : Cur b i) : ∃ x, spec_l1Once.f b i h n = some x ∧ Cur b x.2.1 := by
 obtain ⟨x, j, g, e, cj⟩ := l1Once_some b i h n c
 exact ⟨(x, j, g), e, cj⟩
theorem l4Draw_some (b : List Int) (i h : Int) (c : Cur b i) : ∃ x y z j g, spec_l4Draw.f b i h = some (x, y, z, j, g) ∧ (1 ≤ x ∧ x ≤ 3 ∧ 0 ≤ y ∧ y ≤ 2 ∧ 0 ≤ z ∧ z ≤ 2) ∧ Cur b j := by
 obtain ⟨x, j, g, e, hx, cj⟩ := l1Below_lt b i h 3 (by omega) c
 obtain ⟨y, j2, g2, e2, hy, cj2⟩ := l1Below_lt b j g 3 (by omega) cj
 obtain ⟨z, j3, g3, e3, hz, cj3⟩ := l1Below_lt b j2 g2 3 (by omega) cj2
 have ew : wrap64 (1 + x) = 1 + x := w64 (by omega) (by omega)
 refine ⟨1 + x, y, z, j3, g3, ?_, by omega, cj3⟩
 unfold spec_l4Draw.f
 rw [e, Option.bind_some]
 dsimp only
 rw [e2, Option.bind_some]
 dsimp only
 rw [e3, Option.bind_some]
 dsimp only
 rw [ew]
theorem l5Body_ev (b : List Int) (i h : Int) (c : Cur b i) : ∃ l j g, Ev (fun k => spec_l5Body.f k b i h) (l, j, g) ∧ l.length ≤ 4 ∧ Cur b j := by
 obtain ⟨n, j, g, e, hn, cj⟩ := l1Below_lt b i h 5 (by omega) c
 have key : ∀ (d : Nat) (l : List Int) (i h : Int), Cur b i → l.length + d ≤ 4 → ∃ l' j g, Ev (fun k => spec_l5Body.l0 k l (d : Int) b i h) (l', j, g) ∧ l'.length ≤ 4 ∧ Cur b j := by
  intro d
  induction d with
  | zero =>
   intro l i h c hl
   refine ⟨l, i, h, ?_, by omega, c⟩
   refine Ev.round (fun _ => by rw [spec_l5Body.l0]) ?_
   exact Ev.neg (by omega) (Ev.now _)
  | succ d ih =>
   intro l i h c hl
   obtain ⟨x, j, g, e, hx, cj⟩ := l1Below_lt b i h 9 (by omega) c
   have e1 : wrap64 (((d + 1 : Nat) : Int) - 1) = (d : Int) := by rw [w64 (by omega) (by omega)]; omega
   obtain ⟨l', j', g', ev, hl', cj'⟩ := ih (l ++ [x]) j g cj (by rw [List.length_append, List.length_singleton]; omega)
   refine ⟨l', j', g', ?_, hl', cj'⟩
   refine Ev.round (fun _ => by rw [spec_l5Body.l0]) ?_
   refine Ev.pos (by omega) ?_
   refine Ev.now_bind e ?_
   refine Ev.pos (by omega) ?_
   simp only [e1]
   exact ev
 obtain ⟨l, j', g', ev, hl, cj'⟩ := key n.toNat [] j g cj (by simp; omega)
 refine ⟨l, j', g', ?_, hl, cj'⟩
 unfold spec_l5Body.f
 refine Ev.now_bind e ?_
 have en : ((n.toNat : Nat) : Int) = n := by omega
 rw [en] at ev
 exact ev
theorem l5Draw_ev (b : List Int) (i h : Int) (c : Cur b i) : ∃ k0 l x y z j g, Ev (fun k => spec_l5Draw.f k b i h) (k0, l, x, y, z, j, g) ∧ l.length ≤ 4 ∧ Cur b j := by
 obtain ⟨n, j, g, e, hn, cj⟩ := l1Below_lt b i h 6 (by omega) c
 unfold spec_l5Draw.f
 by_cases h0 : n = 0
 ·obtain ⟨x, y, z, j2, g2, e2, _, cj2⟩ := l4Draw_some b j g cj
  refine ⟨3, [], x, y, z, j2, g2, ?_, by simp, cj2⟩
  refine Ev.now_bind e ?_
  refine Ev.pos h0 ?_
  refine Ev.now_bind e2 ?_
  exact Ev.now _
 ·by_cases h1 : n = 1
  ·refine ⟨4, [], 0, 0, 0, j, g, ?_, by simp, cj⟩
   refine Ev.now_bind e ?_
   refine Ev.neg h0 ?_
   refine Ev.pos h1 ?_
   exact Ev.now _
  ·obtain ⟨x, j2, g2, e2, hx, cj2⟩ := l1Below_lt b j g 2 (by omega) cj
   obtain ⟨l, j3, g3, ev, hl, cj3⟩ := l5Body_ev b j2 g2 cj2
   refine ⟨wrap64 (1 + x), l, 0, 0, 0, j3, g3, ?_, hl, cj3⟩
   refine Ev.now_bind e ?_
   refine Ev.neg h0 ?_
   refine Ev.neg h1 ?_
   refine Ev.now_bind e2 ?_
   refine Ev.bind ev ?_
   exact Ev.now _
theorem a5Draw (b : List Int) (i h : Int) (c : Cur b i) : Any (fun k => spec_l5Draw.f k b i h) (fun x => x.2.1.length ≤ 4 ∧ Cur b x.2.2.2.2.2.1) := by
 obtain ⟨k0, l, x, y, z, j, g, e, hl, cj⟩ := l5Draw_ev b i h c
 exact ⟨_, e, hl, cj⟩
theorem a4Draw (b : List Int) (i h : Int) (c : Cur b i) : ∃ x, spec_l4Draw.f b i h = some x ∧ ((1 ≤ x.1 ∧ x.1 ≤ 3 ∧ 0 ≤ x.2.1 ∧ x.2.1 ≤ 2 ∧ 0 ≤ x.2.2.1 ∧ x.2.2.1 ≤ 2) ∧ Cur b x.2.2.2.1) := by
 obtain ⟨x, y, z, j, g, e, hx, cj⟩ := l4Draw_some b i h c
 exact ⟨(x, y, z, j, g), e, hx, cj⟩
theorem snocC {l : List S40} (h : ∀ y ∈ l, FitimplCapture y) {x : S40} (hx : x.f2.f1.length ≤ 1048576) : ∀ y ∈ l ++ [x], FitimplCapture y := by
 intro y hy
 rcases List.mem_append.1 hy with h1 | h1
 ·exact h y h1
 ·rw [List.mem_singleton] at h1
  rw [h1]
  exact hx
theorem a19Draw (b : List Int) (i h : Int) (c : Cur b i) : Any (fun k => spec_l19Draw.f k b i h) (fun x => x.1.length ≤ 5 ∧ (∀ y ∈ x.1, FitimplCapture y) ∧ Cur b x.2.2.2.2.1) := by
 unfold spec_l19Draw.f
 refine Any.opt (aBelow b _ _ 2 (by omega) c) ?_
 intro x1 h1
 refine Any.opt (aBelow b _ _ 9 (by omega) h1.2) ?_
 intro x2 h2
 refine Any.opt (aBelow b _ _ 4 (by omega) h2.2) ?_
 intro x3 h3
 refine Any.opt (aBelow b _ _ 6 (by omega) h3.2) ?_
 intro x4 h4
 have key : ∀ (d : Nat) (l : List S40) (i h : Int), Cur b i → l.length + d ≤ 5 → (∀ y ∈ l, FitimplCapture y) → Any (fun k => spec_l19Draw.l0 k x2.1 x3.1 l (d : Int) b i h 1 x1.1 0) (fun x => x.1.length ≤ 5 ∧ (∀ y ∈ x.1, FitimplCapture y) ∧ Cur b x.2.2.2.2.1) := by
  intro d
  induction d with
  | zero =>
   intro l i h c hl hf
   refine Any.round (fun _ => by rw [spec_l19Draw.l0]) ?_
   exact Any.neg (by omega) (Any.now ⟨by dsimp only; omega, hf, c⟩)
  | succ d ih =>
   intro l i h c hl hf
   have e1 : wrap64 (((d + 1 : Nat) : Int) - 1) = (d : Int) := by rw [w64 (by omega) (by omega)]; omega
   have hj : ∀ (i h q k0 : Int) (bd : List Int) (t1 t2 t3 : Int), Cur b i → bd.length ≤ 1048576 → Any (fun k => spec_l19Draw.j1 k x2.1 x3.1 l ((d + 1 : Nat) : Int) b i h 1 x1.1 0 1 x1.1 q k0 bd t1 t2 t3) (fun x => x.1.length ≤ 5 ∧ (∀ y ∈ x.1, FitimplCapture y) ∧ Cur b x.2.2.2.2.1) := by
    intro i h q k0 bd t1 t2 t3 c hb
    refine Any.round (fun _ => by rw [spec_l19Draw.j1]) ?_
    refine Any.opt (aOnce b _ _ 6 c) ?_
    intro y hy
    refine Any.ite (fun _ => ?_) (fun _ => ?_)
    ·refine Any.opt (a4Draw b _ _ hy) ?_
     intro z hz
     refine Any.pos (by omega) ?_
     simp only [e1]
     exact ih _ _ _ hz.2 (by rw [List.length_append, List.length_singleton]; omega) (snocC hf hb)
    ·refine Any.pos (by omega) ?_
     simp only [e1]
     exact ih _ _ _ hy (by rw [List.length_append, List.length_singleton]; omega) (snocC hf hb)
   refine Any.round (fun _ => by rw [spec_l19Draw.l0]) ?_
   refine Any.pos (by omega) ?_
   refine Any.opt (aBelow b _ _ 6 (by omega) c) ?_
   intro y hy
   refine Any.opt (aOnce b _ _ 8 hy.2) ?_
   intro z hz
   refine Any.ite (fun _ => ?_) (fun _ => ?_)
   ·refine Any.bind (a5Draw b _ _ hz) ?_
    intro v hv
    exact hj _ _ _ _ _ _ _ _ hv.2 (by omega)
   ·exact hj _ _ _ _ _ _ _ _ hz (by simp)
 have h := key x4.1.toNat [] x4.2.1 x4.2.2 h4.2 (by rw [List.length_nil]; omega) (by simp)
 have en : ((x4.1.toNat : Nat) : Int) = x4.1 := by omega
 rw [en] at h
 exact h
theorem l15Draw_ev (b : List Int) (i h : Int) (c : Cur b i) : ∃ l j g, Ev (fun k => spec_l15Draw.f k b i h) (l, j, g) ∧ l.length ≤ 7 ∧ (∀ y ∈ l, FitimplCapture y) ∧ Cur b j := by
 obtain ⟨n, j, g, e, hn, cj⟩ := l1Below_lt b i h 8 (by omega) c
 have key : ∀ (d : Nat) (l : List S40) (i h : Int), Cur b i → l.length + d ≤ 7 → (∀ y ∈ l, FitimplCapture y) → ∃ l' j g, Ev (fun k => spec_l15Draw.l0 k l (d : Int) b i h) (l', j, g) ∧ l'.length ≤ 7 ∧ (∀ y ∈ l', FitimplCapture y) ∧ Cur b j := by
  intro d
  induction d with
  | zero =>
   intro l i h c hl hd
   refine ⟨l, i, h, ?_, by omega, hd, c⟩
   refine Ev.round (fun _ => by rw [spec_l15Draw.l0]) ?_
   exact Ev.neg (by omega) (Ev.now _)
  | succ d ih =>
   intro l i h c hl hd
   obtain ⟨a, p, q, j, g, e, _, cj⟩ := l4Draw_some b i h c
   obtain ⟨t, j2, g2, e2, ht, cj2⟩ := l1Below_lt b j g 20 (by omega) cj
   obtain ⟨k0, bd, x, y, z, j3, g3, ev, hbd, cj3⟩ := l5Draw_ev b j2 g2 cj2
   have e1 : wrap64 (((d + 1 : Nat) : Int) - 1) = (d : Int) := by rw [w64 (by omega) (by omega)]; omega
   obtain ⟨l', j', g', ev', hl', hd', cj'⟩ := ih (l ++ [⟨⟨a, p, q⟩, t, ⟨k0, bd, ⟨x, y, z⟩⟩⟩]) j3 g3 cj3 (by rw [List.length_append, List.length_singleton]; omega) (by
    intro y hy
    rcases List.mem_append.1 hy with hy | hy
    ·exact hd y hy
    ·rw [List.mem_singleton] at hy
     rw [hy]
     show bd.length ≤ 1048576
     omega)
   refine ⟨l', j', g', ?_, hl', hd', cj'⟩
   refine Ev.round (fun _ => by rw [spec_l15Draw.l0]) ?_
   refine Ev.pos (by omega) ?_
   refine Ev.now_bind e ?_
   refine Ev.now_bind e2 ?_
   refine Ev.bind ev ?_
   refine Ev.pos (by omega) ?_
   simp only [e1]
   exact ev'
 obtain ⟨l, j', g', ev, hl, hd, cj'⟩ := key n.toNat [] j g cj (by simp; omega) (by simp)
 refine ⟨l, j', g', ?_, hl, hd, cj'⟩
 unfold spec_l15Draw.f
 refine Ev.now_bind e ?_
 have en : ((n.toNat : Nat) : Int) = n := by omega
 rw [en] at ev
 exact ev
theorem l1Int_some (b : List Int) (i h : Int) (l : List Int) (hl : 0 < l.length) (c : Cur b i) : ∃ x j g, spec_l1Int.f b i h l = some (x, j, g) ∧ x ∈ l ∧ Cur b j := by
 obtain ⟨x, j, g, e, hx, cj⟩ := l1Below_lt b i h (l.length : Int) (by omega) c
 unfold spec_l1Int.f
 rw [e]
 simp only [Option.bind_some]
 rw [if_pos hx.1, if_pos hx.2]
 refine ⟨_, _, _, rfl, ?_, cj⟩
 exact getD_mem l x.toNat (by omega) 0
theorem l4Raw_some (b : List Int) (i h : Int) (c : Cur b i) : ∃ x j g, spec_l4Raw.f b i h = some (x, j, g) ∧ (-9223372036854775808 ≤ x ∧ x ≤ 9223372036854775807) ∧ Cur b j := by
 unfold spec_l4Raw.f
 obtain ⟨x, j, g, e, hx, cj⟩ := l1Int_some b i h [-1, 0, 9, 10, 99, 100, 9223372036854775807, -9223372036854775808] (by simp) c
 rw [e]
 refine ⟨x, j, g, rfl, ?_, cj⟩
 simp only [List.mem_cons, List.not_mem_nil, or_false] at hx
 omega
theorem l4Any_some (b : List Int) (i h : Int) (c : Cur b i) : ∃ x y z j g, spec_l4Any.f b i h = some (x, y, z, j, g) ∧ Cur b j := by
 obtain ⟨x, y, z, j, g, e, _, cj⟩ := l4Draw_some b i h c
 obtain ⟨n, j2, g2, e2, hn, cj2⟩ := l1Below_lt b j g 9 (by omega) cj
 obtain ⟨v, j3, g3, e3, _, cj3⟩ := l4Raw_some b j2 g2 cj2
 unfold spec_l4Any.f
 rw [e, Option.bind_some]
 dsimp only
 rw [e2, Option.bind_some]
 dsimp only
 rw [e3, Option.bind_some, Option.bind_some, Option.bind_some]
 dsimp only
 by_cases h0 : n = 0
 ·rw [if_pos h0]
  exact ⟨_, _, _, _, _, rfl, cj3⟩
 ·rw [if_neg h0]
  by_cases h1 : n = 1
  ·rw [if_pos h1]
   exact ⟨_, _, _, _, _, rfl, cj3⟩
  ·rw [if_neg h1]
   by_cases h2 : n = 2
   ·rw [if_pos h2]
    exact ⟨_, _, _, _, _, rfl, cj3⟩
   ·rw [if_neg h2]
    exact ⟨_, _, _, _, _, rfl, cj2⟩
theorem l5Any_ev (b : List Int) (i h : Int) (c : Cur b i) : ∃ k0 l x y z j g, Ev (fun k => spec_l5Any.f k b i h) (k0, l, x, y, z, j, g) ∧ l.length ≤ 7 ∧ Cur b j := by
 obtain ⟨k0, l, x, y, z, j, g, ev, hl, cj⟩ := l5Draw_ev b i h c
 obtain ⟨n, j2, g2, e2, hn, cj2⟩ := l1Below_lt b j g 9 (by omega) cj
 unfold spec_l5Any.f
 by_cases h0 : n = 0
 ·obtain ⟨v, j3, g3, e3, _, cj3⟩ := l1Int_some b j2 g2 [0, 5, 3, 4] (by simp) cj2
  exact ⟨_, _, _, _, _, _, _, Ev.bind ev (Ev.now_bind e2 (Ev.pos h0 (Ev.now_bind e3 (Ev.now _)))), by dsimp only; omega, cj3⟩
 ·by_cases h1 : n = 1
  ·obtain ⟨v, j3, g3, e3, _, cj3⟩ := l1Int_some b j2 g2 [(-1), 255, 256] (by simp) cj2
   exact ⟨_, _, _, _, _, _, _, Ev.bind ev (Ev.now_bind e2 (Ev.neg h0 (Ev.pos h1 (Ev.now_bind e3 (Ev.pos (by dsimp only; omega) (Ev.now _)))))), by rw [List.length_append, List.length_singleton]; dsimp only; omega, cj3⟩
  ·by_cases h2 : n = 2
   ·exact ⟨_, _, _, _, _, _, _, Ev.bind ev (Ev.now_bind e2 (Ev.neg h0 (Ev.neg h1 (Ev.pos h2 (Ev.now _))))), by simp, cj2⟩
   ·by_cases h3 : n = 3
    ·obtain ⟨x3, y3, z3, j3, g3, e3, cj3⟩ := l4Any_some b j2 g2 cj2
     exact ⟨_, _, _, _, _, _, _, Ev.bind ev (Ev.now_bind e2 (Ev.neg h0 (Ev.neg h1 (Ev.neg h2 (Ev.pos h3 (Ev.now_bind e3 (Ev.now _))))))), by dsimp only; omega, cj3⟩
    ·exact ⟨_, _, _, _, _, _, _, Ev.bind ev (Ev.now_bind e2 (Ev.neg h0 (Ev.neg h1 (Ev.neg h2 (Ev.neg h3 (Ev.now _)))))), by dsimp only; omega, cj2⟩
theorem l15Any_ev (b : List Int) (i h : Int) (c : Cur b i) : ∃ l j g, Ev (fun k => spec_l15Any.f k b i h) (l, j, g) ∧ l.length ≤ 7 ∧ (∀ y ∈ l, FitimplCapture y) ∧ Cur b j := by
 obtain ⟨l, j, g, ev, hl, hf, cj⟩ := l15Draw_ev b i h c
 unfold spec_l15Any.f
 by_cases hz : (l.length : Int) = 0
 ·exact ⟨l, j, g, Ev.bind ev (Ev.pos hz (Ev.now _)), hl, hf, cj⟩
 obtain ⟨m, j2, g2, e2, hm, cj2⟩ := l1Below_lt b j g (l.length : Int) (by omega) cj
 obtain ⟨n, j3, g3, e3, hn, cj3⟩ := l1Below_lt b j2 g2 9 (by omega) cj2
 have hset : ∀ y : S40, FitimplCapture y → (l.set (m : Int).toNat y).length ≤ 7 ∧ ∀ z ∈ l.set (m : Int).toNat y, FitimplCapture z := by
  intro y hy
  refine ⟨by rw [List.length_set]; exact hl, fun z hz => ?_⟩
  rcases List.mem_or_eq_of_mem_set hz with hz | hz
  ·exact hf z hz
  ·rw [hz]; exact hy
 have hrd : FitimplCapture (rd_T40 l m) := by
  have h1 := getD_mem l m.toNat (by omega) z40
  exact hf _ h1
 by_cases h0 : n = 0
 ·obtain ⟨x3, y3, z3, j4, g4, e4, cj4⟩ := l4Any_some b j3 g3 cj3
  obtain ⟨s1, s2⟩ := hset ⟨⟨x3, y3, z3⟩, (rd_T40 l m).f1, ⟨(rd_T40 l m).f2.f0, (rd_T40 l m).f2.f1, ⟨(rd_T40 l m).f2.f2.f0, (rd_T40 l m).f2.f2.f1, (rd_T40 l m).f2.f2.f2⟩⟩⟩ hrd
  exact ⟨_, _, _, Ev.bind ev (Ev.neg hz (Ev.now_bind e2 (Ev.now_bind e3 (Ev.pos h0 (Ev.now_bind e4 (Ev.pos hm.1 (Ev.pos hm.2 (Ev.now _)))))))), s1, s2, cj4⟩
 ·by_cases h1 : n = 1
  ·obtain ⟨v, j4, g4, e4, _, cj4⟩ := l1Int_some b j3 g3 [(-1), 2000, 2001, 9223372036854775807] (by simp) cj3
   obtain ⟨s1, s2⟩ := hset ⟨⟨(rd_T40 l m).f0.f0, (rd_T40 l m).f0.f1, (rd_T40 l m).f0.f2⟩, v, ⟨(rd_T40 l m).f2.f0, (rd_T40 l m).f2.f1, ⟨(rd_T40 l m).f2.f2.f0, (rd_T40 l m).f2.f2.f1, (rd_T40 l m).f2.f2.f2⟩⟩⟩ hrd
   exact ⟨_, _, _, Ev.bind ev (Ev.neg hz (Ev.now_bind e2 (Ev.now_bind e3 (Ev.neg h0 (Ev.pos h1 (Ev.now_bind e4 (Ev.pos hm.1 (Ev.pos hm.2 (Ev.now _))))))))), s1, s2, cj4⟩
  ·by_cases h2 : n = 2
   ·obtain ⟨k0, bd, x, y, z, j4, g4, ev4, hbd, cj4⟩ := l5Any_ev b j3 g3 cj3
    obtain ⟨s1, s2⟩ := hset ⟨⟨(rd_T40 l m).f0.f0, (rd_T40 l m).f0.f1, (rd_T40 l m).f0.f2⟩, (rd_T40 l m).f1, ⟨k0, bd, ⟨x, y, z⟩⟩⟩ (show bd.length ≤ 1048576 by omega)
    exact ⟨_, _, _, Ev.bind ev (Ev.neg hz (Ev.now_bind e2 (Ev.now_bind e3 (Ev.neg h0 (Ev.neg h1 (Ev.pos h2 (Ev.bind ev4 (Ev.pos hm.1 (Ev.pos hm.2 (Ev.now _)))))))))), s1, s2, cj4⟩
   ·exact ⟨_, _, _, Ev.bind ev (Ev.neg hz (Ev.now_bind e2 (Ev.now_bind e3 (Ev.neg h0 (Ev.neg h1 (Ev.neg h2 (Ev.now _))))))), hl, hf, cj3⟩
theorem a15Any (b : List Int) (i h : Int) (c : Cur b i) : Any (fun k => spec_l15Any.f k b i h) (fun x => x.1.length ≤ 7 ∧ (∀ y ∈ x.1, FitimplCapture y) ∧ Cur b x.2.1) := by
 obtain ⟨l, j, g, e, hl, hf, cj⟩ := l15Any_ev b i h c
 exact ⟨_, e, hl, hf, cj⟩
theorem a4Any (b : List Int) (i h : Int) (c : Cur b i) : ∃ x, spec_l4Any.f b i h = some x ∧ Cur b x.2.2.2.1 := by
 obtain ⟨x, y, z, j, g, e, cj⟩ := l4Any_some b i h c
 exact ⟨(x, y, z, j, g), e, cj⟩
theorem drawLearnForm_any (b : List Int) (hb : b.length ≤ 1048576) : Any (fun k => spec_DrawLearnForm.f k b) (fun x => x.1.length ≤ 7 ∧ (∀ y ∈ x.1, FitimplCapture y)) := by
 have hj : ∀ (l : List S40) (i h a p q : Int), Cur b i → l.length ≤ 7 → (∀ y ∈ l, FitimplCapture y) → Any (fun k => spec_DrawLearnForm.j0 k l b i h a p q) (fun x => x.1.length ≤ 7 ∧ (∀ y ∈ x.1, FitimplCapture y)) := by
  intro l i h a p q c hl hf
  refine Any.round (fun _ => by rw [spec_DrawLearnForm.j0]) ?_
  refine Any.opt (aOnce b _ _ 10 c) ?_
  intro y hy
  refine Any.ite (fun _ => ?_) (fun _ => ?_)
  ·refine Any.opt (a4Any b _ _ hy) ?_
   intro z hz
   exact Any.now ⟨hl, hf⟩
  ·exact Any.now ⟨hl, hf⟩
 unfold spec_DrawLearnForm.f
 refine Any.bind (aNew b hb) ?_
 intro x hx
 rw [hx.1]
 refine Any.bind (a19Draw b _ _ hx.2) ?_
 intro y hy
 refine Any.opt (aOnce b _ _ 10 hy.2.2) ?_
 intro z hz
 refine Any.ite (fun _ => ?_) (fun _ => ?_)
 ·refine Any.bind (a15Any b _ _ hz) ?_
  intro v hv
  exact hj _ _ _ _ _ _ hv.2.2 hv.1 hv.2.1
 ·exact hj _ _ _ _ _ _ hz (by omega) hy.2.1
theorem InRange_eq (a b c : Int) : impl_InRange.f a b c = some (decide (b ≤ a) && decide (a ≤ c)) := by
 unfold impl_InRange.f
 by_cases h : b ≤ a <;> simp [h]
theorem iIsAddress_eq (h p q : Int) : impl_IsAddress.f h p q = some (pAddr h p q) := by
 simp only [impl_IsAddress.f, InRange_eq, Option.bind_some, some_and]
theorem allIn_ev (l : List Int) (a b : Int) (h : l.length ≤ 1048576) : Ev (fun k => impl_allIn.f k l a b) (l.all (pIn · a b)) := by
 unfold impl_allIn.f
 refine Ev.cast (ev_all (fun k i => impl_allIn.l0 k a b l (l.length : Int) i) l 0 (pIn · a b) true (fun k => by rw [impl_allIn.l0, if_neg (by omega)]) ?_ ?_) (Bool.and_true _)
 ·intro i hi hp r hr
  have e1 : wrap64 ((i : Int) + 1) = ((i + 1 : Nat) : Int) := by rw [w64 (by omega) (by omega)]; omega
  refine Ev.round (fun _ => by rw [impl_allIn.l0]) ?_
  refine Ev.pos (by omega) ?_
  refine Ev.pos (by omega) ?_
  refine Ev.pos (by omega) ?_
  refine Ev.now_bind (InRange_eq _ _ _) ?_
  refine Ev.pos ?_ ?_
  ·rw [rd_nat]; exact hp
  ·simp only [e1]; exact hr
 ·intro i hi hp
  refine Ev.round (fun _ => by rw [impl_allIn.l0]) ?_
  refine Ev.pos (by omega) ?_
  refine Ev.pos (by omega) ?_
  refine Ev.pos (by omega) ?_
  refine Ev.now_bind (InRange_eq _ _ _) ?_
  refine Ev.neg ?_ (Ev.now _)
  rw [rd_nat]; exact ne_true_of_eq_false hp
def pRes (k : Int) (b : List Int) (h p q : Int) : Bool :=
 if k = 1 ∨ k = 2 then decide ((b.length : Int) ≤ 6) && (b.all (pIn · 0 255) && pZero h p q)
 else if k = 3 then decide ((b.length : Int) = 0) && pAddr h p q
 else if k = 4 then decide ((b.length : Int) = 0) && pZero h p q
 else false
theorem iIsResource_ev (k : Int) (b : List Int) (h p q : Int) (hb : b.length ≤ 1048576) : Ev (fun n => impl_IsResource.f n k b h p q) (pRes k b h p q) := by
 have hj : ∀ x : Bool, (x = true ↔ k = 1 ∨ k = 2) → Ev (fun n => impl_IsResource.j0 n k x k b h p q) (pRes k b h p q) := by
  intro x hx
  refine Ev.round (fun _ => by rw [impl_IsResource.j0]) ?_
  unfold pRes
  cases x with
  | true =>
   refine Ev.rpos (hx.1 rfl) ?_
   refine Ev.pos rfl ?_
   exact Ev.if_and fun _ => Ev.and (allIn_ev b 0 255 hb) fun _ => Ev.now _
  | false =>
   have hno : ¬ (k = 1 ∨ k = 2) := fun c => by simpa using hx.2 c
   refine Ev.rneg hno ?_
   refine Ev.neg (by simp) ?_
   by_cases h3 : k = 3
   ·refine Ev.rpos h3 ?_
    refine Ev.pos h3 ?_
    exact Ev.if_and fun _ => Ev.now_bind (iIsAddress_eq _ _ _) (Ev.now _)
   ·refine Ev.rneg h3 ?_
    refine Ev.neg h3 ?_
    by_cases h4 : k = 4
    ·refine Ev.rpos h4 ?_
     refine Ev.pos h4 ?_
     exact Ev.if_and fun _ => Ev.now _
    ·refine Ev.rneg h4 ?_
     refine Ev.neg h4 ?_
     exact Ev.now _
 unfold impl_IsResource.f
 by_cases h1 : k = 1
 ·refine Ev.pos h1 (hj _ ?_)
  simp [h1]
 ·refine Ev.neg h1 (hj _ ?_)
  simp [h1]
def pCapture (y : S40) : Bool := pAddr y.f0.f0 y.f0.f1 y.f0.f2 && (pIn y.f1 0 2000 && pRes y.f2.f0 y.f2.f1 y.f2.f2.f0 y.f2.f2.f1 y.f2.f2.f2)
def pAreCaptures (l : List S40) : Bool := l.all pCapture && decide ((l.length : Int) ≤ 20)
theorem iAreCapturesLit_ev (y : S40) (hf : FitimplCapture y) : Ev (fun k => impl_AreCaptures_lit1.f k y.f0.f0 y.f0.f1 y.f0.f2 y.f1 y.f2.f0 y.f2.f1 y.f2.f2.f0 y.f2.f2.f1 y.f2.f2.f2) (!pCapture y) := by
 unfold impl_AreCaptures_lit1.f pCapture
 refine Ev.now_bind (iIsAddress_eq _ _ _) ?_
 cases p1 : pAddr y.f0.f0 y.f0.f1 y.f0.f2 with
 | false => exact Ev.neg (by simp) (Ev.now _)
 | true =>
  refine Ev.pos rfl ?_
  refine Ev.now_bind (InRange_eq _ _ _) ?_
  cases p2 : pIn y.f1 0 2000 with
  | false => exact Ev.neg (ne_true_of_eq_false p2) (Ev.now _)
  | true =>
   refine Ev.pos p2 ?_
   rw [Bool.true_and, Bool.true_and]
   exact Ev.no (iIsResource_ev _ _ _ _ _ hf)
theorem iAreCaptures_ev (l : List S40) (h : l.length ≤ 1048576) (hf : ∀ y ∈ l, FitimplCapture y) : Ev (fun k => impl_AreCaptures.f k l) (pAreCaptures l) := by
 unfold impl_AreCaptures.f pAreCaptures
 rw [Bool.and_comm]
 refine Ev.if_and fun _ => ?_
 rw [← any_not]
 refine Ev.no ?_
 unfold slices_ContainsFunc_73.f
 have hf : ∃ r : Int, Ev (fun k => slices_IndexFunc_73.l0 k l (l.length : Int) 0) r ∧ decide (r ≥ 0) = l.any (fun y => !pCapture y) := by
  refine ev_find (fun k i => slices_IndexFunc_73.l0 k l (l.length : Int) i) l z40 (fun y => !pCapture y) (fun k => by rw [slices_IndexFunc_73.l0, if_neg (by omega)]) ?_ ?_
  ·intro i hi hp
   refine Ev.round (fun _ => by rw [slices_IndexFunc_73.l0]) ?_
   refine Ev.pos (by omega) ?_
   refine Ev.pos (by omega) ?_
   refine Ev.pos (by omega) ?_
   refine Ev.bind (iAreCapturesLit_ev (rd_T40 l (i : Int)) (hf _ (getD_mem l i hi z40))) ?_
   refine Ev.pos hp ?_
   exact Ev.now _
  ·intro i hi hp r hr
   have e1 : wrap64 ((i : Int) + 1) = ((i + 1 : Nat) : Int) := by rw [w64 (by omega) (by omega)]; omega
   refine Ev.round (fun _ => by rw [slices_IndexFunc_73.l0]) ?_
   refine Ev.pos (by omega) ?_
   refine Ev.pos (by omega) ?_
   refine Ev.pos (by omega) ?_
   refine Ev.bind (iAreCapturesLit_ev (rd_T40 l (i : Int)) (hf _ (getD_mem l i hi z40))) ?_
   refine Ev.neg (ne_true_of_eq_false hp) ?_
   simp only [e1]
   exact hr
 obtain ⟨r, hr, hd⟩ := hf
 rw [← hd]
 exact Ev.bind hr (Ev.now _)
theorem hasBody_eq (k : Int) : impl_hasBody.f k = some (decide (k = 1 ∨ k = 2)) := by
 unfold impl_hasBody.f
 by_cases h : k = 1
 ·simp [h]
 ·by_cases h2 : k = 2
  ·simp [h2]
  ·simp [h, h2]
def pSum (b : List Int) : Int := b.foldl (fun x y => x + y) 0
def pVal (k : Int) (b : List Int) (h p q : Int) : Int :=
 if pRes k b h p q = true ∧ (k = 1 ∨ k = 2) then (if pSum b % 1000 < 999 then pSum b % 1000 + 1 else 999) else 0
theorem fold_mod (b : List Int) : ∀ x : Int, b.foldl (fun x y => (x + y) % 1000) (x % 1000) = (b.foldl (fun x y => x + y) x) % 1000 := by
 induction b with
 | nil => intro x; rfl
 | cons y b ih =>
  intro x
  rw [List.foldl_cons, List.foldl_cons, ← ih (x + y)]
  congr 1
  omega
theorem pRes_body {k : Int} {b : List Int} {h p q : Int} (hr : pRes k b h p q = true) (hk : k = 1 ∨ k = 2) : b.length ≤ 6 ∧ ∀ y ∈ b, 0 ≤ y ∧ y ≤ 255 := by
 unfold pRes at hr
 rw [if_pos hk] at hr
 simp only [Bool.and_eq_true, decide_eq_true_eq, List.all_eq_true] at hr
 exact ⟨by omega, fun y hy => hr.2.1 y hy⟩
theorem iValue_ev (k : Int) (b : List Int) (h p q : Int) (hb : b.length ≤ 1048576) : Ev (fun n => impl_ValueOfResource.f n k b h p q) (pVal k b h p q) := by
 have hj1 : Ev (fun n => impl_ValueOfResource.j0 n true k b h p q) 0 := by
  refine Ev.round (fun _ => by rw [impl_ValueOfResource.j0]) ?_
  refine Ev.pos rfl ?_
  exact Ev.now _
 unfold impl_ValueOfResource.f pVal
 refine Ev.bind (iIsResource_ev k b h p q hb) ?_
 cases hr : pRes k b h p q with
 | false =>
  refine Ev.neg (by simp) ?_
  exact Ev.cast hj1 (by simp)
 | true =>
  refine Ev.pos rfl ?_
  refine Ev.now_bind (hasBody_eq k) ?_
  by_cases hk : k = 1 ∨ k = 2
  ·rw [if_pos ⟨rfl, hk⟩, decide_eq_true hk]
   obtain ⟨hl, hy⟩ := pRes_body hr hk
   refine Ev.round (fun _ => by rw [impl_ValueOfResource.j0]) ?_
   refine Ev.neg (by simp) ?_
   refine ev_foldl (fun n x i => impl_ValueOfResource.l0 n x b (b.length : Int) i) b 0 (fun x y => x + y) (fun x => if x % 1000 < 999 then x % 1000 + 1 else 999) (fun i x => 0 ≤ x ∧ x ≤ 255 * (i : Int)) 0 ⟨by omega, by omega⟩ ?_ ?_
   ·intro x hx
    have e2 : Int.tmod x 1000 = x % 1000 := Int.tmod_eq_emod_of_nonneg (by omega)
    refine Ev.round (fun _ => by rw [impl_ValueOfResource.l0]) ?_
    refine Ev.neg (by omega) ?_
    simp only [e2]
    by_cases c : x % 1000 < 999
    ·refine Ev.rpos c ?_
     refine Ev.pos c ?_
     rw [w64 (by omega) (by omega)]
     exact Ev.now _
    ·refine Ev.rneg c ?_
     refine Ev.neg c ?_
     exact Ev.cast (Ev.now _) (by omega)
   ·intro i x hi hx
    have e1 : wrap64 ((i : Int) + 1) = ((i + 1 : Nat) : Int) := by rw [w64 (by omega) (by omega)]; omega
    have hv := hy _ (getD_mem b i hi 0)
    refine ⟨⟨by omega, by omega⟩, fun r hr2 => ?_⟩
    refine Ev.round (fun _ => by rw [impl_ValueOfResource.l0]) ?_
    refine Ev.pos (by omega) ?_
    refine Ev.pos (by omega) ?_
    refine Ev.pos (by omega) ?_
    have e2 : wrap64 (x + rd b (i : Int)) = x + b.getD i 0 := by
     rw [rd_nat, w64 (by omega) (by omega)]
    simp only [e1, e2]
    exact hr2
  ·rw [if_neg (fun c => hk c.2), decide_eq_false hk]
   exact hj1
theorem l1In_eq (a b c : Int) : spec_l1In.f a b c = some (decide (b ≤ a) && decide (a ≤ c)) := by
 unfold spec_l1In.f
 by_cases h : b ≤ a <;> simp [h]
theorem tmod1000 (a : Int) : Int.tmod (Int.tmod a 1000 + 1000) 1000 = a % 1000 ∧ -1000 < Int.tmod a 1000 ∧ Int.tmod a 1000 < 1000 := by
 rcases Int.le_total 0 a with h | h
 ·rw [Int.tmod_eq_emod_of_nonneg h, Int.tmod_eq_emod_of_nonneg (by omega)]
  omega
 ·obtain ⟨m, rfl⟩ : ∃ m : Int, a = -m := ⟨-a, by omega⟩
  rw [Int.neg_tmod, Int.tmod_eq_emod_of_nonneg (by omega : 0 ≤ m), Int.tmod_eq_emod_of_nonneg (by omega)]
  omega
theorem sMod_eq (a : Int) : spec_Mod.f a 1000 = some (a % 1000) := by
 obtain ⟨h1, h2, h3⟩ := tmod1000 a
 unfold spec_Mod.f
 rw [l1In_eq, w64 (by omega) (by omega), h1]
 simp
theorem iMod_eq (a : Int) : impl_Mod.f a 1000 = some (a % 1000) := by
 obtain ⟨h1, h2, h3⟩ := tmod1000 a
 unfold impl_Mod.f
 rw [InRange_eq, w64 (by omega) (by omega), h1]
 simp
def pFits (m0 m1 aq k : Int) (b : List Int) (h p z : Int) : Bool :=
 pIn m0 0 999 && (pIn m1 0 999 && ((pRes k b h p z && decide (k ≤ 2)) && (pIn aq 0 99 && (pVal k b h p z == (m0 + m1 * aq) % 1000))))
theorem says_bound {m0 m1 q : Int} (a : pIn m0 0 999 = true) (b : pIn m1 0 999 = true) (c : pIn q 0 99 = true) : 0 ≤ m1 * q ∧ m1 * q ≤ 98901 ∧ 0 ≤ m0 ∧ m0 ≤ 999 := by
 simp only [pIn, Bool.and_eq_true, decide_eq_true_eq] at a b c
 have p0 : 0 ≤ m1 * q := Int.mul_nonneg b.1 c.1
 have p1 : m1 * q ≤ 999 * 99 := Int.mul_le_mul b.2 c.2 c.1 (by omega)
 omega
theorem pRes_kind {k : Int} {b : List Int} {h p q : Int} (hr : pRes k b h p q = true) : 1 ≤ k ∧ k ≤ 4 := by
 unfold pRes at hr
 by_cases h1 : k = 1 ∨ k = 2
 ·omega
 rw [if_neg h1] at hr
 by_cases h3 : k = 3
 ·omega
 rw [if_neg h3] at hr
 by_cases h4 : k = 4
 ·omega
 rw [if_neg h4] at hr
 simp at hr
abbrev Mdl := Int × Int × Int × Bool
def valOf (y : S40) : Int := pVal y.f2.f0 y.f2.f1 y.f2.f2.f0 y.f2.f2.f1 y.f2.f2.f2
theorem pVal_in (k : Int) (b : List Int) (h p q : Int) : 0 ≤ pVal k b h p q ∧ pVal k b h p q ≤ 999 := by
 unfold pVal
 split
 ·split
  ·omega
  ·omega
 ·omega
def pMine (a p : Int) (y : S40) : Bool := (y.f0.f0 == a && y.f0.f1 == p) && decide (y.f2.f0 = 1 ∨ y.f2.f0 = 2)
def pFit (b s : Int) (y : S40) : Bool := valOf y == (b + s * y.f0.f2) % 1000
def pHit (v q : Int) (y : S40) (s : Int) : Bool := pFit ((v - s * q) % 1000) s y
def pSearch (v q : Int) (y : S40) : Nat → Option Int
 | 0 => none
 | d + 1 => if pHit v q y (1000 - ((d : Int) + 1)) = true then some (1000 - ((d : Int) + 1)) else pSearch v q y d
theorem pSearch_in (v q : Int) (y : S40) (s : Int) : ∀ d : Nat, d ≤ 1000 → pSearch v q y d = some s → 0 ≤ s ∧ s ≤ 999 := by
 intro d
 induction d with
 | zero => intro _ h; cases h
 | succ d ih =>
  intro hd h
  unfold pSearch at h
  split at h
  ·have := Option.some.inj h
   omega
  ·exact ih (by omega) h
def finOf (m : List S40) (b s : Int) : Mdl := (b, s, (m.length : Int), m.all (pFit b s))
def learnOf (m : List S40) (v q : Int) (o : Option S40) : Mdl :=
 match o with
 | none => finOf m v 0
 | some y => match pSearch v q y 1000 with
  | none => finOf m v 0
  | some s => finOf m ((v - s * q) % 1000) s
def pOther (q : Int) (y : S40) : Bool := !(y.f0.f2 == q)
def pModel (m : List S40) : Mdl := if (m.length : Int) = 0 then (0, 0, 0, true) else learnOf m (valOf (rd_T40 m 0)) (rd_T40 m 0).f0.f2 (m.find? (pOther (rd_T40 m 0).f0.f2))
def mineStep (a p : Int) (s : List S40) (y : S40) : List S40 := if pMine a p y = true then s ++ [y] else s
def pLearn (l : List S40) (a p q : Int) : Mdl := if pAreCaptures l = true ∧ pAddr a p q = true then pModel (l.foldl (mineStep a p) []) else (0, 0, 0, false)
/-- What stands on the list of those that count. -/
def GoodC (a p : Int) (y : S40) : Prop := FitimplCapture y ∧ pIn y.f0.f2 0 99 = true ∧ pRes y.f2.f0 y.f2.f1 y.f2.f2.f0 y.f2.f2.f1 y.f2.f2.f2 = true ∧ (y.f2.f0 = 1 ∨ y.f2.f0 = 2) ∧ y.f0.f0 = a ∧ y.f0.f1 = p
theorem goodC_of {a p : Int} {y : S40} (hf : FitimplCapture y) (hc : pCapture y = true) (hm : pMine a p y = true) : GoodC a p y := by
 unfold pCapture at hc
 unfold pMine at hm
 simp only [Bool.and_eq_true, decide_eq_true_eq, beq_iff_eq] at hc hm
 refine ⟨hf, ?_, hc.2.2, hm.2, hm.1.1, hm.1.2⟩
 have h1 := hc.1
 simp [pIn] at h1 ⊢
 omega
theorem pFits_good {a p b s : Int} {y : S40} (h : GoodC a p y) (hb : 0 ≤ b ∧ b ≤ 999) (hs : 0 ≤ s ∧ s ≤ 999) : pFits b s y.f0.f2 y.f2.f0 y.f2.f1 y.f2.f2.f0 y.f2.f2.f1 y.f2.f2.f2 = pFit b s y := by
 obtain ⟨_, h1, h2, h3, _⟩ := h
 have e0 : pIn b 0 999 = true := by simp only [pIn, Bool.and_eq_true, decide_eq_true_eq]; exact hb
 have e1 : pIn s 0 999 = true := by simp only [pIn, Bool.and_eq_true, decide_eq_true_eq]; exact hs
 have e2 : decide (y.f2.f0 ≤ 2) = true := decide_eq_true (by omega)
 unfold pFits pFit valOf
 rw [e0, e1, h2, e2, h1]
 simp only [Bool.true_and]
theorem mul_in {s q : Int} (hs : 0 ≤ s ∧ s ≤ 999) (hq : pIn q 0 99 = true) : 0 ≤ s * q ∧ s * q ≤ 98901 := by
 simp only [pIn, Bool.and_eq_true, decide_eq_true_eq] at hq
 have p0 : 0 ≤ s * q := Int.mul_nonneg hs.1 hq.1
 have p1 : s * q ≤ 999 * 99 := Int.mul_le_mul hs.2 hq.2 hq.1 (by omega)
 omega
theorem mine_good (a p : Int) (l : List S40) (hf : ∀ y ∈ l, FitimplCapture y) (hc : pAreCaptures l = true) : ∀ y ∈ l, FitimplCapture y ∧ pCapture y = true := by
 unfold pAreCaptures at hc
 simp only [Bool.and_eq_true, List.all_eq_true] at hc
 exact fun y hy => ⟨hf y hy, hc.1 y hy⟩
theorem iSays2_eq {a p b s : Int} {y : S40} (hy : GoodC a p y) (hb : 0 ≤ b ∧ b ≤ 999) (hs : 0 ≤ s ∧ s ≤ 999) (n : Int) (f : Bool) : impl_Model_says.f b s n f y.f0.f2 = some ((b + s * y.f0.f2) % 1000) := by
 have hm := mul_in hs hy.2.1
 unfold impl_Model_says.f
 rw [w64 (n := s * y.f0.f2) (by omega) (by omega), w64 (n := b + s * y.f0.f2) (by omega) (by omega), iMod_eq]
 rfl
theorem iFin_ev {a p : Int} (m : List S40) (hm : m.length ≤ 1048576) (hg : ∀ y ∈ m, GoodC a p y) (b s n : Int) (hb : 0 ≤ b ∧ b ≤ 999) (hs : 0 ≤ s ∧ s ≤ 999) : ∀ d i : Nat, i + d = m.length → ∀ f : Bool, Ev (fun k => impl_LearnForm.l3 k m (m.length : Int) (i : Int) b s n f) (b, s, n, f && (m.drop i).all (pFit b s)) := by
 intro d
 induction d with
 | zero =>
  intro i hi f
  obtain rfl : i = m.length := by omega
  rw [List.drop_length, List.all_nil, Bool.and_true]
  refine Ev.round (fun _ => by rw [impl_LearnForm.l3]) ?_
  exact Ev.neg (by omega) (Ev.now _)
 | succ d ih =>
  intro i hi f
  have hil : i < m.length := by omega
  have e1 : wrap64 ((i : Int) + 1) = ((i + 1 : Nat) : Int) := by rw [w64 (by omega) (by omega)]; omega
  have hgy : GoodC a p (rd_T40 m (i : Int)) := hg _ (getD_mem m i hil z40)
  rw [drop_cons m i hil z40, List.all_cons]
  have hgd : m.getD i z40 = rd_T40 m (i : Int) := rfl
  rw [hgd]
  refine Ev.round (fun _ => by rw [impl_LearnForm.l3]) ?_
  refine Ev.pos (by omega) ?_
  refine Ev.pos (by omega) ?_
  refine Ev.pos (by omega) ?_
  cases f with
  | true =>
   refine Ev.pos rfl ?_
   refine Ev.now_bind (iSays2_eq hgy hb hs _ _) ?_
   refine Ev.bind (iValue_ev _ _ _ _ _ hgy.1) ?_
   simp only [e1]
   have e2 : ((b + s * (rd_T40 m (i : Int)).f0.f2) % 1000 == pVal (rd_T40 m (i : Int)).f2.f0 (rd_T40 m (i : Int)).f2.f1 (rd_T40 m (i : Int)).f2.f2.f0 (rd_T40 m (i : Int)).f2.f2.f1 (rd_T40 m (i : Int)).f2.f2.f2) = pFit b s (rd_T40 m (i : Int)) := by
    unfold pFit valOf
    rw [Bool.beq_comm]
   rw [e2, Bool.true_and]
   exact ih (i + 1) (by omega) _
  | false =>
   refine Ev.neg (by simp) ?_
   simp only [e1]
   have h := ih (i + 1) (by omega) false
   rw [Bool.false_and] at h ⊢
   exact h
theorem iSearch_ev {a p : Int} (m : List S40) (x y : S40) (hx : GoodC a p x) (hy : GoodC a p y) (b0 s0 n : Int) (r : Mdl) (fin : ∀ b s : Int, 0 ≤ b ∧ b ≤ 999 → 0 ≤ s ∧ s ≤ 999 → Ev (fun k => impl_LearnForm.j4 k m b s n true) (finOf m b s))
  (none_ : Ev (fun k => impl_LearnForm.j4 k m b0 s0 n true) r) : ∀ d : Nat, d ≤ 1000 → ∀ c : Int, c = 1000 - (d : Int) → Ev (fun k => impl_LearnForm.l2 k m x.f0.f2 (valOf x) c b0 s0 n true y.f0.f0 y.f0.f1 y.f0.f2 y.f1 y.f2.f0 y.f2.f1 y.f2.f2.f0 y.f2.f2.f1 y.f2.f2.f2) (match pSearch (valOf x) x.f0.f2 y d with | none => r | some s => finOf m ((valOf x - s * x.f0.f2) % 1000) s) := by
 have hv : 0 ≤ valOf x ∧ valOf x ≤ 999 := pVal_in _ _ _ _ _
 intro d
 induction d with
 | zero =>
  intro _ c hc
  refine Ev.round (fun _ => by rw [impl_LearnForm.l2]) ?_
  exact Ev.neg (by omega) none_
 | succ d ih =>
  intro hd c hc
  have h := ih (by omega) (c + 1) (by omega)
  have hm := mul_in (s := c) ⟨by omega, by omega⟩ hx.2.1
  have e1 : wrap64 (c + 1) = c + 1 := w64 (by omega) (by omega)
  have e2 : wrap64 (c * x.f0.f2) = c * x.f0.f2 := w64 (by omega) (by omega)
  have e3 : wrap64 (valOf x - c * x.f0.f2) = valOf x - c * x.f0.f2 := w64 (by omega) (by omega)
  refine Ev.round (fun _ => by rw [impl_LearnForm.l2]) ?_
  refine Ev.pos (by omega) ?_
  simp only [e1, e2, e3]
  refine Ev.now_bind (iMod_eq _) ?_
  refine Ev.now_bind (iSays2_eq hy ⟨by omega, by omega⟩ ⟨by omega, by omega⟩ _ _) ?_
  refine Ev.bind (iValue_ev _ _ _ _ _ hy.1) ?_
  have hv2 : pVal y.f2.f0 y.f2.f1 y.f2.f2.f0 y.f2.f2.f1 y.f2.f2.f2 = valOf y := rfl
  rw [hv2]
  unfold pSearch
  have e6 : (1000 : Int) - ((d : Int) + 1) = c := by omega
  rw [e6]
  by_cases hp : ((valOf x - c * x.f0.f2) % 1000 + c * y.f0.f2) % 1000 = valOf y
  ·have hp2 : pHit (valOf x) x.f0.f2 y c = true := by
    unfold pHit pFit
    rw [hp]
    simp
   rw [if_pos hp2]
   refine Ev.pos hp ?_
   exact fin _ _ ⟨by omega, by omega⟩ ⟨by omega, by omega⟩
  ·have hp2 : ¬ pHit (valOf x) x.f0.f2 y c = true := by
    unfold pHit pFit
    rw [beq_iff_eq]
    exact fun z => hp z.symm
   rw [if_neg hp2]
   exact Ev.neg hp h
theorem iModel_ev {a p : Int} (m : List S40) (hm : m.length ≤ 1048576) (h0 : 0 < m.length) (hg : ∀ y ∈ m, GoodC a p y) : Ev (fun k => impl_LearnForm.l1 k m (rd_T40 m 0).f0.f2 (valOf (rd_T40 m 0)) m (m.length : Int) 0 (valOf (rd_T40 m 0)) 0 (m.length : Int) true) (learnOf m (valOf (rd_T40 m 0)) (rd_T40 m 0).f0.f2 (m.find? (pOther (rd_T40 m 0).f0.f2))) := by
 have hgx : GoodC a p (rd_T40 m 0) := hg _ (getD_mem m 0 h0 z40)
 have hvx : 0 ≤ valOf (rd_T40 m 0) ∧ valOf (rd_T40 m 0) ≤ 999 := pVal_in _ _ _ _ _
 have fin : ∀ b s : Int, 0 ≤ b ∧ b ≤ 999 → 0 ≤ s ∧ s ≤ 999 → Ev (fun k => impl_LearnForm.j4 k m b s (m.length : Int) true) (finOf m b s) := by
  intro b s hb hs
  refine Ev.round (fun _ => by rw [impl_LearnForm.j4]) ?_
  have h := iFin_ev m hm hg b s (m.length : Int) hb hs m.length 0 (by omega) true
  rw [List.drop_zero, Bool.true_and] at h
  exact h
 generalize rd_T40 m 0 = x at hgx hvx
 have key : ∀ d i : Nat, i + d = m.length → Ev (fun k => impl_LearnForm.l1 k m x.f0.f2 (valOf x) m (m.length : Int) (i : Int) (valOf x) 0 (m.length : Int) true) (learnOf m (valOf x) x.f0.f2 ((m.drop i).find? (pOther x.f0.f2))) := by
  intro d
  induction d with
  | zero =>
   intro i hi
   obtain rfl : i = m.length := by omega
   rw [List.drop_length, List.find?_nil]
   refine Ev.round (fun _ => by rw [impl_LearnForm.l1]) ?_
   exact Ev.neg (by omega) (fin _ _ hvx ⟨by omega, by omega⟩)
  | succ d ih =>
   intro i hi
   have hil : i < m.length := by omega
   have e1 : wrap64 ((i : Int) + 1) = ((i + 1 : Nat) : Int) := by rw [w64 (by omega) (by omega)]; omega
   have hgy : GoodC a p (rd_T40 m (i : Int)) := hg _ (getD_mem m i hil z40)
   have h := ih (i + 1) (by omega)
   rw [drop_cons m i hil z40]
   have hgd : m.getD i z40 = rd_T40 m (i : Int) := rfl
   rw [hgd]
   refine Ev.round (fun _ => by rw [impl_LearnForm.l1]) ?_
   refine Ev.pos (by omega) ?_
   refine Ev.pos (by omega) ?_
   refine Ev.pos (by omega) ?_
   generalize rd_T40 m (i : Int) = y at hgy
   simp only [e1]
   by_cases hp : y.f0.f2 = x.f0.f2
   ·have hp2 : pOther x.f0.f2 y = false := by unfold pOther; rw [hp]; simp
    rw [List.find?_cons_of_neg (by rw [hp2]; simp)]
    exact Ev.pos hp h
   ·have hp2 : pOther x.f0.f2 y = true := by unfold pOther; simp [hp]
    rw [List.find?_cons_of_pos hp2]
    refine Ev.neg hp ?_
    have hs := iSearch_ev m x y hgx hgy (valOf x) 0 (m.length : Int) (finOf m (valOf x) 0) fin (fin _ _ hvx ⟨by omega, by omega⟩) 1000 (by omega) 0 (by omega)
    unfold learnOf
    exact hs
 have hk := key m.length 0 (by omega)
 rw [List.drop_zero] at hk
 exact hk
theorem iLearn_ev (l : List S40) (a p q : Int) (h : l.length ≤ 1048576) (hf : ∀ y ∈ l, FitimplCapture y) : Ev (fun k => impl_LearnForm.f k l a p q) (pLearn l a p q) := by
 unfold impl_LearnForm.f pLearn
 refine Ev.bind (iAreCaptures_ev l h hf) ?_
 by_cases c1 : pAreCaptures l = true
 ·refine Ev.pos c1 ?_
  refine Ev.now_bind (iIsAddress_eq _ _ _) ?_
  by_cases c2 : pAddr a p q = true
  ·rw [if_pos ⟨c1, c2⟩, c2]
   refine Ev.round (fun _ => by rw [impl_LearnForm.j0]) ?_
   refine Ev.neg (by simp) ?_
   have hgl := mine_good a p l hf c1
   refine ev_foldl (fun k (s : List S40) i => impl_LearnForm.l0 k s l (l.length : Int) i a p q) l z40 (mineStep a p) pModel (fun i s => s.length ≤ i ∧ ∀ y ∈ s, GoodC a p y) [] ⟨by simp, by simp⟩ ?_ ?_
   ·intro s hs
    unfold pModel
    refine Ev.round (fun _ => by rw [impl_LearnForm.l0]) ?_
    refine Ev.neg (by omega) ?_
    by_cases c3 : (s.length : Int) = 0
    ·rw [if_pos c3]
     refine Ev.pos c3 ?_
     refine Ev.cast (Ev.now _) ?_
     rw [c3]
    ·rw [if_neg c3]
     have h0 : 0 < s.length := by omega
     have hgx : GoodC a p (rd_T40 s 0) := hs.2 _ (getD_mem s 0 h0 z40)
     refine Ev.neg c3 ?_
     refine Ev.pos (by omega) ?_
     refine Ev.bind (iValue_ev _ _ _ _ _ hgx.1) ?_
     exact iModel_ev s (by omega) h0 hs.2
   ·intro i s hi hs
    have e1 : wrap64 ((i : Int) + 1) = ((i + 1 : Nat) : Int) := by rw [w64 (by omega) (by omega)]; omega
    obtain ⟨hfy, hcy⟩ := hgl _ (getD_mem l i hi z40)
    have hfy' : FitimplCapture (rd_T40 l (i : Int)) := hfy
    have hcy' : pCapture (rd_T40 l (i : Int)) = true := hcy
    refine ⟨?_, fun r hr => ?_⟩
    ·show (mineStep a p s (rd_T40 l (i : Int))).length ≤ i + 1 ∧ ∀ y ∈ mineStep a p s (rd_T40 l (i : Int)), GoodC a p y
     unfold mineStep
     split
     ·rename_i hp
      rw [List.length_append, List.length_singleton]
      refine ⟨by omega, fun y hy => ?_⟩
      rcases List.mem_append.1 hy with hy | hy
      ·exact hs.2 y hy
      ·rw [List.mem_singleton] at hy
       rw [hy]
       exact goodC_of hfy' hcy' hp
     ·exact ⟨by omega, hs.2⟩
    have hr' : Ev (fun k => impl_LearnForm.l0 k (mineStep a p s (rd_T40 l (i : Int))) l (l.length : Int) ((i + 1 : Nat) : Int) a p q) r := hr
    refine Ev.round (fun _ => by rw [impl_LearnForm.l0]) ?_
    refine Ev.pos (by omega) ?_
    refine Ev.pos (by omega) ?_
    refine Ev.pos (by omega) ?_
    generalize hy : rd_T40 l (i : Int) = y at hr' hfy' hcy'
    simp only [e1]
    have em : mineStep a p s y = if pMine a p y = true then s ++ [y] else s := rfl
    rw [em] at hr'
    have es : impl_sameForm.f y.f0.f0 y.f0.f1 y.f0.f2 y.f1 y.f2.f0 y.f2.f1 y.f2.f2.f0 y.f2.f2.f1 y.f2.f2.f2 a p q = some (y.f0.f0 == a && y.f0.f1 == p) := by
     unfold impl_sameForm.f
     by_cases c9 : y.f0.f0 = a
     ·rw [if_pos c9, c9]
      simp
     ·rw [if_neg c9]
      have : (y.f0.f0 == a) = false := beq_eq_false_iff_ne.2 c9
      rw [this, Bool.false_and]
    refine Ev.now_bind es ?_
    cases c4 : (y.f0.f0 == a && y.f0.f1 == p) with
    | true =>
     refine Ev.pos rfl ?_
     refine Ev.now_bind (hasBody_eq _) ?_
     have e5 : pMine a p y = decide (y.f2.f0 = 1 ∨ y.f2.f0 = 2) := by unfold pMine; rw [c4, Bool.true_and]
     rw [e5] at hr'
     cases c5 : decide (y.f2.f0 = 1 ∨ y.f2.f0 = 2) with
     | true =>
      rw [c5, if_pos rfl] at hr'
      exact Ev.pos rfl (Ev.pos (by omega) hr')
     | false =>
      rw [c5, if_neg (by simp)] at hr'
      exact Ev.neg (by simp) hr'
    | false =>
     have e5 : pMine a p y = false := by unfold pMine; rw [c4, Bool.false_and]
     rw [e5, if_neg (by simp)] at hr'
     exact Ev.neg (by simp) hr'
  ·rw [if_neg (fun z => c2 z.2), Bool.eq_false_iff.mpr c2]
   refine Ev.round (fun _ => by rw [impl_LearnForm.j0]) ?_
   exact Ev.pos rfl (Ev.now _)
 ·rw [if_neg (fun z => c1 z.1)]
  refine Ev.neg c1 ?_
  refine Ev.round (fun _ => by rw [impl_LearnForm.j0]) ?_
  exact Ev.pos rfl (Ev.now _)
theorem sIsAddress_eq (h p q : Int) : spec_IsAddress.f h p q = some (pAddr h p q) := by
 simp only [spec_IsAddress.f, l1In_eq, Option.bind_some, some_and]
theorem l5Bytes_ev (l : List Int) (h : l.length ≤ 1048576) : Ev (fun k => spec_l5Bytes.f k l) (l.all (pIn · 0 255)) := by
 unfold spec_l5Bytes.f
 refine Ev.cast (ev_all (fun k i => spec_l5Bytes.l0 k l i) l 0 (pIn · 0 255) true (fun k => by rw [spec_l5Bytes.l0, if_neg (by omega)]) ?_ ?_) (Bool.and_true _)
 ·intro i hi hp r hr
  have e1 : wrap64 ((i : Int) + 1) = ((i + 1 : Nat) : Int) := by rw [w64 (by omega) (by omega)]; omega
  refine Ev.round (fun _ => by rw [spec_l5Bytes.l0]) ?_
  refine Ev.pos (by omega) ?_
  refine Ev.pos (by omega) ?_
  refine Ev.now_bind (l1In_eq _ _ _) ?_
  refine Ev.pos ?_ ?_
  ·rw [rd_nat]; exact hp
  ·simp only [e1]; exact hr
 ·intro i hi hp
  refine Ev.round (fun _ => by rw [spec_l5Bytes.l0]) ?_
  refine Ev.pos (by omega) ?_
  refine Ev.pos (by omega) ?_
  refine Ev.now_bind (l1In_eq _ _ _) ?_
  refine Ev.neg ?_ (Ev.now _)
  rw [rd_nat]; exact ne_true_of_eq_false hp
theorem sIsResource_ev (k : Int) (b : List Int) (h p q : Int) (hb : b.length ≤ 1048576) : Ev (fun n => spec_IsResource.f n k b h p q) (pRes k b h p q) := by
 have hj : ∀ x : Bool, Ev (fun n => spec_IsResource.j0 n x k b h p q) (!x && (if k = 3 then pAddr h p q && ((b.length : Int) == 0) else (pZero h p q && (if k = 4 then ((b.length : Int) == 0) else true)))) := by
  intro x
  refine Ev.round (fun _ => by rw [spec_IsResource.j0]) ?_
  cases x with
  | true => exact Ev.pos rfl (Ev.now _)
  | false =>
   refine Ev.neg (by simp) ?_
   by_cases h3 : k = 3
   ·refine Ev.pos h3 ?_
    simp only [h3, if_true, Bool.not_false, Bool.true_and]
    exact Ev.now_and (sIsAddress_eq _ _ _) fun _ => Ev.now _
   ·refine Ev.neg h3 ?_
    simp only [h3, if_false, Bool.not_false, Bool.true_and]
    by_cases hz : pZero h p q = true
    ·refine Ev.pos hz ?_
     by_cases h4 : k = 4
     ·refine Ev.pos h4 ?_
      exact Ev.cast (Ev.now _) (by simp [h4, hz])
     ·refine Ev.neg h4 ?_
      exact Ev.cast (Ev.now _) (by simp [h4, hz])
    ·refine Ev.neg hz ?_
     exact Ev.cast (Ev.now _) (by simp [hz])
 unfold spec_IsResource.f
 refine Ev.now_bind (l1In_eq _ _ _) ?_
 by_cases hk : 1 ≤ k ∧ k ≤ 4
 ·refine Ev.pos (by simp [hk]) ?_
  refine Ev.bind (l5Bytes_ev b hb) ?_
  have hcases : k = 1 ∨ k = 2 ∨ k = 3 ∨ k = 4 := by omega
  cases hall : b.all (pIn · 0 255) with
  | true =>
   refine Ev.pos rfl ?_
   refine Ev.cast (hj _) ?_
   unfold pRes
   have h6 : decide ((b.length : Int) > 6) = !decide ((b.length : Int) ≤ 6) := by
    by_cases c : (b.length : Int) ≤ 6
    ·have : ¬ (b.length : Int) > 6 := by omega
     simp [c, this]
    ·have : (b.length : Int) > 6 := by omega
     simp [c, this]
   rw [h6]
   rcases hcases with rfl | rfl | rfl | rfl
   ·simp [hall]
   ·simp [hall]
   ·by_cases c : b.length = 0
    ·have hn : b = [] := List.eq_nil_of_length_eq_zero c
     subst hn
     simp
    ·simp [c]
   ·by_cases c : b.length = 0
    ·have hn : b = [] := List.eq_nil_of_length_eq_zero c
     subst hn
     simp
    ·simp [c]
  | false =>
   refine Ev.neg (by simp) ?_
   refine Ev.cast (hj true) ?_
   unfold pRes
   have hne : b ≠ [] := by
    rintro rfl
    simp at hall
   have h0 : ¬ b.length = 0 := fun e => hne (List.eq_nil_of_length_eq_zero e)
   rcases hcases with rfl | rfl | rfl | rfl
   ·simp [hall]
   ·simp [hall]
   ·simp [h0]
   ·simp [h0]
 ·refine Ev.neg (by simp; omega) ?_
  refine Ev.cast (hj true) ?_
  have hp : pRes k b h p q = false := by
   unfold pRes
   rw [if_neg (by omega), if_neg (by omega), if_neg (by omega)]
  rw [hp]
  simp
theorem sAreCaptures_ev (l : List S40) (h : l.length ≤ 1048576) (hf : ∀ y ∈ l, FitimplCapture y) : Ev (fun k => spec_AreCaptures.f k l) (pAreCaptures l) := by
 unfold spec_AreCaptures.f pAreCaptures
 refine ev_all (fun k i => spec_AreCaptures.l0 k l i) l z40 pCapture _ (fun k => by rw [spec_AreCaptures.l0, if_neg (by omega)]) ?_ ?_
 ·intro i hi hp r hr
  have e1 : wrap64 ((i : Int) + 1) = ((i + 1 : Nat) : Int) := by rw [w64 (by omega) (by omega)]; omega
  have hp' : pCapture (rd_T40 l (i : Int)) = true := hp
  have hfy : FitimplCapture (rd_T40 l (i : Int)) := hf _ (getD_mem l i hi z40)
  generalize hy : rd_T40 l (i : Int) = y at hp' hfy
  unfold pCapture at hp'
  simp only [Bool.and_eq_true] at hp'
  obtain ⟨p1, p2, p3⟩ := hp'
  refine Ev.round (fun _ => by rw [spec_AreCaptures.l0]) ?_
  refine Ev.pos (by omega) ?_
  refine Ev.pos (by omega) ?_
  simp only [hy, e1]
  refine Ev.now_bind (sIsAddress_eq _ _ _) ?_
  refine Ev.pos (by simp [p1]) ?_
  refine Ev.now_bind (l1In_eq _ _ _) ?_
  refine Ev.pos (by simp [p2]) ?_
  refine Ev.bind (sIsResource_ev _ _ _ _ _ hfy) ?_
  exact Ev.pos p3 hr
 ·intro i hi hp
  have hp' : pCapture (rd_T40 l (i : Int)) = false := hp
  have hfy : FitimplCapture (rd_T40 l (i : Int)) := hf _ (getD_mem l i hi z40)
  generalize hy : rd_T40 l (i : Int) = y at hp' hfy
  unfold pCapture at hp'
  refine Ev.round (fun _ => by rw [spec_AreCaptures.l0]) ?_
  refine Ev.pos (by omega) ?_
  refine Ev.pos (by omega) ?_
  simp only [hy]
  refine Ev.now_bind (sIsAddress_eq _ _ _) ?_
  cases p1 : pAddr y.f0.f0 y.f0.f1 y.f0.f2 with
  | false => exact Ev.neg (by simp) (Ev.now _)
  | true =>
   rw [p1, Bool.true_and] at hp'
   refine Ev.pos rfl ?_
   refine Ev.now_bind (l1In_eq _ _ _) ?_
   cases p2 : pIn y.f1 0 2000 with
   | false => exact Ev.neg (ne_true_of_eq_false p2) (Ev.now _)
   | true =>
    rw [p2, Bool.true_and] at hp'
    refine Ev.pos p2 ?_
    refine Ev.bind (sIsResource_ev _ _ _ _ _ hfy) ?_
    refine Ev.neg (ne_true_of_eq_false hp') ?_
    exact Ev.now _
theorem iMod1000_eq (a : Int) (h0 : 0 ≤ a) (h1 : a ≤ 4611686018427387904) : impl_Mod.f a 1000 = some (a % 1000) := by
 unfold impl_Mod.f
 rw [InRange_eq]
 have e1 : Int.tmod a 1000 = a % 1000 := Int.tmod_eq_emod_of_nonneg h0
 have e2 : Int.tmod (a % 1000 + 1000) 1000 = a % 1000 := by
  rw [Int.tmod_eq_emod_of_nonneg (by omega)]
  omega
 simp only [Option.bind_some, e1]
 rw [w64 (by omega) (by omega), e2]
 simp
theorem iSays_eq (m0 m1 m2 : Int) (m3 : Bool) (q : Int) (h0 : pIn m0 0 999 = true) (h1 : pIn m1 0 999 = true) (h2 : pIn q 0 99 = true) : impl_Model_says.f m0 m1 m2 m3 q = some ((m0 + m1 * q) % 1000) := by
 obtain ⟨b0, b1, b2, b3⟩ := says_bound h0 h1 h2
 unfold impl_Model_says.f
 rw [w64 (n := m1 * q) (by omega) (by omega), w64 (n := m0 + m1 * q) (by omega) (by omega), iMod1000_eq _ (by omega) (by omega)]
 rfl
theorem iFits_ev (m0 m1 m2 : Int) (m3 : Bool) (c0 c1 aq ct k : Int) (b : List Int) (h p z : Int) (hf : b.length ≤ 1048576) : Ev (fun n => impl_FitsForm.f n m0 m1 m2 m3 c0 c1 aq ct k b h p z) (pFits m0 m1 aq k b h p z) := by
 unfold impl_FitsForm.f pFits
 refine Ev.now_and (InRange_eq _ _ _) fun h0 => Ev.now_and (InRange_eq _ _ _) fun h1 => ?_
 rw [Bool.and_assoc]
 refine Ev.and (iIsResource_ev _ _ _ _ _ hf) fun hr => ?_
 have hk := pRes_kind hr
 have e0 : decide (k ≤ 2) = decide (k = 1 ∨ k = 2) := by
  apply decide_eq_decide.2
  omega
 rw [e0]
 refine Ev.now_and (hasBody_eq _) fun _ => Ev.now_and (InRange_eq _ _ _) fun h2 => Ev.bind (iValue_ev _ _ _ _ _ hf) ?_
 exact Ev.now_bind (iSays_eq m0 m1 m2 m3 _ h0 h1 h2) (Ev.now _)
def stepFits (m0 m1 a b : Int) (n : Int) (y : S40) : Int := if (y.f0.f0 = a ∧ y.f0.f1 = b) ∧ pFits m0 m1 y.f0.f2 y.f2.f0 y.f2.f1 y.f2.f2.f0 y.f2.f2.f1 y.f2.f2.f2 = true then n + 1 else n
def pCountFits (m0 m1 a b : Int) (l : List S40) : Int := l.foldl (stepFits m0 m1 a b) 0
theorem stepFits_cases (m0 m1 a b n : Int) (y : S40) : stepFits m0 m1 a b n y = n ∨ stepFits m0 m1 a b n y = n + 1 := by
 unfold stepFits
 split
 ·exact Or.inr rfl
 ·exact Or.inl rfl
theorem iCountFits_ev (m0 m1 m2 : Int) (m3 : Bool) (l : List S40) (a b c : Int) (h : l.length ≤ 1048576) (hf : ∀ y ∈ l, FitimplCapture y) : Ev (fun k => impl_CountFits.f k m0 m1 m2 m3 l a b c) (pCountFits m0 m1 a b l) := by
 unfold impl_CountFits.f
 refine ev_foldl (fun k x i => impl_CountFits.l0 k x l (l.length : Int) i m0 m1 m2 m3 a b c) l z40 (stepFits m0 m1 a b) (fun x => x) (fun i x => 0 ≤ x ∧ x ≤ (i : Int)) 0 ⟨by omega, by omega⟩ ?_ ?_
 ·intro x hx
  refine Ev.round (fun _ => by rw [impl_CountFits.l0]) ?_
  refine Ev.neg (by omega) ?_
  exact Ev.now _
 ·intro i x hi hx
  have e1 : wrap64 ((i : Int) + 1) = ((i + 1 : Nat) : Int) := by rw [w64 (by omega) (by omega)]; omega
  have hs := stepFits_cases m0 m1 a b x (l.getD i z40)
  refine ⟨by rcases hs with hs | hs <;> rw [hs] <;> omega, fun r hr => ?_⟩
  have hr' : Ev (fun k => impl_CountFits.l0 k (stepFits m0 m1 a b x (rd_T40 l (i : Int))) l (l.length : Int) ((i + 1 : Nat) : Int) m0 m1 m2 m3 a b c) r := hr
  have hfy : FitimplCapture (rd_T40 l (i : Int)) := hf _ (getD_mem l i hi z40)
  generalize hy : rd_T40 l (i : Int) = y at hr' hfy
  unfold stepFits at hr'
  have hsf : impl_sameForm.f y.f0.f0 y.f0.f1 y.f0.f2 y.f1 y.f2.f0 y.f2.f1 y.f2.f2.f0 y.f2.f2.f1 y.f2.f2.f2 a b c = some (decide (y.f0.f0 = a ∧ y.f0.f1 = b)) := by
   unfold impl_sameForm.f
   by_cases h1 : y.f0.f0 = a
   ·by_cases h2 : y.f0.f1 = b
    ·simp [h1, h2]
    ·simp [h1, h2]
   ·simp [h1]
  refine Ev.round (fun _ => by rw [impl_CountFits.l0]) ?_
  refine Ev.pos (by omega) ?_
  refine Ev.pos (by omega) ?_
  refine Ev.pos (by omega) ?_
  simp only [hy, e1]
  refine Ev.now_bind hsf ?_
  by_cases hm : y.f0.f0 = a ∧ y.f0.f1 = b
  ·refine Ev.pos (by simp [hm]) ?_
   refine Ev.bind (iFits_ev m0 m1 m2 m3 _ _ _ _ _ _ _ _ _ hfy) ?_
   cases hp : pFits m0 m1 y.f0.f2 y.f2.f0 y.f2.f1 y.f2.f2.f0 y.f2.f2.f1 y.f2.f2.f2 with
   | true =>
    rw [if_pos ⟨hm, hp⟩] at hr'
    refine Ev.pos rfl ?_
    rw [w64 (by omega) (by omega)]
    exact hr'
   | false =>
    rw [if_neg (fun c => by simp [hp] at c)] at hr'
    exact Ev.neg (by simp) hr'
  ·rw [if_neg (fun c => hm c.1)] at hr'
   exact Ev.neg (by simpa using fun h1 h2 => hm ⟨h1, h2⟩) hr'
def pGuess (m0 m1 m2 : Int) (m3 : Bool) (q : Int) : Int × Bool := if 2 ≤ m2 ∧ m3 = true ∧ pIn m0 0 999 = true ∧ pIn m1 0 999 = true ∧ pIn q 0 99 = true then ((m0 + m1 * q) % 1000, true) else (0, false)
theorem iGuess_eq (m0 m1 m2 : Int) (m3 : Bool) (q : Int) : impl_GuessForm.f m0 m1 m2 m3 q = some (pGuess m0 m1 m2 m3 q) := by
 unfold impl_GuessForm.f pGuess impl_Model_says.f
 by_cases c1 : m2 < 2
 ·rw [if_pos c1, if_neg (fun h => by omega)]
 rw [if_neg c1]
 by_cases c2 : m3 = true
 ·rw [if_pos c2, InRange_eq, Option.bind_some]
  by_cases c3 : pIn m0 0 999 = true
  ·rw [if_pos c3, InRange_eq, Option.bind_some]
   by_cases c4 : pIn m1 0 999 = true
   ·rw [if_pos c4, InRange_eq, Option.bind_some]
    by_cases c5 : pIn q 0 99 = true
    ·rw [if_pos c5, if_pos ⟨by omega, c2, c3, c4, c5⟩]
     obtain ⟨b1, b2, b3, b4⟩ := says_bound c3 c4 c5
     rw [w64 (n := m1 * q) (by omega) (by omega), w64 (by omega) (by omega), iMod_eq]
     rfl
    ·rw [if_neg c5, if_neg (fun h => c5 h.2.2.2.2)]
   ·rw [if_neg c4, if_neg (fun h => c4 h.2.2.2.1)]
  ·rw [if_neg c3, if_neg (fun h => c3 h.2.2.1)]
 ·rw [if_neg c2, if_neg (fun h => c2 h.2.1)]
theorem pGuess_in (m0 m1 m2 : Int) (m3 : Bool) (q : Int) : 0 ≤ (pGuess m0 m1 m2 m3 q).1 ∧ (pGuess m0 m1 m2 m3 q).1 ≤ 999 ∧ ((pGuess m0 m1 m2 m3 q).2 = true → m3 = true) := by
 unfold pGuess
 split
 ·rename_i h
  refine ⟨?_, ?_, fun _ => h.2.1⟩
  ·dsimp only; omega
  ·dsimp only; omega
 ·exact ⟨by simp, by simp, by simp⟩
theorem sMin_eq (a b : Int) : spec_Min.f a b = some (if b < a then b else a) := by
 unfold spec_Min.f
 split <;> rfl
theorem sValue_ev (k : Int) (b : List Int) (h p q : Int) (hb : b.length ≤ 1048576) : Ev (fun n => spec_ValueOfResource.f n k b h p q) (pVal k b h p q) := by
 have hj1 : Ev (fun n => spec_ValueOfResource.j0 n true k b h p q) 0 := by
  refine Ev.round (fun _ => by rw [spec_ValueOfResource.j0]) ?_
  refine Ev.pos rfl ?_
  exact Ev.now _
 unfold spec_ValueOfResource.f pVal
 refine Ev.bind (sIsResource_ev k b h p q hb) ?_
 cases hr : pRes k b h p q with
 | false =>
  refine Ev.neg (by simp) ?_
  exact Ev.cast hj1 (by simp)
 | true =>
  refine Ev.pos rfl ?_
  by_cases hk : k = 1 ∨ k = 2
  ·rw [if_pos ⟨rfl, hk⟩, decide_eq_false (show ¬ k > 2 by omega)]
   obtain ⟨hl, hy⟩ := pRes_body hr hk
   refine Ev.round (fun _ => by rw [spec_ValueOfResource.j0]) ?_
   refine Ev.neg (by simp) ?_
   have hf := fold_mod b 0
   have main := ev_foldl (fun n x i => spec_ValueOfResource.l0 n x i k b h p q) b 0 (fun x y => (x + y) % 1000) (fun x => if x < 999 then x + 1 else 999) (fun _ x => 0 ≤ x ∧ x < 1000) 0 ⟨by omega, by omega⟩ ?_ ?_
   ·rw [show (0 : Int) = 0 % 1000 from rfl, hf] at main
    exact main
   ·intro x hx
    refine Ev.round (fun _ => by rw [spec_ValueOfResource.l0]) ?_
    refine Ev.neg (by omega) ?_
    refine Ev.now_bind (sMin_eq _ _) ?_
    rw [w64 (by omega) (by omega)]
    refine Ev.cast (Ev.now _) ?_
    by_cases c : x < 999
    ·rw [if_pos c]
     split <;> omega
    ·rw [if_neg c, if_neg (by omega)]
   ·intro i x hi hx
    have e1 : wrap64 ((i : Int) + 1) = ((i + 1 : Nat) : Int) := by rw [w64 (by omega) (by omega)]; omega
    have hv := hy _ (getD_mem b i hi 0)
    refine ⟨⟨by omega, by omega⟩, fun r hr2 => ?_⟩
    refine Ev.round (fun _ => by rw [spec_ValueOfResource.l0]) ?_
    refine Ev.pos (by omega) ?_
    refine Ev.pos (by omega) ?_
    have e2 : Int.tmod (wrap64 (x + rd b (i : Int))) 1000 = (x + b.getD i 0) % 1000 := by
     rw [rd_nat, w64 (by omega) (by omega), Int.tmod_eq_emod_of_nonneg (by omega)]
    simp only [e1, e2]
    exact hr2
  ·rw [if_neg (fun c => hk c.2)]
   have h34 : k > 2 := by
    unfold pRes at hr
    rw [if_neg hk] at hr
    by_cases h3 : k = 3
    ·omega
    ·rw [if_neg h3] at hr
     by_cases h4 : k = 4
     ·omega
     ·rw [if_neg h4] at hr
      simp at hr
   rw [decide_eq_true h34]
   exact hj1
theorem sFits_ev (m0 m1 m2 : Int) (m3 : Bool) (c0 c1 aq ct k : Int) (b : List Int) (h p z : Int) (hf : b.length ≤ 1048576) : Ev (fun n => spec_FitsForm.f n m0 m1 m2 m3 c0 c1 aq ct k b h p z) (pFits m0 m1 aq k b h p z) := by
 unfold spec_FitsForm.f spec_l19Kind.f pFits
 refine Ev.now_and (l1In_eq _ _ _) fun h0 => Ev.now_and (l1In_eq _ _ _) fun h1 => Ev.and (Ev.and (sIsResource_ev _ _ _ _ _ hf) fun _ => Ev.now _) fun _ => Ev.now_and (l1In_eq _ _ _) fun h2 => Ev.bind (sValue_ev _ _ _ _ _ hf) ?_
 obtain ⟨b0, b1, b2, b3⟩ := says_bound h0 h1 h2
 have e1 : wrap64 (m1 * aq) = m1 * aq := w64 (by omega) (by omega)
 have e2 : wrap64 (m0 + m1 * aq) = m0 + m1 * aq := w64 (by omega) (by omega)
 have e3 : Int.tmod (m0 + m1 * aq) 1000 = (m0 + m1 * aq) % 1000 := Int.tmod_eq_emod_of_nonneg (by omega)
 rw [e1, e2, e3]
 exact Ev.now _
theorem sStep_ev {a p : Int} {x y : S40} (hx : GoodC a p x) (hy : GoodC a p y) : Ev (fun k => spec_l19Step.f k x.f0.f0 x.f0.f1 x.f0.f2 x.f1 x.f2.f0 x.f2.f1 x.f2.f2.f0 x.f2.f2.f1 x.f2.f2.f2 y.f0.f0 y.f0.f1 y.f0.f2 y.f1 y.f2.f0 y.f2.f1 y.f2.f2.f0 y.f2.f2.f1 y.f2.f2.f2) (match pSearch (valOf x) x.f0.f2 y 1000 with | none => ((-1 : Int), (-1 : Int)) | some s => (s, (valOf x - s * x.f0.f2) % 1000)) := by
 unfold spec_l19Step.f
 have hv := pVal_in x.f2.f0 x.f2.f1 x.f2.f2.f0 x.f2.f2.f1 x.f2.f2.f2
 have key : ∀ d : Nat, d ≤ 1000 → ∀ n : Int, n = 1000 - (d : Int) → Ev (fun k => spec_l19Step.l0 k n x.f0.f0 x.f0.f1 x.f0.f2 x.f1 x.f2.f0 x.f2.f1 x.f2.f2.f0 x.f2.f2.f1 x.f2.f2.f2 y.f0.f0 y.f0.f1 y.f0.f2 y.f1 y.f2.f0 y.f2.f1 y.f2.f2.f0 y.f2.f2.f1 y.f2.f2.f2) (match pSearch (valOf x) x.f0.f2 y d with | none => ((-1 : Int), (-1 : Int)) | some s => (s, (valOf x - s * x.f0.f2) % 1000)) := by
  intro d
  induction d with
  | zero =>
   intro _ n hn
   refine Ev.round (fun _ => by rw [spec_l19Step.l0]) ?_
   exact Ev.neg (by omega) (Ev.now _)
  | succ d ih =>
   intro hd n hn
   have h := ih (by omega) (n + 1) (by omega)
   have hm := mul_in (s := n) ⟨by omega, by omega⟩ hx.2.1
   have e1 : wrap64 (n + 1) = n + 1 := w64 (by omega) (by omega)
   have e2 : wrap64 (n * x.f0.f2) = n * x.f0.f2 := w64 (by omega) (by omega)
   have e3 : wrap64 (valOf x - n * x.f0.f2) = valOf x - n * x.f0.f2 := by
    have hv' : 0 ≤ valOf x ∧ valOf x ≤ 999 := hv
    exact w64 (by omega) (by omega)
   have e4 := pFits_good (b := (valOf x - n * x.f0.f2) % 1000) (s := n) hy ⟨by omega, by omega⟩ ⟨by omega, by omega⟩
   have e5 : pHit (valOf x) x.f0.f2 y n = pFit ((valOf x - n * x.f0.f2) % 1000) n y := rfl
   refine Ev.round (fun _ => by rw [spec_l19Step.l0]) ?_
   refine Ev.pos (by omega) ?_
   refine Ev.bind (sValue_ev _ _ _ _ _ hx.1) ?_
   have hv2 : pVal x.f2.f0 x.f2.f1 x.f2.f2.f0 x.f2.f2.f1 x.f2.f2.f2 = valOf x := rfl
   simp only [hv2, e1, e2, e3]
   refine Ev.now_bind (sMod_eq _) ?_
   refine Ev.bind (sFits_ev _ _ _ _ _ _ _ _ _ _ _ _ _ hy.1) ?_
   rw [e4, ← e5]
   unfold pSearch
   have e6 : (1000 : Int) - ((d : Int) + 1) = n := by omega
   rw [e6]
   cases hp : pHit (valOf x) x.f0.f2 y n with
   | true =>
    rw [if_pos rfl]
    exact Ev.pos rfl (Ev.now _)
   | false =>
    rw [if_neg (by simp)]
    exact Ev.neg (by simp) h
 exact key 1000 (by omega) 0 (by omega)
theorem sFin_ev {a p : Int} (m : List S40) (hm : m.length ≤ 1048576) (hg : ∀ y ∈ m, GoodC a p y) (b s n : Int) (hb : 0 ≤ b ∧ b ≤ 999) (hs : 0 ≤ s ∧ s ≤ 999) : ∀ d i : Nat, i + d = m.length → ∀ f : Bool, Ev (fun k => spec_LearnForm.l2 k m (i : Int) b s n f) (b, s, n, f && (m.drop i).all (pFit b s)) := by
 intro d
 induction d with
 | zero =>
  intro i hi f
  obtain rfl : i = m.length := by omega
  rw [List.drop_length, List.all_nil, Bool.and_true]
  refine Ev.round (fun _ => by rw [spec_LearnForm.l2]) ?_
  exact Ev.neg (by omega) (Ev.now _)
 | succ d ih =>
  intro i hi f
  have hil : i < m.length := by omega
  have e1 : wrap64 ((i : Int) + 1) = ((i + 1 : Nat) : Int) := by rw [w64 (by omega) (by omega)]; omega
  have hgy : GoodC a p (rd_T40 m (i : Int)) := hg _ (getD_mem m i hil z40)
  rw [drop_cons m i hil z40, List.all_cons]
  refine Ev.round (fun _ => by rw [spec_LearnForm.l2]) ?_
  refine Ev.pos (by omega) ?_
  cases f with
  | true =>
   refine Ev.pos rfl ?_
   refine Ev.pos (by omega) ?_
   refine Ev.bind (sFits_ev _ _ _ _ _ _ _ _ _ _ _ _ _ hgy.1) ?_
   rw [pFits_good hgy hb hs]
   simp only [e1]
   rw [Bool.true_and]
   exact ih (i + 1) (by omega) _
  | false =>
   refine Ev.neg (by simp) ?_
   simp only [e1]
   have h := ih (i + 1) (by omega) false
   rw [Bool.false_and] at h ⊢
   exact h
theorem sModel_ev {a p : Int} (m : List S40) (hm : m.length ≤ 1048576) (h0 : 0 < m.length) (hg : ∀ y ∈ m, GoodC a p y) : Ev (fun k => spec_LearnForm.l1 k m 1 (valOf (rd_T40 m 0)) 0 (m.length : Int) true) (learnOf m (valOf (rd_T40 m 0)) (rd_T40 m 0).f0.f2 (m.find? (pOther (rd_T40 m 0).f0.f2))) := by
 have hgx : GoodC a p (rd_T40 m 0) := hg _ (getD_mem m 0 h0 z40)
 have hvx : 0 ≤ valOf (rd_T40 m 0) ∧ valOf (rd_T40 m 0) ≤ 999 := pVal_in _ _ _ _ _
 have e0 : m.find? (pOther (rd_T40 m 0).f0.f2) = (m.drop 1).find? (pOther (rd_T40 m 0).f0.f2) := by
  have h1 := drop_cons m 0 h0 z40
  rw [List.drop_zero] at h1
  have h2 : pOther (rd_T40 m 0).f0.f2 (m.getD 0 z40) = false := by
   show (!((m.getD 0 z40).f0.f2 == (rd_T40 m 0).f0.f2)) = false
   have h3 : m.getD 0 z40 = rd_T40 m 0 := rfl
   rw [h3]
   simp
  have h4 : m.find? (pOther (rd_T40 m 0).f0.f2) = (m.getD 0 z40 :: m.drop (0 + 1)).find? (pOther (rd_T40 m 0).f0.f2) := congrArg _ h1
  rw [h4, List.find?_cons_of_neg (by rw [h2]; simp)]
 rw [e0]
 have fin : ∀ b s : Int, 0 ≤ b ∧ b ≤ 999 → 0 ≤ s ∧ s ≤ 999 → Ev (fun k => spec_LearnForm.j3 k m b s (m.length : Int) true) (finOf m b s) := by
  intro b s hb hs
  refine Ev.round (fun _ => by rw [spec_LearnForm.j3]) ?_
  have h := sFin_ev m hm hg b s (m.length : Int) hb hs m.length 0 (by omega) true
  rw [List.drop_zero, Bool.true_and] at h
  exact h
 generalize hx : rd_T40 m 0 = x at hgx hvx e0
 have key : ∀ d i : Nat, 1 ≤ i → i + d = m.length → Ev (fun k => spec_LearnForm.l1 k m (i : Int) (valOf x) 0 (m.length : Int) true) (learnOf m (valOf x) x.f0.f2 ((m.drop i).find? (pOther x.f0.f2))) := by
  intro d
  induction d with
  | zero =>
   intro i h1 hi
   obtain rfl : i = m.length := by omega
   rw [List.drop_length, List.find?_nil]
   refine Ev.round (fun _ => by rw [spec_LearnForm.l1]) ?_
   exact Ev.neg (by omega) (fin _ _ hvx ⟨by omega, by omega⟩)
  | succ d ih =>
   intro i h1 hi
   have hil : i < m.length := by omega
   have e1 : wrap64 ((i : Int) + 1) = ((i + 1 : Nat) : Int) := by rw [w64 (by omega) (by omega)]; omega
   have hgy : GoodC a p (rd_T40 m (i : Int)) := hg _ (getD_mem m i hil z40)
   have h := ih (i + 1) (by omega) (by omega)
   rw [drop_cons m i hil z40]
   have hgd : m.getD i z40 = rd_T40 m (i : Int) := rfl
   rw [hgd]
   refine Ev.round (fun _ => by rw [spec_LearnForm.l1]) ?_
   refine Ev.pos (by omega) ?_
   refine Ev.pos (by omega) ?_
   refine Ev.pos (by omega) ?_
   rw [hx]
   generalize hy : rd_T40 m (i : Int) = y at hgy
   simp only [e1]
   have ec : (!(y.f0.f0 == x.f0.f0) || (!(y.f0.f1 == x.f0.f1) || (!(y.f0.f2 == x.f0.f2)))) = pOther x.f0.f2 y := by
    rw [hgy.2.2.2.2.1, hgx.2.2.2.2.1, hgy.2.2.2.2.2, hgx.2.2.2.2.2]
    unfold pOther
    simp
   rw [ec]
   cases hp : pOther x.f0.f2 y with
   | true =>
    rw [List.find?_cons_of_pos hp]
    refine Ev.pos rfl ?_
    refine Ev.bind (sStep_ev hgx hgy) ?_
    cases hs : pSearch (valOf x) x.f0.f2 y 1000 with
    | none =>
     have em : learnOf m (valOf x) x.f0.f2 (some y) = finOf m (valOf x) 0 := by unfold learnOf; dsimp only; rw [hs]
     rw [em]
     refine Ev.neg (by dsimp only; omega) ?_
     exact fin (valOf x) 0 hvx ⟨by omega, by omega⟩
    | some s =>
     have hsi := pSearch_in (valOf x) x.f0.f2 y s 1000 (by omega) hs
     have em : learnOf m (valOf x) x.f0.f2 (some y) = finOf m ((valOf x - s * x.f0.f2) % 1000) s := by unfold learnOf; dsimp only; rw [hs]
     rw [em]
     refine Ev.pos hsi.1 ?_
     exact fin ((valOf x - s * x.f0.f2) % 1000) s ⟨by omega, by omega⟩ hsi
   | false =>
    rw [List.find?_cons_of_neg (by rw [hp]; simp)]
    exact Ev.neg (by simp) h
 have hk := key (m.length - 1) 1 (by omega) (by omega)
 exact hk
theorem sLearn_ev (l : List S40) (a p q : Int) (h : l.length ≤ 1048576) (hf : ∀ y ∈ l, FitimplCapture y) : Ev (fun k => spec_LearnForm.f k l a p q) (pLearn l a p q) := by
 unfold spec_LearnForm.f pLearn
 refine Ev.bind (sAreCaptures_ev l h hf) ?_
 by_cases c1 : pAreCaptures l = true
 ·refine Ev.pos c1 ?_
  refine Ev.now_bind (sIsAddress_eq _ _ _) ?_
  by_cases c2 : pAddr a p q = true
  ·rw [if_pos ⟨c1, c2⟩, c2]
   refine Ev.round (fun _ => by rw [spec_LearnForm.j0]) ?_
   refine Ev.neg (by simp) ?_
   have hgl := mine_good a p l hf c1
   refine ev_foldl (fun k (s : List S40) i => spec_LearnForm.l0 k l s i a p q 0 0 0 false) l z40 (mineStep a p) pModel (fun i s => s.length ≤ i ∧ ∀ y ∈ s, GoodC a p y) [] ⟨by simp, by simp⟩ ?_ ?_
   ·intro s hs
    unfold pModel
    refine Ev.round (fun _ => by rw [spec_LearnForm.l0]) ?_
    refine Ev.neg (by omega) ?_
    by_cases c3 : (s.length : Int) = 0
    ·rw [if_pos c3]
     refine Ev.pos c3 ?_
     refine Ev.cast (Ev.now _) ?_
     rw [c3]
    ·rw [if_neg c3]
     have h0 : 0 < s.length := by omega
     have hgx : GoodC a p (rd_T40 s 0) := hs.2 _ (getD_mem s 0 h0 z40)
     refine Ev.neg c3 ?_
     refine Ev.pos (by omega) ?_
     refine Ev.bind (sValue_ev _ _ _ _ _ hgx.1) ?_
     exact sModel_ev s (by omega) h0 hs.2
   ·intro i s hi hs
    have e1 : wrap64 ((i : Int) + 1) = ((i + 1 : Nat) : Int) := by rw [w64 (by omega) (by omega)]; omega
    obtain ⟨hfy, hcy⟩ := hgl _ (getD_mem l i hi z40)
    have hfy' : FitimplCapture (rd_T40 l (i : Int)) := hfy
    have hcy' : pCapture (rd_T40 l (i : Int)) = true := hcy
    refine ⟨?_, fun r hr => ?_⟩
    ·show (mineStep a p s (rd_T40 l (i : Int))).length ≤ i + 1 ∧ ∀ y ∈ mineStep a p s (rd_T40 l (i : Int)), GoodC a p y
     unfold mineStep
     split
     ·rename_i hp
      rw [List.length_append, List.length_singleton]
      refine ⟨by omega, fun y hy => ?_⟩
      rcases List.mem_append.1 hy with hy | hy
      ·exact hs.2 y hy
      ·rw [List.mem_singleton] at hy
       rw [hy]
       exact goodC_of hfy' hcy' hp
     ·exact ⟨by omega, hs.2⟩
    have hr' : Ev (fun k => spec_LearnForm.l0 k l (mineStep a p s (rd_T40 l (i : Int))) ((i + 1 : Nat) : Int) a p q 0 0 0 false) r := hr
    refine Ev.round (fun _ => by rw [spec_LearnForm.l0]) ?_
    refine Ev.pos (by omega) ?_
    refine Ev.pos (by omega) ?_
    refine Ev.now_bind rfl ?_
    refine Ev.now_bind rfl ?_
    generalize hy : rd_T40 l (i : Int) = y at hr' hfy' hcy'
    simp only [e1]
    have hres : pRes y.f2.f0 y.f2.f1 y.f2.f2.f0 y.f2.f2.f1 y.f2.f2.f2 = true := by
     unfold pCapture at hcy'
     simp only [Bool.and_eq_true] at hcy'
     exact hcy'.2.2
    have hkd := pRes_kind hres
    have ek : decide (y.f2.f0 ≤ 2) = decide (y.f2.f0 = 1 ∨ y.f2.f0 = 2) := decide_eq_decide.2 (by omega)
    have em : mineStep a p s y = if pMine a p y = true then s ++ [y] else s := rfl
    rw [em] at hr'
    have e3 : (y.f0.f0 == a && (y.f0.f1 == p && ((0 : Int) == 0))) = (y.f0.f0 == a && y.f0.f1 == p) := by simp
    rw [e3]
    cases c4 : (y.f0.f0 == a && y.f0.f1 == p) with
    | true =>
     refine Ev.pos rfl ?_
     refine Ev.bind (Ev.and (sIsResource_ev _ _ _ _ _ hfy') fun _ => Ev.now _) ?_
     rw [hres, Bool.true_and, ek]
     have e5 : pMine a p y = decide (y.f2.f0 = 1 ∨ y.f2.f0 = 2) := by unfold pMine; rw [c4, Bool.true_and]
     rw [e5] at hr'
     cases c5 : decide (y.f2.f0 = 1 ∨ y.f2.f0 = 2) with
     | true =>
      rw [c5, if_pos rfl] at hr'
      exact Ev.pos rfl (Ev.pos (by omega) hr')
     | false =>
      rw [c5, if_neg (by simp)] at hr'
      exact Ev.neg (by simp) hr'
    | false =>
     have e5 : pMine a p y = false := by unfold pMine; rw [c4, Bool.false_and]
     rw [e5, if_neg (by simp)] at hr'
     exact Ev.neg (by simp) hr'
  ·rw [if_neg (fun z => c2 z.2), Bool.eq_false_iff.mpr c2]
   refine Ev.round (fun _ => by rw [spec_LearnForm.j0]) ?_
   exact Ev.pos rfl (Ev.now _)
 ·rw [if_neg (fun z => c1 z.1)]
  refine Ev.neg c1 ?_
  refine Ev.round (fun _ => by rw [spec_LearnForm.j0]) ?_
  exact Ev.pos rfl (Ev.now _)
theorem aRaw (b : List Int) (i h : Int) (c : Cur b i) : ∃ x, spec_l4Raw.f b i h = some x ∧ ((-9223372036854775808 ≤ x.1 ∧ x.1 ≤ 9223372036854775807) ∧ Cur b x.2.1) := by
 obtain ⟨x, j, g, e, hx, cj⟩ := l4Raw_some b i h c
 exact ⟨(x, j, g), e, hx, cj⟩
theorem aInt (b : List Int) (i h : Int) (l : List Int) (hl : 0 < l.length) (c : Cur b i) : ∃ x, spec_l1Int.f b i h l = some x ∧ (x.1 ∈ l ∧ Cur b x.2.1) := by
 obtain ⟨x, j, g, e, hx, cj⟩ := l1Int_some b i h l hl c
 exact ⟨(x, j, g), e, hx, cj⟩
theorem drawGuessForm_any (b : List Int) (hb : b.length ≤ 1048576) : Any (fun k => spec_DrawGuessForm.f k b) (fun _ => True) := by
 unfold spec_DrawGuessForm.f
 refine Any.bind (drawLearnForm_any b hb) ?_
 intro x hx
 refine Any.bind (aNew b hb) ?_
 intro y hy
 rw [hy.1]
 refine Any.ev (sLearn_ev x.1 x.2.1 x.2.2.1 x.2.2.2 (by omega) hx.2) ?_
 refine Any.opt (aOnce b _ _ 8 hy.2) ?_
 intro z hz
 refine Any.ite (fun _ => ?_) (fun _ => ?_)
 ·refine Any.opt (aRaw b _ _ hz) ?_
  intro v hv
  refine Any.opt (aInt b _ _ _ (by simp) hv.2) ?_
  intro u hu
  exact Any.now trivial
 ·refine Any.opt (aInt b _ _ _ (by simp) hz) ?_
  intro u hu
  exact Any.now trivial
theorem mine_filter (a p : Int) : ∀ (l acc : List S40), l.foldl (mineStep a p) acc = acc ++ l.filter (pMine a p) := by
 intro l
 induction l with
 | nil => intro acc; simp
 | cons y l ih =>
  intro acc
  rw [List.foldl_cons, ih, List.filter_cons]
  unfold mineStep
  by_cases c : pMine a p y = true
  ·rw [if_pos c, if_pos c, List.append_assoc]
   rfl
  ·rw [if_neg c, if_neg c]
theorem learn_form (m : List S40) (v q : Int) (hv : 0 ≤ v ∧ v ≤ 999) (o : Option S40) : ∃ b s, learnOf m v q o = finOf m b s ∧ (0 ≤ b ∧ b ≤ 999) ∧ (0 ≤ s ∧ s ≤ 999) := by
 unfold learnOf
 cases o with
 | none => exact ⟨v, 0, rfl, hv, by omega⟩
 | some y =>
  dsimp only
  cases e : pSearch v q y 1000 with
  | none => exact ⟨v, 0, rfl, hv, by omega⟩
  | some s => exact ⟨_, s, rfl, by omega, pSearch_in v q y s 1000 (by omega) e⟩
theorem model_form (m : List S40) : ∃ b s, pModel m = finOf m b s ∧ (0 ≤ b ∧ b ≤ 999) ∧ (0 ≤ s ∧ s ≤ 999) := by
 unfold pModel
 by_cases c : (m.length : Int) = 0
 ·rw [if_pos c]
  have e : m = [] := List.length_eq_zero_iff.1 (by omega)
  refine ⟨0, 0, ?_, by omega, by omega⟩
  rw [e]
  rfl
 ·rw [if_neg c]
  exact learn_form m _ _ (pVal_in _ _ _ _ _) _
theorem count_form (a p b s : Int) (hb : 0 ≤ b ∧ b ≤ 999) (hs : 0 ≤ s ∧ s ≤ 999) : ∀ (l : List S40) (n : Int), (∀ y ∈ l, FitimplCapture y ∧ pCapture y = true) → l.foldl (stepFits b s a p) n = n + (((l.filter (pMine a p)).countP (pFit b s) : Nat) : Int) := by
 intro l
 induction l with
 | nil => intro n _; simp
 | cons y l ih =>
  intro n hg
  have hl := fun z hz => hg z (List.mem_cons_of_mem _ hz)
  obtain ⟨hf, hc⟩ := hg y (List.mem_cons_self ..)
  rw [List.foldl_cons, ih _ hl, List.filter_cons]
  by_cases c : pMine a p y = true
  ·have g := goodC_of hf hc c
   have e := pFits_good g hb hs
   rw [if_pos c, List.countP_cons]
   unfold stepFits
   by_cases c2 : pFit b s y = true
   ·rw [if_pos ⟨⟨g.2.2.2.2.1, g.2.2.2.2.2⟩, by rw [e]; exact c2⟩, if_pos c2]
    omega
   ·rw [if_neg (fun h => c2 (by rw [← e]; exact h.2)), if_neg c2]
    omega
  ·rw [if_neg c]
   have e : stepFits b s a p n y = n := by
    unfold stepFits
    rw [if_neg]
    intro h
    apply c
    unfold pMine
    have h2 := h.2
    unfold pFits at h2
    simp only [Bool.and_eq_true, decide_eq_true_eq] at h2
    have hk := pRes_kind h2.2.2.1.1
    have hk2 := h2.2.2.1.2
    rw [h.1.1, h.1.2]
    simp
    omega
   rw [e]
theorem Ev.ite_to {α : Type} {c : Prop} [Decidable c] {A B : Nat → Option α} {r : α} (k : c → Ev A r) (l : ¬ c → Ev B r) : Ev (fun n => if c then A n else B n) r := by
 by_cases h : c
 ·exact Ev.pos h (k h)
 ·exact Ev.neg h (l h)
theorem FnForms (l0 : List Int) (h0 : (l0.length ≤ maxLen ∧ ∀ e_ ∈ l0, (Lit.int .u8 e_).wf = true)) : ∃ k, laws_FnForms.f k l0 = some true := by
 refine Ev.rounds ?_
 unfold laws_FnForms.f laws_big.f
 refine Ev.now_bind rfl ?_
 by_cases hb : (l0.length : Int) > 1048576
 ·exact Ev.pos (by simpa using hb) (Ev.now _)
 have hlen : l0.length ≤ 1048576 := by omega
 refine Ev.neg (by simpa using hb) ?_
 refine Any.then_ (drawLearnForm_any l0 hlen) ?_
 intro x hx
 obtain ⟨l, a, p, q⟩ := x
 obtain ⟨h1, hf⟩ := hx
 dsimp only at h1 hf ⊢
 have hl : l.length ≤ 1048576 := by omega
 refine Ev.bind (iLearn_ev l a p q hl hf) ?_
 have iA := iAreCaptures_ev l hl hf
 have sA := sAreCaptures_ev l hl hf
 refine Ev.bind iA ?_
 refine Ev.bind sA ?_
 refine Ev.neg (by simp) ?_
 refine Ev.bind iA ?_
 have no : ¬ (pAreCaptures l = true ∧ pAddr a p q = true) → Ev (fun k => laws_FnForms.j0 k l0 l true a p q (pLearn l a p q).1 (pLearn l a p q).2.1 (pLearn l a p q).2.2.1 (pLearn l a p q).2.2.2) true := by
  intro hc
  have e : pLearn l a p q = (0, 0, 0, false) := by unfold pLearn; rw [if_neg hc]
  rw [e]
  refine Ev.round (fun _ => by rw [laws_FnForms.j0]) ?_
  exact Ev.pos rfl (Ev.now _)
 refine Ev.ite_to (fun ca => ?_) (fun ca => ?_)
 ·refine Ev.now_bind (iIsAddress_eq _ _ _) ?_
  cases cb : pAddr a p q with
  | false => exact no (fun h => by rw [h.2] at cb; cases cb)
  | true =>
   have e : pLearn l a p q = pModel (l.filter (pMine a p)) := by
    unfold pLearn
    rw [if_pos ⟨ca, cb⟩, mine_filter, List.nil_append]
   obtain ⟨b, s, em, hbb, hss⟩ := model_form (l.filter (pMine a p))
   rw [e, em]
   unfold finOf
   dsimp only
   have hgood := mine_good a p l hf ca
   have hcount : pCountFits b s a p l = (((l.filter (pMine a p)).countP (pFit b s) : Nat) : Int) := by
    unfold pCountFits
    rw [count_form a p b s hbb hss l 0 hgood]
    omega
   have hle := List.countP_le_length (p := pFit b s) (l := l.filter (pMine a p))
   have hall : (l.filter (pMine a p)).all (pFit b s) = decide (((l.filter (pMine a p)).countP (pFit b s)) = (l.filter (pMine a p)).length) := by
    rw [Bool.eq_iff_iff, decide_eq_true_iff, List.countP_eq_length, List.all_eq_true]
   have hfits : ∀ y ∈ l, pMine a p y = true → (l.filter (pMine a p)).all (pFit b s) = true → pFit b s y = true := by
    intro y hy hm h
    exact List.all_eq_true.1 h y (List.mem_filter.2 ⟨hy, hm⟩)
   have hlenf : (l.filter (pMine a p)).length ≤ l.length := List.length_filter_le _ _
   generalize hS : ((l.filter (pMine a p)).length : Int) = S at *
   generalize hF : (l.filter (pMine a p)).all (pFit b s) = F at *
   have tail : Ev (fun k => laws_FnForms.l0 k l0 l (l.length : Int) a p q b s S F) true := by
    refine Ev.round (fun _ => by rw [laws_FnForms.l0]) ?_
    refine Ev.neg (by omega) ?_
    refine Any.then_ (drawGuessForm_any l0 hlen) ?_
    intro z _
    refine Ev.now_bind (iGuess_eq _ _ _ _ _) ?_
    obtain ⟨g0, g1, g2⟩ := pGuess_in z.1 z.2.1 z.2.2.1 z.2.2.2.1 z.2.2.2.2
    refine Ev.pos g0 ?_
    refine Ev.pos g1 ?_
    refine Ev.ite_to (fun ck => ?_) (fun _ => Ev.now _)
    exact Ev.cast (Ev.now _) (g2 ck)
   have loop : ∀ d i : Nat, i + d = l.length → Ev (fun k => laws_FnForms.l0 k l0 l (i : Int) a p q b s S F) true := by
    intro d
    induction d with
    | zero =>
     intro i hi
     obtain rfl : i = l.length := by omega
     exact tail
    | succ d ih =>
     intro i hi
     have hil : i < l.length := by omega
     have e1 : wrap64 ((i : Int) + 1) = ((i + 1 : Nat) : Int) := by rw [w64 (by omega) (by omega)]; omega
     have hnext := ih (i + 1) (by omega)
     have hmem : rd_T40 l (i : Int) ∈ l := getD_mem l i hil z40
     obtain ⟨hyf, hyc⟩ := hgood _ hmem
     have hfy := hfits _ hmem
     refine Ev.round (fun _ => by rw [laws_FnForms.l0]) ?_
     refine Ev.pos (Int.ofNat_lt.2 hil) ?_
     refine Ev.pos (Int.natCast_nonneg i) ?_
     simp only [e1]
     generalize rd_T40 l (i : Int) = y at hyf hyc hfy
     refine Ev.now_bind rfl ?_
     refine Ev.now_bind rfl ?_
     refine Ev.ite_to (fun _ => hnext) (fun cs => ?_)
     refine Ev.ite_to (fun _ => hnext) (fun ck => ?_)
     have hsame : y.f0.f0 = a ∧ y.f0.f1 = p := by
      simp only [Bool.or_eq_true, Bool.not_eq_true', beq_eq_false_iff_ne, not_or, Classical.not_not, ne_eq] at cs
      exact ⟨cs.1, cs.2.1⟩
     have hm : pMine a p y = true := by
      unfold pMine
      have hc := hyc
      unfold pCapture at hc
      simp only [Bool.and_eq_true, decide_eq_true_eq] at hc
      have hk := pRes_kind hc.2.2
      rw [hsame.1, hsame.2]
      simp
      omega
     have g := goodC_of hyf hyc hm
     have eF := pFits_good g hbb hss
     have e0 : pIn b 0 999 = true := by simp only [pIn, Bool.and_eq_true, decide_eq_true_eq]; exact hbb
     have e00 : pIn s 0 999 = true := by simp only [pIn, Bool.and_eq_true, decide_eq_true_eq]; exact hss
     refine Ev.now_bind (iGuess_eq _ _ _ _ _) ?_
     by_cases cF : F = true
     ·refine Ev.pos cF ?_
      have hfit := hfy hm cF
      by_cases c2 : 2 ≤ S
      ·have eg : pGuess b s S F y.f0.f2 = ((b + s * y.f0.f2) % 1000, true) := by
        unfold pGuess
        rw [if_pos ⟨c2, cF, e0, e00, g.2.1⟩]
       rw [eg]
       refine Ev.neg (by rw [decide_eq_true (show S ≥ 2 from c2)]; simp) ?_
       refine Ev.pos rfl ?_
       refine Ev.bind (iValue_ev _ _ _ _ _ hyf) ?_
       refine Ev.pos ?_ ?_
       ·unfold pFit valOf at hfit
        rw [beq_iff_eq] at hfit
        exact hfit.symm
       ·refine Ev.bind (iFits_ev _ _ _ _ _ _ _ _ _ _ _ _ _ hyf) ?_
        refine Ev.pos (by rw [eF]; exact hfit) ?_
        exact hnext
      ·have eg : pGuess b s S F y.f0.f2 = (0, false) := by
        unfold pGuess
        rw [if_neg (fun h => c2 h.1)]
       rw [eg]
       refine Ev.neg (by rw [decide_eq_false (show ¬ S ≥ 2 from c2)]; simp) ?_
       refine Ev.neg (by simp) ?_
       exact hnext
     ·refine Ev.neg cF ?_
      have eg : pGuess b s S F y.f0.f2 = (0, false) := by
       unfold pGuess
       rw [if_neg (fun h => cF h.2.1)]
      rw [eg]
      refine Ev.neg (by simp) ?_
      refine Ev.neg (by simp) ?_
      exact hnext
   have hj1 : Ev (fun k => laws_FnForms.j1 k l0 l false a p q b s S F) true := by
    refine Ev.round (fun _ => by rw [laws_FnForms.j1]) ?_
    refine Ev.neg (by simp) ?_
    exact loop l.length 0 (by omega)
   refine Ev.round (fun _ => by rw [laws_FnForms.j0]) ?_
   refine Ev.neg (by simp) ?_
   refine Ev.bind (iCountFits_ev b s S F l a p q hl hf) ?_
   rw [hcount]
   refine Ev.neg (by omega) ?_
   refine Ev.neg ?_ ?_
   ·rw [hall]
    by_cases c : ((l.filter (pMine a p)).countP (pFit b s)) = (l.filter (pMine a p)).length
    ·rw [decide_eq_true c, show ((((l.filter (pMine a p)).countP (pFit b s) : Nat) : Int) == S) = true from beq_iff_eq.2 (by omega)]
     simp
    ·rw [decide_eq_false c, show ((((l.filter (pMine a p)).countP (pFit b s) : Nat) : Int) == S) = false from beq_eq_false_iff_ne.2 (by omega)]
     simp
   refine Ev.neg (by omega) ?_
   refine Ev.neg (by omega) ?_
   refine Ev.neg (by omega) ?_
   rw [decide_eq_false (show ¬ s > 999 by omega)]
   exact hj1
 ·exact no (fun h => ca h.1)
end Go.Proofs.Ytgcamebeonodeaa.Pure
