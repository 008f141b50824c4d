/- FnVisits: whatever bytes a visit, a want and a number are drawn from, LiveValue is between 0 and 999 and 0 where the visit is none, AddressesFrom has addresses exactly where a fetch is answered and begins with the address that is wanted, and the value of a resource is more than 0 exactly for a page or data. No condition. -/
import Derived.Test.YtgcamebeonodeaaStdFnVisits
namespace Go.Proofs.Ytgcamebeonodeaa.Pure
open Go.RowKit Go.Proofs.Ytgcamebeonodeaa.MFnVisits Go.Proofs.YtgcamebeonodeaaW.PrintWords Go.Proofs.YtgcamebeonodeaaW.PrintLast Go.Proofs.YtgcamebeonodeaaW.PrintMore Go.Proofs.Ytgcamebeonodeaa.Gen
set_option linter.unusedVariables false
set_option linter.unusedSimpArgs false


def FitimplVersion (y : S169) : Prop := y.f2.f1.length ≤ 1048576
/-- A cursor that stands in its bytes or behind them. -/
def Cur (b : List Int) (i : Int) : Prop := b.length ≤ 1048576 ∧ 0 ≤ i ∧ i ≤ (b.length : Int)
theorem and255 (v : Int) : 0 ≤ Go.bits .and .i64 v 255 ∧ Go.bits .and .i64 v 255 ≤ 255 := by
  have hle : (BitVec.ofInt IntKind.i64.bits v &&& BitVec.ofInt IntKind.i64.bits 255).toNat ≤ 255 := by
    rw [BitVec.toNat_and]
    exact Nat.le_trans Nat.and_le_right (by decide)
  have e : Go.bits .and .i64 v 255 = (((BitVec.ofInt IntKind.i64.bits v &&& BitVec.ofInt IntKind.i64.bits 255).toNat : Nat) : Int) := by
    simp only [Go.bits]
    rw [IntKind.wrap_i64]
    omega
  rw [e]
  omega
/-- From some number of rounds on g answers something of which Q is true. -/
def Any {α : Type} (g : Nat → Option α) (Q : α → Prop) : Prop := ∃ r, Ev g r ∧ Q r
theorem Any.of {α : Type} {g : Nat → Option α} {Q : α → Prop} {r : α} (h : Ev g r) (q : Q r) : Any g Q := ⟨r, h, q⟩
theorem Any.now {α : Type} {Q : α → Prop} {r : α} (q : Q r) : Any (fun _ => some r) Q := ⟨r, Ev.now r, q⟩
theorem Any.mono {α : Type} {g : Nat → Option α} {P Q : α → Prop} (h : Any g P) (m : ∀ r, P r → Q r) : Any g Q := by
  obtain ⟨r, e, q⟩ := h
  exact ⟨r, e, m r q⟩
theorem Any.bind {α β : Type} {f : Nat → Option β} {g : Nat → β → Option α} {P : β → Prop} {Q : α → Prop} (h : Any f P) (k : ∀ x, P x → Any (fun n => g n x) Q) : Any (fun n => (f n).bind (g n)) Q := by
  obtain ⟨x, e, p⟩ := h
  obtain ⟨r, e2, q⟩ := k x p
  exact ⟨r, Ev.bind e e2, q⟩
theorem Any.ev {α β : Type} {f : Nat → Option β} {g : Nat → β → Option α} {v : β} {Q : α → Prop} (h : Ev f v) (k : Any (fun n => g n v) Q) : Any (fun n => (f n).bind (g n)) Q := by
  obtain ⟨r, e2, q⟩ := k
  exact ⟨r, Ev.bind h e2, q⟩
theorem Any.opt {α β : Type} {o : Option β} {g : Nat → β → Option α} {P : β → Prop} {Q : α → Prop} (h : ∃ x, o = some x ∧ P x) (k : ∀ x, P x → Any (fun n => g n x) Q) : Any (fun n => o.bind (g n)) Q := by
  obtain ⟨x, e, p⟩ := h
  obtain ⟨r, e2, q⟩ := k x p
  exact ⟨r, Ev.now_bind e e2, q⟩
theorem Any.ite {α : Type} {c : Prop} [Decidable c] {A B : Nat → Option α} {Q : α → Prop} (k : c → Any A Q) (l : ¬ c → Any B Q) : Any (fun n => if c then A n else B n) Q := by
  by_cases h : c
  · obtain ⟨r, e, q⟩ := k h
    exact ⟨r, Ev.pos h e, q⟩
  · obtain ⟨r, e, q⟩ := l h
    exact ⟨r, Ev.neg h e, q⟩
theorem Any.pos {α : Type} {c : Prop} [Decidable c] {A B : Nat → Option α} {Q : α → Prop} (h : c) (k : Any A Q) : Any (fun n => if c then A n else B n) Q := by
  obtain ⟨r, e, q⟩ := k
  exact ⟨r, Ev.pos h e, q⟩
theorem Any.neg {α : Type} {c : Prop} [Decidable c] {A B : Nat → Option α} {Q : α → Prop} (h : ¬ c) (k : Any B Q) : Any (fun n => if c then A n else B n) Q := by
  obtain ⟨r, e, q⟩ := k
  exact ⟨r, Ev.neg h e, q⟩
theorem Any.round {α : Type} {g f : Nat → Option α} {Q : α → Prop} (h : ∀ k, g (k + 1) = f k) (k : Any f Q) : Any g Q := by
  obtain ⟨r, e, q⟩ := k
  exact ⟨r, Ev.round h e, q⟩
theorem Any.to {α : Type} {g : Nat → Option α} {v : α} (h : Any g (fun r => r = v)) : Ev g v := by
  obtain ⟨r, e, rfl⟩ := h
  exact e
theorem Any.then_ {α β : Type} {f : Nat → Option β} {g : Nat → β → Option α} {P : β → Prop} {v : α} (h : Any f P) (k : ∀ x, P x → Ev (fun n => g n x) v) : Ev (fun n => (f n).bind (g n)) v := by
  obtain ⟨x, e, p⟩ := h
  exact Ev.bind e (k x p)
theorem l1New_ev (b : List Int) (hb : b.length ≤ 1048576) : ∃ h, Ev (fun k => spec_l1New.f k b) (b, 0, h) := by
  unfold spec_l1New.f
  have key : ∀ d i : Nat, i + d = b.length → ∀ h : Int, ∃ g, Ev (fun k => spec_l1New.l0 k b h (i : Int)) (b, 0, g) := by
    intro d
    induction d with
    | zero =>
      intro i hi h
      refine ⟨h, ?_⟩
      refine Ev.round (fun _ => by rw [spec_l1New.l0]) ?_
      refine Ev.neg (by omega) ?_
      exact Ev.now _
    | succ d ih =>
      intro i hi h
      by_cases h4 : (i : Int) < 4000
      · have e1 : wrap64 ((i : Int) + 1) = ((i + 1 : Nat) : Int) := by rw [w64 (by omega) (by omega)]; omega
        obtain ⟨g, hg⟩ := ih (i + 1) (by omega) (Go.bits .and .i64 (wrap64 ((wrap64 ((wrap64 (h * 137)) + (wrap64 (rd b (i : Int))))) + 11)) 1073741823)
        refine ⟨g, ?_⟩
        refine Ev.round (fun _ => by rw [spec_l1New.l0]) ?_
        refine Ev.pos (by omega) ?_
        refine Ev.pos h4 ?_
        refine Ev.pos (by omega) ?_
        simp only [e1]
        exact hg
      · refine ⟨h, ?_⟩
        refine Ev.round (fun _ => by rw [spec_l1New.l0]) ?_
        refine Ev.pos (by omega) ?_
        refine Ev.neg h4 ?_
        exact Ev.now _
  exact key b.length 0 (by omega) _
theorem cur0 (b : List Int) (hb : b.length ≤ 1048576) : Cur b 0 := ⟨hb, by omega, by omega⟩
theorem aNew (b : List Int) (hb : b.length ≤ 1048576) : Any (fun k => spec_l1New.f k b) (fun x => x.1 = b ∧ Cur b x.2.1) := by
  obtain ⟨h, e⟩ := l1New_ev b hb
  exact ⟨_, e, rfl, cur0 b hb⟩
theorem l1Byte_some (b : List Int) (i h : Int) (c : Cur b i) : ∃ x j g, spec_l1Byte.f b i h = some (x, j, g) ∧ (0 ≤ x ∧ x ≤ 255) ∧ Cur b j := by
  obtain ⟨c1, c2, c3⟩ := c
  unfold spec_l1Byte.f
  by_cases hi : i < (b.length : Int)
  · rw [if_pos hi, if_pos c2]
    exact ⟨_, _, _, rfl, and255 _, c1, by rw [w64 (by omega) (by omega)]; omega, by rw [w64 (by omega) (by omega)]; omega⟩
  · rw [if_neg hi]
    exact ⟨_, _, _, rfl, and255 _, c1, c2, c3⟩
theorem l1Below_some (b : List Int) (i h n : Int) (c : Cur b i) : ∃ x j g, spec_l1Below.f b i h n = some (x, j, g) ∧ 0 ≤ x ∧ (0 < n → x < n) ∧ Cur b j := by
  unfold spec_l1Below.f
  by_cases h0 : n ≤ 0
  · rw [if_pos h0]
    exact ⟨0, i, h, rfl, by omega, by omega, c⟩
  rw [if_neg h0]
  by_cases h1 : n ≤ 256
  · rw [if_pos h1]
    obtain ⟨x, j, g, e, b1, cj⟩ := l1Byte_some b i h c
    rw [e]
    simp only [Option.bind_some]
    rw [if_neg (by omega)]
    refine ⟨_, _, _, rfl, ?_, ?_, cj⟩
    · rw [Int.tmod_eq_emod_of_nonneg b1.1]
      exact Int.emod_nonneg _ (by omega)
    · intro hn
      rw [Int.tmod_eq_emod_of_nonneg b1.1]
      exact Int.emod_lt_of_pos _ hn
  · rw [if_neg h1]
    obtain ⟨x, j, g, e, b1, cj⟩ := l1Byte_some b i h c
    obtain ⟨y, j2, g2, e2, b2, cj2⟩ := l1Byte_some b j g cj
    obtain ⟨z, j3, g3, e3, b3, cj3⟩ := l1Byte_some b j2 g2 cj2
    rw [e]
    simp only [Option.bind_some]
    rw [e2]
    simp only [Option.bind_some]
    rw [e3]
    simp only [Option.bind_some]
    rw [if_neg (by omega)]
    have hv : 0 ≤ wrap64 (wrap64 (wrap64 (x * 65536) + wrap64 (y * 256)) + z) := by
      rw [w64 (n := x * 65536) (by omega) (by omega), w64 (n := y * 256) (by omega) (by omega), w64 (n := x * 65536 + y * 256) (by omega) (by omega), w64 (by omega) (by omega)]
      omega
    refine ⟨_, _, _, rfl, ?_, ?_, cj3⟩
    · rw [Int.tmod_eq_emod_of_nonneg hv]
      exact Int.emod_nonneg _ (by omega)
    · intro hn
      rw [Int.tmod_eq_emod_of_nonneg hv]
      exact Int.emod_lt_of_pos _ hn
theorem l1Below_lt (b : List Int) (i h n : Int) (hn : 0 < n) (c : Cur b i) : ∃ x j g, spec_l1Below.f b i h n = some (x, j, g) ∧ (0 ≤ x ∧ x < n) ∧ Cur b j := by
  obtain ⟨x, j, g, e, h0, h1, cj⟩ := l1Below_some b i h n c
  exact ⟨x, j, g, e, ⟨h0, h1 hn⟩, cj⟩
theorem aBelow (b : List Int) (i h n : Int) (hn : 0 < n) (c : Cur b i) : ∃ x, spec_l1Below.f b i h n = some x ∧ ((0 ≤ x.1 ∧ x.1 < n) ∧ Cur b x.2.1) := by
  obtain ⟨x, j, g, e, hx, cj⟩ := l1Below_lt b i h n hn c
  exact ⟨(x, j, g), e, hx, cj⟩
theorem l4Draw_some (b : List Int) (i h : Int) (c : Cur b i) : ∃ x y z j g, spec_l4Draw.f b i h = some (x, y, z, j, g) ∧ (1 ≤ x ∧ x ≤ 3 ∧ 0 ≤ y ∧ y ≤ 2 ∧ 0 ≤ z ∧ z ≤ 2) ∧ Cur b j := by
  obtain ⟨x, j, g, e, hx, cj⟩ := l1Below_lt b i h 3 (by omega) c
  obtain ⟨y, j2, g2, e2, hy, cj2⟩ := l1Below_lt b j g 3 (by omega) cj
  obtain ⟨z, j3, g3, e3, hz, cj3⟩ := l1Below_lt b j2 g2 3 (by omega) cj2
  have ew : wrap64 (1 + x) = 1 + x := w64 (by omega) (by omega)
  refine ⟨1 + x, y, z, j3, g3, ?_, by omega, cj3⟩
  unfold spec_l4Draw.f
  rw [e, Option.bind_some]
  dsimp only
  rw [e2, Option.bind_some]
  dsimp only
  rw [e3, Option.bind_some]
  dsimp only
  rw [ew]
theorem l5Body_ev (b : List Int) (i h : Int) (c : Cur b i) : ∃ l j g, Ev (fun k => spec_l5Body.f k b i h) (l, j, g) ∧ l.length ≤ 4 ∧ Cur b j := by
  obtain ⟨n, j, g, e, hn, cj⟩ := l1Below_lt b i h 5 (by omega) c
  have key : ∀ (d : Nat) (l : List Int) (i h : Int), Cur b i → l.length + d ≤ 4 → ∃ l' j g, Ev (fun k => spec_l5Body.l0 k l (d : Int) b i h) (l', j, g) ∧ l'.length ≤ 4 ∧ Cur b j := by
    intro d
    induction d with
    | zero =>
      intro l i h c hl
      refine ⟨l, i, h, ?_, by omega, c⟩
      refine Ev.round (fun _ => by rw [spec_l5Body.l0]) ?_
      exact Ev.neg (by omega) (Ev.now _)
    | succ d ih =>
      intro l i h c hl
      obtain ⟨x, j, g, e, hx, cj⟩ := l1Below_lt b i h 9 (by omega) c
      have e1 : wrap64 (((d + 1 : Nat) : Int) - 1) = (d : Int) := by rw [w64 (by omega) (by omega)]; omega
      obtain ⟨l', j', g', ev, hl', cj'⟩ := ih (l ++ [x]) j g cj (by rw [List.length_append, List.length_singleton]; omega)
      refine ⟨l', j', g', ?_, hl', cj'⟩
      refine Ev.round (fun _ => by rw [spec_l5Body.l0]) ?_
      refine Ev.pos (by omega) ?_
      refine Ev.now_bind e ?_
      refine Ev.pos (by omega) ?_
      simp only [e1]
      exact ev
  obtain ⟨l, j', g', ev, hl, cj'⟩ := key n.toNat [] j g cj (by simp; omega)
  refine ⟨l, j', g', ?_, hl, cj'⟩
  unfold spec_l5Body.f
  refine Ev.now_bind e ?_
  have en : ((n.toNat : Nat) : Int) = n := by omega
  rw [en] at ev
  exact ev
theorem l5Draw_ev (b : List Int) (i h : Int) (c : Cur b i) : ∃ k0 l x y z j g, Ev (fun k => spec_l5Draw.f k b i h) (k0, l, x, y, z, j, g) ∧ l.length ≤ 4 ∧ Cur b j := by
  obtain ⟨n, j, g, e, hn, cj⟩ := l1Below_lt b i h 6 (by omega) c
  unfold spec_l5Draw.f
  by_cases h0 : n = 0
  · obtain ⟨x, y, z, j2, g2, e2, _, cj2⟩ := l4Draw_some b j g cj
    refine ⟨3, [], x, y, z, j2, g2, ?_, by simp, cj2⟩
    refine Ev.now_bind e ?_
    refine Ev.pos h0 ?_
    refine Ev.now_bind e2 ?_
    exact Ev.now _
  · by_cases h1 : n = 1
    · refine ⟨4, [], 0, 0, 0, j, g, ?_, by simp, cj⟩
      refine Ev.now_bind e ?_
      refine Ev.neg h0 ?_
      refine Ev.pos h1 ?_
      exact Ev.now _
    · obtain ⟨x, j2, g2, e2, hx, cj2⟩ := l1Below_lt b j g 2 (by omega) cj
      obtain ⟨l, j3, g3, ev, hl, cj3⟩ := l5Body_ev b j2 g2 cj2
      refine ⟨wrap64 (1 + x), l, 0, 0, 0, j3, g3, ?_, hl, cj3⟩
      refine Ev.now_bind e ?_
      refine Ev.neg h0 ?_
      refine Ev.neg h1 ?_
      refine Ev.now_bind e2 ?_
      refine Ev.bind ev ?_
      exact Ev.now _
def DrawnV (y : S169) : Prop := FitimplVersion y ∧ 0 ≤ y.f1 ∧ y.f1 ≤ 11
theorem l9Draw_ev (b : List Int) (i h : Int) (c : Cur b i) : ∃ l j g, Ev (fun k => spec_l9Draw.f k b i h) (l, j, g) ∧ l.length ≤ 8 ∧ (∀ y ∈ l, DrawnV y) ∧ Cur b j := by
  obtain ⟨n, j, g, e, hn, cj⟩ := l1Below_lt b i h 9 (by omega) c
  have key : ∀ (d : Nat) (l : List S169) (i h : Int), Cur b i → l.length + d ≤ 8 → (∀ y ∈ l, DrawnV y) → ∃ l' j g, Ev (fun k => spec_l9Draw.l0 k l (d : Int) b i h) (l', j, g) ∧ l'.length ≤ 8 ∧ (∀ y ∈ l', DrawnV y) ∧ Cur b j := by
    intro d
    induction d with
    | zero =>
      intro l i h c hl hd
      refine ⟨l, i, h, ?_, by omega, hd, c⟩
      refine Ev.round (fun _ => by rw [spec_l9Draw.l0]) ?_
      exact Ev.neg (by omega) (Ev.now _)
    | succ d ih =>
      intro l i h c hl hd
      obtain ⟨a, p, q, j, g, e, _, cj⟩ := l4Draw_some b i h c
      obtain ⟨t, j2, g2, e2, ht, cj2⟩ := l1Below_lt b j g 12 (by omega) cj
      obtain ⟨k0, bd, x, y, z, j3, g3, ev, hbd, cj3⟩ := l5Draw_ev b j2 g2 cj2
      have e1 : wrap64 (((d + 1 : Nat) : Int) - 1) = (d : Int) := by rw [w64 (by omega) (by omega)]; omega
      obtain ⟨l', j', g', ev', hl', hd', cj'⟩ := ih (l ++ [⟨⟨a, p, q⟩, t, ⟨k0, bd, ⟨x, y, z⟩⟩⟩]) j3 g3 cj3 (by rw [List.length_append, List.length_singleton]; omega) (by
        intro y hy
        rcases List.mem_append.1 hy with hy | hy
        · exact hd y hy
        · rw [List.mem_singleton] at hy
          rw [hy]
          refine ⟨?_, ht.1, ?_⟩
          · show bd.length ≤ 1048576
            omega
          · show t ≤ 11
            omega)
      refine ⟨l', j', g', ?_, hl', hd', cj'⟩
      refine Ev.round (fun _ => by rw [spec_l9Draw.l0]) ?_
      refine Ev.pos (by omega) ?_
      refine Ev.now_bind e ?_
      refine Ev.now_bind e2 ?_
      refine Ev.bind ev ?_
      refine Ev.pos (by omega) ?_
      simp only [e1]
      exact ev'
  obtain ⟨l, j', g', ev, hl, hd, cj'⟩ := key n.toNat [] j g cj (by simp; omega) (by simp)
  refine ⟨l, j', g', ?_, hl, hd, cj'⟩
  unfold spec_l9Draw.f
  refine Ev.now_bind e ?_
  have en : ((n.toNat : Nat) : Int) = n := by omega
  rw [en] at ev
  exact ev
theorem a9Draw (b : List Int) (i h : Int) (c : Cur b i) : Any (fun k => spec_l9Draw.f k b i h) (fun x => x.1.length ≤ 8 ∧ (∀ y ∈ x.1, FitimplVersion y) ∧ Cur b x.2.1) := by
  obtain ⟨l, j, g, e, hl, hd, cj⟩ := l9Draw_ev b i h c
  exact ⟨_, e, hl, fun y hy => (hd y hy).1, cj⟩
/-- What a visit is drawn as: a short site, and few inputs. -/
def VisitOk (b : List Int) (x : List S169 × Int × Int × List Int × Int × Int) : Prop := x.1.length ≤ 8 ∧ (∀ y ∈ x.1, FitimplVersion y) ∧ x.2.2.2.1.length ≤ 9 ∧ Cur b x.2.2.2.2.1
theorem a12Draw (b : List Int) (i h : Int) (c : Cur b i) : Any (fun k => spec_l12Draw.f k b i h) (fun x => VisitOk b x ∧ x.2.2.2.1.length ≤ 3 ∧ (0 ≤ x.2.1 ∧ x.2.1 ≤ 11)) := by
  unfold spec_l12Draw.f
  refine Any.bind (a9Draw b i h c) ?_
  intro x hx
  refine Any.opt (aBelow b _ _ 12 (by omega) hx.2.2) ?_
  intro t ht
  refine Any.opt (aBelow b _ _ 50 (by omega) ht.2) ?_
  intro s hs
  refine Any.opt (aBelow b _ _ 4 (by omega) hs.2) ?_
  intro n hn
  have key : ∀ (d : Nat) (l : List Int) (i h : Int), Cur b i → l.length + d ≤ 3 → Any (fun k => spec_l12Draw.l0 k (d : Int) b i h x.1 t.1 s.1 l) (fun x => VisitOk b x ∧ x.2.2.2.1.length ≤ 3 ∧ (0 ≤ x.2.1 ∧ x.2.1 ≤ 11)) := by
    intro d
    induction d with
    | zero =>
      intro l i h c hl
      refine Any.round (fun _ => by rw [spec_l12Draw.l0]) ?_
      refine Any.neg (by omega) (Any.now ⟨⟨hx.1, hx.2.1, ?_, c⟩, ?_, ht.1.1, ?_⟩)
      · dsimp only; omega
      · dsimp only; omega
      · dsimp only; omega
    | succ d ih =>
      intro l i h c hl
      have e1 : wrap64 (((d + 1 : Nat) : Int) - 1) = (d : Int) := by rw [w64 (by omega) (by omega)]; omega
      refine Any.round (fun _ => by rw [spec_l12Draw.l0]) ?_
      refine Any.pos (by omega) ?_
      refine Any.opt (aBelow b _ _ 9 (by omega) c) ?_
      intro v hv
      refine Any.pos (by omega) ?_
      simp only [e1]
      exact ih _ _ _ hv.2 (by rw [List.length_append, List.length_singleton]; omega)
  have h := key n.1.toNat [] n.2.1 n.2.2 hn.2 (by rw [List.length_nil]; omega)
  have en : ((n.1.toNat : Nat) : Int) = n.1 := by omega
  rw [en] at h
  exact h
theorem l1Int_some (b : List Int) (i h : Int) (l : List Int) (hl : 0 < l.length) (c : Cur b i) : ∃ x j g, spec_l1Int.f b i h l = some (x, j, g) ∧ x ∈ l ∧ Cur b j := by
  obtain ⟨x, j, g, e, hx, cj⟩ := l1Below_lt b i h (l.length : Int) (by omega) c
  unfold spec_l1Int.f
  rw [e]
  simp only [Option.bind_some]
  rw [if_pos hx.1, if_pos hx.2]
  refine ⟨_, _, _, rfl, ?_, cj⟩
  exact getD_mem l x.toNat (by omega) 0
theorem l4Raw_some (b : List Int) (i h : Int) (c : Cur b i) : ∃ x j g, spec_l4Raw.f b i h = some (x, j, g) ∧ (-9223372036854775808 ≤ x ∧ x ≤ 9223372036854775807) ∧ Cur b j := by
  unfold spec_l4Raw.f
  obtain ⟨x, j, g, e, hx, cj⟩ := l1Int_some b i h [-1, 0, 9, 10, 99, 100, 9223372036854775807, -9223372036854775808] (by simp) c
  rw [e]
  refine ⟨x, j, g, rfl, ?_, cj⟩
  simp only [List.mem_cons, List.not_mem_nil, or_false] at hx
  omega
theorem l4Any_some (b : List Int) (i h : Int) (c : Cur b i) : ∃ x y z j g, spec_l4Any.f b i h = some (x, y, z, j, g) ∧ Cur b j := by
  obtain ⟨x, y, z, j, g, e, _, cj⟩ := l4Draw_some b i h c
  obtain ⟨n, j2, g2, e2, hn, cj2⟩ := l1Below_lt b j g 9 (by omega) cj
  obtain ⟨v, j3, g3, e3, _, cj3⟩ := l4Raw_some b j2 g2 cj2
  unfold spec_l4Any.f
  rw [e, Option.bind_some]
  dsimp only
  rw [e2, Option.bind_some]
  dsimp only
  rw [e3, Option.bind_some, Option.bind_some, Option.bind_some]
  dsimp only
  by_cases h0 : n = 0
  · rw [if_pos h0]
    exact ⟨_, _, _, _, _, rfl, cj3⟩
  · rw [if_neg h0]
    by_cases h1 : n = 1
    · rw [if_pos h1]
      exact ⟨_, _, _, _, _, rfl, cj3⟩
    · rw [if_neg h1]
      by_cases h2 : n = 2
      · rw [if_pos h2]
        exact ⟨_, _, _, _, _, rfl, cj3⟩
      · rw [if_neg h2]
        exact ⟨_, _, _, _, _, rfl, cj2⟩
theorem a4Any (b : List Int) (i h : Int) (c : Cur b i) : ∃ x, spec_l4Any.f b i h = some x ∧ Cur b x.2.2.2.1 := by
  obtain ⟨x, y, z, j, g, e, cj⟩ := l4Any_some b i h c
  exact ⟨(x, y, z, j, g), e, cj⟩
theorem aInt (b : List Int) (i h : Int) (l : List Int) (hl : 0 < l.length) (c : Cur b i) : ∃ x, spec_l1Int.f b i h l = some x ∧ (x.1 ∈ l ∧ Cur b x.2.1) := by
  obtain ⟨x, j, g, e, hx, cj⟩ := l1Int_some b i h l hl c
  exact ⟨(x, j, g), e, hx, cj⟩
theorem l5Any_ev (b : List Int) (i h : Int) (c : Cur b i) : ∃ k0 l x y z j g, Ev (fun k => spec_l5Any.f k b i h) (k0, l, x, y, z, j, g) ∧ l.length ≤ 7 ∧ Cur b j := by
  obtain ⟨k0, l, x, y, z, j, g, ev, hl, cj⟩ := l5Draw_ev b i h c
  obtain ⟨n, j2, g2, e2, hn, cj2⟩ := l1Below_lt b j g 9 (by omega) cj
  unfold spec_l5Any.f
  by_cases h0 : n = 0
  · obtain ⟨v, j3, g3, e3, _, cj3⟩ := l1Int_some b j2 g2 [0, 5, 3, 4] (by simp) cj2
    exact ⟨_, _, _, _, _, _, _, Ev.bind ev (Ev.now_bind e2 (Ev.pos h0 (Ev.now_bind e3 (Ev.now _)))), by dsimp only; omega, cj3⟩
  · by_cases h1 : n = 1
    · obtain ⟨v, j3, g3, e3, _, cj3⟩ := l1Int_some b j2 g2 [(-1), 255, 256] (by simp) cj2
      exact ⟨_, _, _, _, _, _, _, Ev.bind ev (Ev.now_bind e2 (Ev.neg h0 (Ev.pos h1 (Ev.now_bind e3 (Ev.pos (by dsimp only; omega) (Ev.now _)))))), by rw [List.length_append, List.length_singleton]; dsimp only; omega, cj3⟩
    · by_cases h2 : n = 2
      · exact ⟨_, _, _, _, _, _, _, Ev.bind ev (Ev.now_bind e2 (Ev.neg h0 (Ev.neg h1 (Ev.pos h2 (Ev.now _))))), by simp, cj2⟩
      · by_cases h3 : n = 3
        · obtain ⟨x3, y3, z3, j3, g3, e3, cj3⟩ := l4Any_some b j2 g2 cj2
          exact ⟨_, _, _, _, _, _, _, Ev.bind ev (Ev.now_bind e2 (Ev.neg h0 (Ev.neg h1 (Ev.neg h2 (Ev.pos h3 (Ev.now_bind e3 (Ev.now _))))))), by dsimp only; omega, cj3⟩
        · exact ⟨_, _, _, _, _, _, _, Ev.bind ev (Ev.now_bind e2 (Ev.neg h0 (Ev.neg h1 (Ev.neg h2 (Ev.neg h3 (Ev.now _)))))), by dsimp only; omega, cj2⟩
theorem a5Any (b : List Int) (i h : Int) (c : Cur b i) : Any (fun k => spec_l5Any.f k b i h) (fun x => x.2.1.length ≤ 7 ∧ Cur b x.2.2.2.2.2.1) := by
  obtain ⟨k0, l, x, y, z, j, g, e, hl, cj⟩ := l5Any_ev b i h c
  exact ⟨_, e, hl, cj⟩
theorem setV {l : List S169} (h : ∀ y ∈ l, FitimplVersion y) (i : Nat) {x : S169} (hx : x.f2.f1.length ≤ 1048576) : ∀ y ∈ l.set i x, FitimplVersion y := by
  intro y hy
  rcases List.mem_or_eq_of_mem_set hy with h1 | h1
  · exact h y h1
  · rw [h1]
    exact hx
theorem rdV {l : List S169} (h : ∀ y ∈ l, FitimplVersion y) (i : Int) (h0 : 0 ≤ i) (h1 : i < (l.length : Int)) : (rd_T169 l i).f2.f1.length ≤ 1048576 := h _ (getD_mem l i.toNat (by omega) z169)
theorem a9Any (b : List Int) (i h : Int) (c : Cur b i) : Any (fun k => spec_l9Any.f k b i h) (fun x => x.1.length ≤ 8 ∧ (∀ y ∈ x.1, FitimplVersion y) ∧ Cur b x.2.1) := by
  unfold spec_l9Any.f
  refine Any.bind (a9Draw b i h c) ?_
  intro x hx
  refine Any.ite (fun _ => Any.now hx) (fun hne => ?_)
  refine Any.opt (aBelow b _ _ _ (by omega) hx.2.2) ?_
  intro y hy
  refine Any.opt (aBelow b _ _ 9 (by omega) hy.2) ?_
  intro z hz
  have hr := rdV hx.2.1 y.1 hy.1.1 hy.1.2
  refine Any.ite (fun _ => ?_) (fun _ => ?_)
  · refine Any.opt (a4Any b _ _ hz.2) ?_
    intro v hv
    exact Any.pos hy.1.1 (Any.pos hy.1.2 (Any.now ⟨by rw [List.length_set]; exact hx.1, setV hx.2.1 _ hr, hv⟩))
  refine Any.ite (fun _ => ?_) (fun _ => ?_)
  · refine Any.opt (aInt b _ _ _ (by simp) hz.2) ?_
    intro v hv
    exact Any.pos hy.1.1 (Any.pos hy.1.2 (Any.now ⟨by rw [List.length_set]; exact hx.1, setV hx.2.1 _ hr, hv.2⟩))
  refine Any.ite (fun _ => ?_) (fun _ => ?_)
  · refine Any.bind (a5Any b _ _ hz.2) ?_
    intro v hv
    exact Any.pos hy.1.1 (Any.pos hy.1.2 (Any.now ⟨by rw [List.length_set]; exact hx.1, setV hx.2.1 _ (Nat.le_trans hv.1 (by omega)), hv.2⟩))
  · exact Any.now ⟨hx.1, hx.2.1, hz.2⟩
theorem a12Any (b : List Int) (i h : Int) (c : Cur b i) : Any (fun k => spec_l12Any.f k b i h) (VisitOk b) := by
  unfold spec_l12Any.f
  refine Any.bind (a12Draw b i h c) ?_
  intro x hx
  obtain ⟨⟨q1, q2, q3, q4⟩, q5, _⟩ := hx
  refine Any.opt (aBelow b _ _ 9 (by omega) q4) ?_
  intro y hy
  refine Any.ite (fun _ => ?_) (fun _ => ?_)
  · refine Any.opt (aInt b _ _ _ (by simp) hy.2) ?_
    intro v hv
    exact Any.now ⟨q1, q2, q3, hv.2⟩
  refine Any.ite (fun _ => ?_) (fun _ => ?_)
  · refine Any.opt (aInt b _ _ _ (by simp) hy.2) ?_
    intro v hv
    exact Any.now ⟨q1, q2, q3, hv.2⟩
  refine Any.ite (fun _ => ?_) (fun _ => ?_)
  · refine Any.opt (aInt b _ _ _ (by simp) hy.2) ?_
    intro v hv
    exact Any.pos (by omega) (Any.now ⟨q1, q2, by rw [List.length_append, List.length_singleton]; omega, hv.2⟩)
  refine Any.ite (fun _ => ?_) (fun _ => ?_)
  · refine Any.bind (a9Any b _ _ hy.2) ?_
    intro v hv
    exact Any.now ⟨hv.1, hv.2.1, q3, hv.2.2⟩
  refine Any.ite (fun _ => ?_) (fun _ => ?_)
  · have key : ∀ (d : Nat) (l : List Int), l.length + d = 9 → Any (fun k => spec_l12Any.l0 k b y.2.1 y.2.2 x.1 x.2.1 x.2.2.1 l) (VisitOk b) := by
      intro d
      induction d with
      | zero =>
        intro l hl
        refine Any.round (fun _ => by rw [spec_l12Any.l0]) ?_
        refine Any.neg (by omega) (Any.now ⟨q1, q2, ?_, hy.2⟩)
        dsimp only
        omega
      | succ d ih =>
        intro l hl
        refine Any.round (fun _ => by rw [spec_l12Any.l0]) ?_
        refine Any.pos (by omega) ?_
        refine Any.pos (by omega) ?_
        exact ih _ (by rw [List.length_append, List.length_singleton]; omega)
    exact key (9 - x.2.2.2.1.length) x.2.2.2.1 (by omega)
  · exact Any.now ⟨q1, q2, q3, hy.2⟩
theorem l1Once_some (b : List Int) (i h n : Int) (c : Cur b i) : ∃ x j g, spec_l1Once.f b i h n = some (x, j, g) ∧ Cur b j := by
  obtain ⟨x, j, g, e, _, _, cj⟩ := l1Below_some b i h n c
  unfold spec_l1Once.f
  rw [e]
  exact ⟨_, _, _, rfl, cj⟩
theorem l9Ask_ev (b : List Int) (i h : Int) (l : List S169) (c : Cur b i) : ∃ x y z j g, Ev (fun k => spec_l9Ask.f k b i h l) (x, y, z, j, g) ∧ Cur b j := by
  have no : ∀ i h : Int, Cur b i → ∃ x y z j g, Ev (fun k => spec_l9Ask.j0 k l false b i h) (x, y, z, j, g) ∧ Cur b j := by
    intro i h c
    obtain ⟨x, y, z, j, g, e, _, cj⟩ := l4Draw_some b i h c
    refine ⟨x, y, z, j, g, ?_, cj⟩
    refine Ev.round (fun _ => by rw [spec_l9Ask.j0]) ?_
    refine Ev.neg (by simp) ?_
    refine Ev.now_bind e ?_
    exact Ev.now _
  unfold spec_l9Ask.f
  by_cases h0 : (l.length : Int) > 0
  · obtain ⟨s, j, g, e, cj⟩ := l1Once_some b i h 2 c
    cases s with
    | false =>
      obtain ⟨x, y, z, j', g', ev, cj'⟩ := no j g cj
      exact ⟨x, y, z, j', g', Ev.pos h0 (Ev.now_bind e ev), cj'⟩
    | true =>
      obtain ⟨n, j2, g2, e2, hn, cj2⟩ := l1Below_lt b j g (l.length : Int) h0 cj
      refine ⟨(rd_T169 l n).f0.f0, (rd_T169 l n).f0.f1, (rd_T169 l n).f0.f2, j2, g2, ?_, cj2⟩
      refine Ev.pos h0 ?_
      refine Ev.now_bind e ?_
      refine Ev.round (fun _ => by rw [spec_l9Ask.j0]) ?_
      refine Ev.pos rfl ?_
      refine Ev.now_bind e2 ?_
      refine Ev.pos hn.1 ?_
      refine Ev.pos hn.2 ?_
      exact Ev.now _
  · obtain ⟨x, y, z, j', g', ev, cj'⟩ := no i h c
    exact ⟨x, y, z, j', g', Ev.neg h0 ev, cj'⟩
theorem a9Ask (b : List Int) (i h : Int) (l : List S169) (c : Cur b i) : Any (fun k => spec_l9Ask.f k b i h l) (fun x => Cur b x.2.2.2.1) := by
  obtain ⟨x, y, z, j, g, e, cj⟩ := l9Ask_ev b i h l c
  exact ⟨_, e, cj⟩
theorem a12Want (b : List Int) (i h : Int) (s : List S169) (t d : Int) (l : List Int) (c : Cur b i) : Any (fun k => spec_l12Want.f k b i h s t d l) (fun x => Cur b x.2.2.2.2.1) := by
  unfold spec_l12Want.f
  refine Any.opt (aBelow b _ _ 6 (by omega) c) ?_
  intro x hx
  refine Any.ite (fun _ => ?_) (fun _ => ?_)
  · refine Any.bind (a9Ask b _ _ s hx.2) ?_
    intro y hy
    exact Any.now hy
  · exact Any.now hx.2
theorem drawLiveValue_any (b : List Int) (hb : b.length ≤ 1048576) : Any (fun k => spec_DrawLiveValue.f k b) (fun x => x.1.length ≤ 8 ∧ (∀ y ∈ x.1, FitimplVersion y) ∧ x.2.2.2.1.length ≤ 9) := by
  unfold spec_DrawLiveValue.f
  refine Any.bind (aNew b hb) ?_
  intro x hx
  rw [hx.1]
  refine Any.bind (a12Any b _ _ hx.2) ?_
  intro y hy
  refine Any.bind (a12Want b _ _ _ _ _ _ hy.2.2.2) ?_
  intro z hz
  refine Any.opt (aInt b _ _ _ (by simp) hz) ?_
  intro v hv
  exact Any.now ⟨hy.1, hy.2.1, hy.2.2.1⟩
theorem InRange_eq (a b c : Int) : impl_InRange.f a b c = some (decide (b ≤ a) && decide (a ≤ c)) := by
  unfold impl_InRange.f
  by_cases h : b ≤ a <;> simp [h]
theorem iIsAddress_eq (h p q : Int) : impl_IsAddress.f h p q = some (pAddr h p q) := by
  simp only [impl_IsAddress.f, InRange_eq, Option.bind_some, some_and]
theorem allIn_ev (l : List Int) (a b : Int) (h : l.length ≤ 1048576) : Ev (fun k => impl_allIn.f k l a b) (l.all (pIn · a b)) := by
  unfold impl_allIn.f
  refine Ev.cast (ev_all (fun k i => impl_allIn.l0 k a b l (l.length : Int) i) l 0 (pIn · a b) true (fun k => by rw [impl_allIn.l0, if_neg (by omega)]) ?_ ?_) (Bool.and_true _)
  · intro i hi hp r hr
    have e1 : wrap64 ((i : Int) + 1) = ((i + 1 : Nat) : Int) := by rw [w64 (by omega) (by omega)]; omega
    refine Ev.round (fun _ => by rw [impl_allIn.l0]) ?_
    refine Ev.pos (by omega) ?_
    refine Ev.pos (by omega) ?_
    refine Ev.pos (by omega) ?_
    refine Ev.now_bind (InRange_eq _ _ _) ?_
    refine Ev.pos ?_ ?_
    · rw [rd_nat]; exact hp
    · simp only [e1]; exact hr
  · intro i hi hp
    refine Ev.round (fun _ => by rw [impl_allIn.l0]) ?_
    refine Ev.pos (by omega) ?_
    refine Ev.pos (by omega) ?_
    refine Ev.pos (by omega) ?_
    refine Ev.now_bind (InRange_eq _ _ _) ?_
    refine Ev.neg ?_ (Ev.now _)
    rw [rd_nat]; exact ne_true_of_eq_false hp
def pRes (k : Int) (b : List Int) (h p q : Int) : Bool :=
  if k = 1 ∨ k = 2 then decide ((b.length : Int) ≤ 6) && (b.all (pIn · 0 255) && pZero h p q)
  else if k = 3 then decide ((b.length : Int) = 0) && pAddr h p q
  else if k = 4 then decide ((b.length : Int) = 0) && pZero h p q
  else false
theorem iIsResource_ev (k : Int) (b : List Int) (h p q : Int) (hb : b.length ≤ 1048576) : Ev (fun n => impl_IsResource.f n k b h p q) (pRes k b h p q) := by
  have hj : ∀ x : Bool, (x = true ↔ k = 1 ∨ k = 2) → Ev (fun n => impl_IsResource.j0 n k x k b h p q) (pRes k b h p q) := by
    intro x hx
    refine Ev.round (fun _ => by rw [impl_IsResource.j0]) ?_
    unfold pRes
    cases x with
    | true =>
      refine Ev.rpos (hx.1 rfl) ?_
      refine Ev.pos rfl ?_
      exact Ev.if_and fun _ => Ev.and (allIn_ev b 0 255 hb) fun _ => Ev.now _
    | false =>
      have hno : ¬ (k = 1 ∨ k = 2) := fun c => by simpa using hx.2 c
      refine Ev.rneg hno ?_
      refine Ev.neg (by simp) ?_
      by_cases h3 : k = 3
      · refine Ev.rpos h3 ?_
        refine Ev.pos h3 ?_
        exact Ev.if_and fun _ => Ev.now_bind (iIsAddress_eq _ _ _) (Ev.now _)
      · refine Ev.rneg h3 ?_
        refine Ev.neg h3 ?_
        by_cases h4 : k = 4
        · refine Ev.rpos h4 ?_
          refine Ev.pos h4 ?_
          exact Ev.if_and fun _ => Ev.now _
        · refine Ev.rneg h4 ?_
          refine Ev.neg h4 ?_
          exact Ev.now _
  unfold impl_IsResource.f
  by_cases h1 : k = 1
  · refine Ev.pos h1 (hj _ ?_)
    simp [h1]
  · refine Ev.neg h1 (hj _ ?_)
    simp [h1]
def pVersion (y : S169) : Bool := pAddr y.f0.f0 y.f0.f1 y.f0.f2 && (pIn y.f1 0 1000 && pRes y.f2.f0 y.f2.f1 y.f2.f2.f0 y.f2.f2.f1 y.f2.f2.f2)
def pIsSite (l : List S169) : Bool := l.all pVersion && decide ((l.length : Int) ≤ 12)
theorem iIsSiteLit_ev (y : S169) (hf : FitimplVersion y) : Ev (fun k => impl_IsSite_lit1.f k y.f0.f0 y.f0.f1 y.f0.f2 y.f1 y.f2.f0 y.f2.f1 y.f2.f2.f0 y.f2.f2.f1 y.f2.f2.f2) (!pVersion y) := by
  unfold impl_IsSite_lit1.f pVersion
  refine Ev.now_bind (iIsAddress_eq _ _ _) ?_
  cases p1 : pAddr y.f0.f0 y.f0.f1 y.f0.f2 with
  | false => exact Ev.neg (by simp) (Ev.now _)
  | true =>
    refine Ev.pos rfl ?_
    refine Ev.now_bind (InRange_eq _ _ _) ?_
    cases p2 : pIn y.f1 0 1000 with
    | false => exact Ev.neg (ne_true_of_eq_false p2) (Ev.now _)
    | true =>
      refine Ev.pos p2 ?_
      rw [Bool.true_and, Bool.true_and]
      exact Ev.no (iIsResource_ev _ _ _ _ _ hf)
theorem iIsSite_ev (l : List S169) (h : l.length ≤ 1048576) (hf : ∀ y ∈ l, FitimplVersion y) : Ev (fun k => impl_IsSite.f k l) (pIsSite l) := by
  unfold impl_IsSite.f pIsSite
  rw [Bool.and_comm]
  refine Ev.if_and fun _ => ?_
  rw [← any_not]
  refine Ev.no ?_
  unfold slices_ContainsFunc_141.f
  have hf : ∃ r : Int, Ev (fun k => slices_IndexFunc_141.l0 k l (l.length : Int) 0) r ∧ decide (r ≥ 0) = l.any (fun y => !pVersion y) := by
    refine ev_find (fun k i => slices_IndexFunc_141.l0 k l (l.length : Int) i) l z169 (fun y => !pVersion y) (fun k => by rw [slices_IndexFunc_141.l0, if_neg (by omega)]) ?_ ?_
    · intro i hi hp
      refine Ev.round (fun _ => by rw [slices_IndexFunc_141.l0]) ?_
      refine Ev.pos (by omega) ?_
      refine Ev.pos (by omega) ?_
      refine Ev.pos (by omega) ?_
      refine Ev.bind (iIsSiteLit_ev (rd_T169 l (i : Int)) (hf _ (getD_mem l i hi z169))) ?_
      refine Ev.pos hp ?_
      exact Ev.now _
    · intro i hi hp r hr
      have e1 : wrap64 ((i : Int) + 1) = ((i + 1 : Nat) : Int) := by rw [w64 (by omega) (by omega)]; omega
      refine Ev.round (fun _ => by rw [slices_IndexFunc_141.l0]) ?_
      refine Ev.pos (by omega) ?_
      refine Ev.pos (by omega) ?_
      refine Ev.pos (by omega) ?_
      refine Ev.bind (iIsSiteLit_ev (rd_T169 l (i : Int)) (hf _ (getD_mem l i hi z169))) ?_
      refine Ev.neg (ne_true_of_eq_false hp) ?_
      simp only [e1]
      exact hr
  obtain ⟨r, hr, hd⟩ := hf
  rw [← hd]
  exact Ev.bind hr (Ev.now _)
def pVisit (s : List S169) (t sd : Int) (i : List Int) : Bool := pIsSite s && (pIn t 0 1000 && (pIn sd 0 9999 && (decide ((i.length : Int) ≤ 8) && i.all (pIn · 0 999))))
theorem iIsVisit_ev (s : List S169) (t sd : Int) (i : List Int) (h : s.length ≤ 1048576) (hf : ∀ y ∈ s, FitimplVersion y) (hi : i.length ≤ 1048576) : Ev (fun k => impl_IsVisit.f k s t sd i) (pVisit s t sd i) := by
  unfold impl_IsVisit.f pVisit
  exact Ev.and (iIsSite_ev s h hf) fun _ => Ev.now_and (InRange_eq _ _ _) fun _ => Ev.now_and (InRange_eq _ _ _) fun _ => Ev.if_and fun _ => Ev.id (allIn_ev i 0 999 hi)
/-- A resource, as the printed functions hand it on. -/
abbrev Rsc := Int × List Int × Int × Int × Int
def pHere (a p q t : Int) (y : S169) : Bool := (y.f0.f0 == a && (y.f0.f1 == p && (y.f0.f2 == q))) && decide (y.f1 ≤ t)
def ansStep (a p q t : Int) (r : Rsc) (y : S169) : Rsc := if pHere a p q t y = true then (y.f2.f0, y.f2.f1, y.f2.f2.f0, y.f2.f2.f1, y.f2.f2.f2) else r
def pAnswer (l : List S169) (a p q t : Int) : Rsc := l.foldl (ansStep a p q t) (4, [], 0, 0, 0)
theorem pAnswer_fit (l : List S169) (a p q t : Int) (hf : ∀ y ∈ l, FitimplVersion y) : (pAnswer l a p q t).2.1.length ≤ 1048576 := by
  have key : ∀ (l : List S169) (r : Rsc), (∀ y ∈ l, FitimplVersion y) → r.2.1.length ≤ 1048576 → (l.foldl (ansStep a p q t) r).2.1.length ≤ 1048576 := by
    intro l
    induction l with
    | nil => intro r _ h; exact h
    | cons y l ih =>
      intro r hf h
      rw [List.foldl_cons]
      refine ih _ (fun z hz => hf z (List.mem_cons_of_mem _ hz)) ?_
      unfold ansStep
      split
      · exact hf y (by simp)
      · exact h
  exact key l _ hf (by simp)
theorem copyResource_eq (k : Int) (b : List Int) (h p q : Int) (hb : b.length ≤ 1048576) : impl_copyResource.f k b h p q = some (k, b, h, p, q) := by
  simp only [impl_copyResource.f, slices_Clone_int_int.f, Option.bind_some, List.nil_append, List.length_nil]
  rw [if_pos (by omega)]
  rfl
theorem iAnswer_ev (l : List S169) (a p q t : Int) (h : l.length ≤ 1048576) (hf : ∀ y ∈ l, FitimplVersion y) : Ev (fun k => impl_AnswerAt.f k l a p q t) (pAnswer l a p q t) := by
  unfold impl_AnswerAt.f pAnswer
  have key : ∀ i : Nat, i ≤ l.length → Ev (fun k => impl_AnswerAt.l0 k l t ((i : Int) - 1) a p q) ((l.take i).foldl (ansStep a p q t) (4, [], 0, 0, 0)) := by
    intro i
    induction i with
    | zero =>
      intro _
      refine Ev.round (fun _ => by rw [impl_AnswerAt.l0]) ?_
      exact Ev.neg (by omega) (Ev.now _)
    | succ i ih =>
      intro hi
      have h0 := ih (by omega)
      have e0 : ((i + 1 : Nat) : Int) - 1 = (i : Int) := by omega
      have e1 : wrap64 ((i : Int) - 1) = (i : Int) - 1 := w64 (by omega) (by omega)
      have hfy : FitimplVersion (rd_T169 l (i : Int)) := hf _ (getD_mem l i (by omega) z169)
      have e2 : (l.take (i + 1)).foldl (ansStep a p q t) (4, [], 0, 0, 0) = ansStep a p q t ((l.take i).foldl (ansStep a p q t) (4, [], 0, 0, 0)) (rd_T169 l (i : Int)) := by
        rw [List.take_succ_eq_append_getElem (by omega), List.foldl_append]
        have e3 : rd_T169 l (i : Int) = l[i]'(by omega) := getD_in l i (by omega) z169
        rw [e3]
        rfl
      rw [e2, e0]
      generalize (l.take i).foldl (ansStep a p q t) (4, [], 0, 0, 0) = x at h0
      refine Ev.round (fun _ => by rw [impl_AnswerAt.l0]) ?_
      refine Ev.pos (by omega) ?_
      refine Ev.pos (by omega) ?_
      refine Ev.pos (by omega) ?_
      generalize hy : rd_T169 l (i : Int) = y at hfy
      simp only [e1]
      unfold ansStep pHere
      cases c1 : (y.f0.f0 == a && (y.f0.f1 == p && (y.f0.f2 == q))) with
      | false => exact Ev.neg (by simp) h0
      | true =>
        refine Ev.pos rfl ?_
        by_cases c2 : y.f1 ≤ t
        · rw [decide_eq_true c2]
          exact Ev.pos c2 (Ev.now_bind (copyResource_eq _ _ _ _ _ hfy) (Ev.now _))
        · rw [decide_eq_false c2]
          exact Ev.neg c2 h0
  have h1 := key l.length (by omega)
  rw [List.take_length] at h1
  rw [w64 (by omega) (by omega)]
  exact h1
theorem ev_any {α : Type} (F : Nat → Int → Option Bool) (l : List α) (d : α) (p : α → Bool)
    (hend : ∀ k, F (k + 1) (l.length : Int) = some false)
    (hyes : ∀ i : Nat, i < l.length → p (l.getD i d) = true → Ev (fun k => F k (i : Int)) true)
    (hno : ∀ i : Nat, i < l.length → p (l.getD i d) = false → ∀ r, Ev (fun k => F k ((i + 1 : Nat) : Int)) r → Ev (fun k => F k (i : Int)) r) :
    Ev (fun k => F k 0) (l.any p) := by
  have h := ev_down (fun k i => F k (i : Int)) l.length (fun i => (l.drop i).any p) (Ev.round hend (Ev.const fun _ => by simp))
    (fun i hi h => by
      rw [drop_cons l i hi d, List.any_cons]
      cases hp : p (l.getD i d) with
      | true => simpa using hyes i hi hp
      | false => simpa using hno i hi hp _ h)
  simpa using h
abbrev Trail := Int × List Int × Int × Int × Int × List S26
def pHasA (c : List S26) (a p q : Int) : Bool := c.any fun y => y.f0 == a && (y.f1 == p && (y.f2 == q))
def pTrail (l : List S169) (t : Int) : Nat → List S26 → Rsc → Trail
  | 0, c, r => (r.1, r.2.1, r.2.2.1, r.2.2.2.1, r.2.2.2.2, c)
  | n + 1, c, r => if r.1 = 3 ∧ pHasA c r.2.2.1 r.2.2.2.1 r.2.2.2.2 = false then pTrail l t n (c ++ [⟨r.2.2.1, r.2.2.2.1, r.2.2.2.2⟩]) (pAnswer l r.2.2.1 r.2.2.2.1 r.2.2.2.2 t) else (r.1, r.2.1, r.2.2.1, r.2.2.2.1, r.2.2.2.2, c)
def pFollow (l : List S169) (a p q t : Int) : Trail := pTrail l t 4 [⟨a, p, q⟩] (pAnswer l a p q t)
theorem pTrail_fit (l : List S169) (t : Int) (hf : ∀ y ∈ l, FitimplVersion y) : ∀ (n : Nat) (c : List S26) (r : Rsc), r.2.1.length ≤ 1048576 → (pTrail l t n c r).2.1.length ≤ 1048576 ∧ (pTrail l t n c r).2.2.2.2.2.length ≤ c.length + n := by
  intro n
  induction n with
  | zero => intro c r h; exact ⟨h, Nat.le_refl _⟩
  | succ n ih =>
    intro c r h
    unfold pTrail
    split
    · have := ih (c ++ [⟨r.2.2.1, r.2.2.2.1, r.2.2.2.2⟩]) _ (pAnswer_fit l r.2.2.1 r.2.2.2.1 r.2.2.2.2 t hf)
      refine ⟨this.1, ?_⟩
      have h2 := this.2
      rw [List.length_append, List.length_singleton] at h2
      omega
    · exact ⟨h, Nat.le_add_right _ _⟩
theorem pFollow_fit (l : List S169) (a p q t : Int) (hf : ∀ y ∈ l, FitimplVersion y) : (pFollow l a p q t).2.1.length ≤ 1048576 := (pTrail_fit l t hf 4 _ _ (pAnswer_fit l a p q t hf)).1
theorem iHas_ev (c : List S26) (a p q : Int) (h : c.length ≤ 1048576) : Ev (fun k => impl_Address_139.f k c a p q) (pHasA c a p q) := by
  unfold impl_Address_139.f pHasA
  have hx : ∃ r : Int, Ev (fun k => impl_Address_160.f k c a p q) r ∧ decide (r ≥ 0) = c.any fun y => y.f0 == a && (y.f1 == p && (y.f2 == q)) := by
    unfold impl_Address_160.f
    refine ev_find (fun k i => impl_Address_160.l0 k c (c.length : Int) i a p q) c z26 (fun y => y.f0 == a && (y.f1 == p && (y.f2 == q))) (fun k => by rw [impl_Address_160.l0, if_neg (by omega)]) ?_ ?_
    · intro i hi hp
      have hp' : (a == (rd_T26 c (i : Int)).f0 && (p == (rd_T26 c (i : Int)).f1 && (q == (rd_T26 c (i : Int)).f2))) = true := by
        rw [Bool.beq_comm (a := a), Bool.beq_comm (a := p), Bool.beq_comm (a := q)]
        exact hp
      refine Ev.round (fun _ => by rw [impl_Address_160.l0]) ?_
      exact Ev.pos (by omega) (Ev.pos (by omega) (Ev.pos (by omega) (Ev.pos hp' (Ev.now _))))
    · intro i hi hp r hr
      have e1 : wrap64 ((i : Int) + 1) = ((i + 1 : Nat) : Int) := by rw [w64 (by omega) (by omega)]; omega
      have hp' : (a == (rd_T26 c (i : Int)).f0 && (p == (rd_T26 c (i : Int)).f1 && (q == (rd_T26 c (i : Int)).f2))) = false := by
        rw [Bool.beq_comm (a := a), Bool.beq_comm (a := p), Bool.beq_comm (a := q)]
        exact hp
      refine Ev.round (fun _ => by rw [impl_Address_160.l0]) ?_
      refine Ev.pos (by omega) ?_
      refine Ev.pos (by omega) ?_
      refine Ev.pos (by omega) ?_
      refine Ev.neg (ne_true_of_eq_false hp') ?_
      simp only [e1]
      exact hr
  obtain ⟨r, hr, hd⟩ := hx
  rw [← hd]
  exact Ev.bind hr (Ev.now _)
theorem iTrail_ev (l : List S169) (t : Int) (h : l.length ≤ 1048576) (hf : ∀ y ∈ l, FitimplVersion y) : ∀ (n : Nat) (c : List S26) (r : Rsc), c.length + n = 5 → Ev (fun k => impl_FollowAt.l0 k l t c r.1 r.2.1 r.2.2.1 r.2.2.2.1 r.2.2.2.2) (pTrail l t n c r) := by
  intro n
  induction n with
  | zero =>
    intro c r hn
    refine Ev.round (fun _ => by rw [impl_FollowAt.l0]) ?_
    by_cases c1 : r.1 = 3
    · exact Ev.pos c1 (Ev.neg (by omega) (Ev.now _))
    · exact Ev.neg c1 (Ev.now _)
  | succ n ih =>
    intro c r hn
    unfold pTrail
    refine Ev.round (fun _ => by rw [impl_FollowAt.l0]) ?_
    by_cases c1 : r.1 = 3
    · refine Ev.pos c1 ?_
      refine Ev.pos (by omega) ?_
      refine Ev.bind (iHas_ev c r.2.2.1 r.2.2.2.1 r.2.2.2.2 (by omega)) ?_
      cases c2 : pHasA c r.2.2.1 r.2.2.2.1 r.2.2.2.2 with
      | true =>
        rw [if_neg (by simp)]
        exact Ev.pos rfl (Ev.now _)
      | false =>
        rw [if_pos ⟨c1, rfl⟩]
        refine Ev.neg (by simp) ?_
        refine Ev.pos (by omega) ?_
        refine Ev.bind (iAnswer_ev l _ _ _ t h hf) ?_
        exact ih _ _ (by simp only [List.length_append, List.length_singleton]; omega)
    · rw [if_neg (fun z => c1 z.1)]
      exact Ev.neg c1 (Ev.now _)
theorem iFollow_ev (l : List S169) (a p q t : Int) (h : l.length ≤ 1048576) (hf : ∀ y ∈ l, FitimplVersion y) : Ev (fun k => impl_FollowAt.f k l a p q t) (pFollow l a p q t) := by
  unfold impl_FollowAt.f pFollow
  exact Ev.bind (iAnswer_ev l a p q t h hf) (iTrail_ev l t h hf 4 _ _ rfl)
def pMod (a b : Int) : Int := if 1 ≤ b ∧ b ≤ 1000000000000 then Int.tmod (wrap64 ((Int.tmod a b) + b)) b else 0
def hashStep (d y : Int) : Int := Int.tmod (wrap64 ((wrap64 ((wrap64 (d * 1000003)) + pMod y 2147483647)) + 13)) 2147483647
def pHash (l : List Int) : Int := l.foldl hashStep 11
theorem iMod_eq (a b : Int) : impl_Mod.f a b = some (pMod a b) := by
  unfold impl_Mod.f pMod
  rw [InRange_eq, Option.bind_some]
  by_cases h : 1 ≤ b ∧ b ≤ 1000000000000
  · rw [if_pos h, if_pos (by simp [h.1, h.2]), if_neg (by omega)]
  · rw [if_neg h, if_neg]
    intro c
    simp only [Bool.and_eq_true, decide_eq_true_eq] at c
    exact h c
theorem iHash_ev (l : List Int) (h : l.length ≤ 1048576) : Ev (fun k => impl_Hash.f k l) (pHash l) := by
  unfold impl_Hash.f pHash
  refine ev_foldl (fun k x i => impl_Hash.l0 k x l (l.length : Int) i) l 0 hashStep (fun x => x) (fun _ _ => True) 11 trivial ?_ ?_
  · intro x _
    refine Ev.round (fun _ => by rw [impl_Hash.l0]) ?_
    exact Ev.neg (by omega) (Ev.now _)
  · intro i x hi _
    have e1 : wrap64 ((i : Int) + 1) = ((i + 1 : Nat) : Int) := by rw [w64 (by omega) (by omega)]; omega
    refine ⟨trivial, fun r hr => ?_⟩
    refine Ev.round (fun _ => by rw [impl_Hash.l0]) ?_
    refine Ev.pos (by omega) ?_
    refine Ev.pos (by omega) ?_
    refine Ev.pos (by omega) ?_
    simp only [e1, rd_nat]
    exact Ev.now_bind (iMod_eq _ _) hr
theorem hasBody_eq (k : Int) : impl_hasBody.f k = some (decide (k = 1 ∨ k = 2)) := by
  unfold impl_hasBody.f
  by_cases h : k = 1
  · simp [h]
  · by_cases h2 : k = 2
    · simp [h2]
    · simp [h, h2]
def pSum (b : List Int) : Int := b.foldl (fun x y => x + y) 0
def pVal (k : Int) (b : List Int) (h p q : Int) : Int :=
  if pRes k b h p q = true ∧ (k = 1 ∨ k = 2) then (if pSum b % 1000 < 999 then pSum b % 1000 + 1 else 999) else 0
theorem fold_mod (b : List Int) : ∀ x : Int, b.foldl (fun x y => (x + y) % 1000) (x % 1000) = (b.foldl (fun x y => x + y) x) % 1000 := by
  induction b with
  | nil => intro x; rfl
  | cons y b ih =>
    intro x
    rw [List.foldl_cons, List.foldl_cons, ← ih (x + y)]
    congr 1
    omega
theorem pRes_body {k : Int} {b : List Int} {h p q : Int} (hr : pRes k b h p q = true) (hk : k = 1 ∨ k = 2) : b.length ≤ 6 ∧ ∀ y ∈ b, 0 ≤ y ∧ y ≤ 255 := by
  unfold pRes at hr
  rw [if_pos hk] at hr
  simp only [Bool.and_eq_true, decide_eq_true_eq, List.all_eq_true] at hr
  exact ⟨by omega, fun y hy => hr.2.1 y hy⟩
theorem iValue_ev (k : Int) (b : List Int) (h p q : Int) (hb : b.length ≤ 1048576) : Ev (fun n => impl_ValueOfResource.f n k b h p q) (pVal k b h p q) := by
  have hj1 : Ev (fun n => impl_ValueOfResource.j0 n true k b h p q) 0 := by
    refine Ev.round (fun _ => by rw [impl_ValueOfResource.j0]) ?_
    refine Ev.pos rfl ?_
    exact Ev.now _
  unfold impl_ValueOfResource.f pVal
  refine Ev.bind (iIsResource_ev k b h p q hb) ?_
  cases hr : pRes k b h p q with
  | false =>
    refine Ev.neg (by simp) ?_
    exact Ev.cast hj1 (by simp)
  | true =>
    refine Ev.pos rfl ?_
    refine Ev.now_bind (hasBody_eq k) ?_
    by_cases hk : k = 1 ∨ k = 2
    · rw [if_pos ⟨rfl, hk⟩, decide_eq_true hk]
      obtain ⟨hl, hy⟩ := pRes_body hr hk
      refine Ev.round (fun _ => by rw [impl_ValueOfResource.j0]) ?_
      refine Ev.neg (by simp) ?_
      refine ev_foldl (fun n x i => impl_ValueOfResource.l0 n x b (b.length : Int) i) b 0 (fun x y => x + y) (fun x => if x % 1000 < 999 then x % 1000 + 1 else 999) (fun i x => 0 ≤ x ∧ x ≤ 255 * (i : Int)) 0 ⟨by omega, by omega⟩ ?_ ?_
      · intro x hx
        have e2 : Int.tmod x 1000 = x % 1000 := Int.tmod_eq_emod_of_nonneg (by omega)
        refine Ev.round (fun _ => by rw [impl_ValueOfResource.l0]) ?_
        refine Ev.neg (by omega) ?_
        simp only [e2]
        by_cases c : x % 1000 < 999
        · refine Ev.rpos c ?_
          refine Ev.pos c ?_
          rw [w64 (by omega) (by omega)]
          exact Ev.now _
        · refine Ev.rneg c ?_
          refine Ev.neg c ?_
          exact Ev.cast (Ev.now _) (by omega)
      · intro i x hi hx
        have e1 : wrap64 ((i : Int) + 1) = ((i + 1 : Nat) : Int) := by rw [w64 (by omega) (by omega)]; omega
        have hv := hy _ (getD_mem b i hi 0)
        refine ⟨⟨by omega, by omega⟩, fun r hr2 => ?_⟩
        refine Ev.round (fun _ => by rw [impl_ValueOfResource.l0]) ?_
        refine Ev.pos (by omega) ?_
        refine Ev.pos (by omega) ?_
        refine Ev.pos (by omega) ?_
        have e2 : wrap64 (x + rd b (i : Int)) = x + b.getD i 0 := by
          rw [rd_nat, w64 (by omega) (by omega)]
        simp only [e1, e2]
        exact hr2
    · rw [if_neg (fun c => hk c.2), decide_eq_false hk]
      exact hj1
def pLive (s : List S169) (tk sd : Int) (ins : List Int) (w0 w1 w2 w3 n : Int) : Int :=
  if pVisit s tk sd ins = true ∧ pIn n 0 100 = true then
    if w0 = 1 then pVal (pFollow s w1 w2 w3 (wrap64 (tk + n))).1 (pFollow s w1 w2 w3 (wrap64 (tk + n))).2.1 (pFollow s w1 w2 w3 (wrap64 (tk + n))).2.2.1 (pFollow s w1 w2 w3 (wrap64 (tk + n))).2.2.2.1 (pFollow s w1 w2 w3 (wrap64 (tk + n))).2.2.2.2.1
    else if w0 = 2 then mn 999 (wrap64 (tk + n))
    else if w0 = 3 then pMod (pHash [sd, n]) 1000
    else if w0 = 4 then (if (ins.length : Int) > 0 then rd ins (Int.tmod n (ins.length : Int)) else 0)
    else 0
  else 0
theorem iLive_ev (s : List S169) (tk sd : Int) (ins : List Int) (w0 w1 w2 w3 n : Int) (h : s.length ≤ 1048576) (hf : ∀ y ∈ s, FitimplVersion y) (hi : ins.length ≤ 1048576) : Ev (fun k => impl_LiveValue.f k s tk sd ins w0 w1 w2 w3 n) (pLive s tk sd ins w0 w1 w2 w3 n) := by
  have hno : ¬ (pVisit s tk sd ins = true ∧ pIn n 0 100 = true) → Ev (fun k => impl_LiveValue.j0 k n true s tk sd ins w0 w1 w2 w3) (pLive s tk sd ins w0 w1 w2 w3 n) := by
    intro c
    unfold pLive
    rw [if_neg c]
    refine Ev.round (fun _ => by rw [impl_LiveValue.j0]) ?_
    exact Ev.pos rfl (Ev.now _)
  unfold impl_LiveValue.f
  refine Ev.bind (iIsVisit_ev s tk sd ins h hf hi) ?_
  cases hv : pVisit s tk sd ins with
  | false =>
    refine Ev.neg (by simp) ?_
    exact hno (by simp [hv])
  | true =>
    refine Ev.pos rfl ?_
    refine Ev.now_bind (InRange_eq _ _ _) ?_
    cases hp : pIn n 0 100 with
    | false =>
      have hp2 : (decide (0 ≤ n) && decide (n ≤ 100)) = false := hp
      rw [hp2]
      exact hno (by simp [hp])
    | true =>
      have hp2 : (decide (0 ≤ n) && decide (n ≤ 100)) = true := hp
      rw [hp2]
      unfold pLive
      rw [if_pos ⟨hv, hp⟩]
      simp only [pIn, Bool.and_eq_true, decide_eq_true_eq] at hp
      refine Ev.round (fun _ => by rw [impl_LiveValue.j0]) ?_
      refine Ev.neg (by simp) ?_
      by_cases c1 : w0 = 1
      · rw [if_pos c1]
        exact Ev.pos c1 (Ev.bind (iFollow_ev s w1 w2 w3 (wrap64 (tk + n)) h hf) (Ev.id (iValue_ev _ _ _ _ _ (pFollow_fit s w1 w2 w3 (wrap64 (tk + n)) hf))))
      rw [if_neg c1]
      refine Ev.neg c1 ?_
      by_cases c2 : w0 = 2
      · rw [if_pos c2]
        exact Ev.pos c2 (Ev.now _)
      rw [if_neg c2]
      refine Ev.neg c2 ?_
      by_cases c3 : w0 = 3
      · rw [if_pos c3]
        exact Ev.pos c3 (Ev.bind (iHash_ev _ (by simp)) (Ev.now_bind (iMod_eq _ _) (Ev.now _)))
      rw [if_neg c3]
      refine Ev.neg c3 ?_
      by_cases c4 : w0 = 4
      · refine Ev.rpos c4 ?_
        refine Ev.pos c4 ?_
        by_cases c5 : (ins.length : Int) > 0
        · refine Ev.rpos c5 ?_
          have m0 : 0 ≤ Int.tmod n (ins.length : Int) := Int.tmod_nonneg _ hp.1
          have m1 : Int.tmod n (ins.length : Int) < (ins.length : Int) := Int.tmod_lt_of_pos _ c5
          exact Ev.pos c5 (Ev.neg (by omega) (Ev.pos m0 (Ev.pos m1 (Ev.now _))))
        · refine Ev.rneg c5 ?_
          exact Ev.neg c5 (Ev.now _)
      refine Ev.rneg c4 ?_
      exact Ev.neg c4 (Ev.now _)
theorem l1In_eq (a b c : Int) : spec_l1In.f a b c = some (decide (b ≤ a) && decide (a ≤ c)) := by
  unfold spec_l1In.f
  by_cases h : b ≤ a <;> simp [h]
theorem sIsAddress_eq (h p q : Int) : spec_IsAddress.f h p q = some (pAddr h p q) := by
  simp only [spec_IsAddress.f, l1In_eq, Option.bind_some, some_and]
theorem l5Bytes_ev (l : List Int) (h : l.length ≤ 1048576) : Ev (fun k => spec_l5Bytes.f k l) (l.all (pIn · 0 255)) := by
  unfold spec_l5Bytes.f
  refine Ev.cast (ev_all (fun k i => spec_l5Bytes.l0 k l i) l 0 (pIn · 0 255) true (fun k => by rw [spec_l5Bytes.l0, if_neg (by omega)]) ?_ ?_) (Bool.and_true _)
  · intro i hi hp r hr
    have e1 : wrap64 ((i : Int) + 1) = ((i + 1 : Nat) : Int) := by rw [w64 (by omega) (by omega)]; omega
    refine Ev.round (fun _ => by rw [spec_l5Bytes.l0]) ?_
    refine Ev.pos (by omega) ?_
    refine Ev.pos (by omega) ?_
    refine Ev.now_bind (l1In_eq _ _ _) ?_
    refine Ev.pos ?_ ?_
    · rw [rd_nat]; exact hp
    · simp only [e1]; exact hr
  · intro i hi hp
    refine Ev.round (fun _ => by rw [spec_l5Bytes.l0]) ?_
    refine Ev.pos (by omega) ?_
    refine Ev.pos (by omega) ?_
    refine Ev.now_bind (l1In_eq _ _ _) ?_
    refine Ev.neg ?_ (Ev.now _)
    rw [rd_nat]; exact ne_true_of_eq_false hp
theorem sIsResource_ev (k : Int) (b : List Int) (h p q : Int) (hb : b.length ≤ 1048576) : Ev (fun n => spec_IsResource.f n k b h p q) (pRes k b h p q) := by
  have hj : ∀ x : Bool, Ev (fun n => spec_IsResource.j0 n x k b h p q) (!x && (if k = 3 then pAddr h p q && ((b.length : Int) == 0) else (pZero h p q && (if k = 4 then ((b.length : Int) == 0) else true)))) := by
    intro x
    refine Ev.round (fun _ => by rw [spec_IsResource.j0]) ?_
    cases x with
    | true => exact Ev.pos rfl (Ev.now _)
    | false =>
      refine Ev.neg (by simp) ?_
      by_cases h3 : k = 3
      · refine Ev.pos h3 ?_
        simp only [h3, if_true, Bool.not_false, Bool.true_and]
        exact Ev.now_and (sIsAddress_eq _ _ _) fun _ => Ev.now _
      · refine Ev.neg h3 ?_
        simp only [h3, if_false, Bool.not_false, Bool.true_and]
        by_cases hz : pZero h p q = true
        · refine Ev.pos hz ?_
          by_cases h4 : k = 4
          · refine Ev.pos h4 ?_
            exact Ev.cast (Ev.now _) (by simp [h4, hz])
          · refine Ev.neg h4 ?_
            exact Ev.cast (Ev.now _) (by simp [h4, hz])
        · refine Ev.neg hz ?_
          exact Ev.cast (Ev.now _) (by simp [hz])
  unfold spec_IsResource.f
  refine Ev.now_bind (l1In_eq _ _ _) ?_
  by_cases hk : 1 ≤ k ∧ k ≤ 4
  · refine Ev.pos (by simp [hk]) ?_
    refine Ev.bind (l5Bytes_ev b hb) ?_
    have hcases : k = 1 ∨ k = 2 ∨ k = 3 ∨ k = 4 := by omega
    cases hall : b.all (pIn · 0 255) with
    | true =>
      refine Ev.pos rfl ?_
      refine Ev.cast (hj _) ?_
      unfold pRes
      have h6 : decide ((b.length : Int) > 6) = !decide ((b.length : Int) ≤ 6) := by
        by_cases c : (b.length : Int) ≤ 6
        · have : ¬ (b.length : Int) > 6 := by omega
          simp [c, this]
        · have : (b.length : Int) > 6 := by omega
          simp [c, this]
      rw [h6]
      rcases hcases with rfl | rfl | rfl | rfl
      · simp [hall]
      · simp [hall]
      · by_cases c : b.length = 0
        · have hn : b = [] := List.eq_nil_of_length_eq_zero c
          subst hn
          simp
        · simp [c]
      · by_cases c : b.length = 0
        · have hn : b = [] := List.eq_nil_of_length_eq_zero c
          subst hn
          simp
        · simp [c]
    | false =>
      refine Ev.neg (by simp) ?_
      refine Ev.cast (hj true) ?_
      unfold pRes
      have hne : b ≠ [] := by
        rintro rfl
        simp at hall
      have h0 : ¬ b.length = 0 := fun e => hne (List.eq_nil_of_length_eq_zero e)
      rcases hcases with rfl | rfl | rfl | rfl
      · simp [hall]
      · simp [hall]
      · simp [h0]
      · simp [h0]
  · refine Ev.neg (by simp; omega) ?_
    refine Ev.cast (hj true) ?_
    have hp : pRes k b h p q = false := by
      unfold pRes
      rw [if_neg (by omega), if_neg (by omega), if_neg (by omega)]
    rw [hp]
    simp
theorem sIsSite_ev (l : List S169) (h : l.length ≤ 1048576) (hf : ∀ y ∈ l, FitimplVersion y) : Ev (fun k => spec_IsSite.f k l) (pIsSite l) := by
  unfold spec_IsSite.f pIsSite
  refine ev_all (fun k i => spec_IsSite.l0 k l i) l z169 pVersion _ (fun k => by rw [spec_IsSite.l0, if_neg (by omega)]) ?_ ?_
  · intro i hi hp r hr
    have e1 : wrap64 ((i : Int) + 1) = ((i + 1 : Nat) : Int) := by rw [w64 (by omega) (by omega)]; omega
    have hp' : pVersion (rd_T169 l (i : Int)) = true := hp
    have hfy : FitimplVersion (rd_T169 l (i : Int)) := hf _ (getD_mem l i hi z169)
    generalize hy : rd_T169 l (i : Int) = y at hp' hfy
    unfold pVersion at hp'
    simp only [Bool.and_eq_true] at hp'
    obtain ⟨p1, p2, p3⟩ := hp'
    refine Ev.round (fun _ => by rw [spec_IsSite.l0]) ?_
    refine Ev.pos (by omega) ?_
    refine Ev.pos (by omega) ?_
    simp only [hy, e1]
    refine Ev.now_bind (sIsAddress_eq _ _ _) ?_
    refine Ev.pos (by simp [p1]) ?_
    refine Ev.now_bind (l1In_eq _ _ _) ?_
    refine Ev.pos (by simp [p2]) ?_
    refine Ev.bind (sIsResource_ev _ _ _ _ _ hfy) ?_
    exact Ev.pos p3 hr
  · intro i hi hp
    have hp' : pVersion (rd_T169 l (i : Int)) = false := hp
    have hfy : FitimplVersion (rd_T169 l (i : Int)) := hf _ (getD_mem l i hi z169)
    generalize hy : rd_T169 l (i : Int) = y at hp' hfy
    unfold pVersion at hp'
    refine Ev.round (fun _ => by rw [spec_IsSite.l0]) ?_
    refine Ev.pos (by omega) ?_
    refine Ev.pos (by omega) ?_
    simp only [hy]
    refine Ev.now_bind (sIsAddress_eq _ _ _) ?_
    cases p1 : pAddr y.f0.f0 y.f0.f1 y.f0.f2 with
    | false => exact Ev.neg (by simp) (Ev.now _)
    | true =>
      rw [p1, Bool.true_and] at hp'
      refine Ev.pos rfl ?_
      refine Ev.now_bind (l1In_eq _ _ _) ?_
      cases p2 : pIn y.f1 0 1000 with
      | false => exact Ev.neg (ne_true_of_eq_false p2) (Ev.now _)
      | true =>
        rw [p2, Bool.true_and] at hp'
        refine Ev.pos p2 ?_
        refine Ev.bind (sIsResource_ev _ _ _ _ _ hfy) ?_
        refine Ev.neg (ne_true_of_eq_false hp') ?_
        exact Ev.now _
theorem l11All_ev (l : List Int) (n : Int) (h : l.length ≤ 1048576) : Ev (fun k => spec_l11All.f k l n) (l.all (pIn · 0 999) && ((l.length : Int) == n)) := by
  unfold spec_l11All.f
  refine ev_all (fun k i => spec_l11All.l0 k l n i) l 0 (pIn · 0 999) _ (fun k => by rw [spec_l11All.l0, if_neg (by omega)]) ?_ ?_
  · intro i hi hp r hr
    have e1 : wrap64 ((i : Int) + 1) = ((i + 1 : Nat) : Int) := by rw [w64 (by omega) (by omega)]; omega
    refine Ev.round (fun _ => by rw [spec_l11All.l0]) ?_
    refine Ev.pos (by omega) ?_
    refine Ev.pos (by omega) ?_
    refine Ev.now_bind (l1In_eq _ _ _) ?_
    refine Ev.pos ?_ ?_
    · rw [rd_nat]; exact hp
    · simp only [e1]; exact hr
  · intro i hi hp
    refine Ev.round (fun _ => by rw [spec_l11All.l0]) ?_
    refine Ev.pos (by omega) ?_
    refine Ev.pos (by omega) ?_
    refine Ev.now_bind (l1In_eq _ _ _) ?_
    refine Ev.neg ?_ (Ev.now _)
    rw [rd_nat]; exact ne_true_of_eq_false hp
theorem sIsVisit_ev (s : List S169) (t sd : Int) (i : List Int) (h : s.length ≤ 1048576) (hf : ∀ y ∈ s, FitimplVersion y) (hi : i.length ≤ 1048576) : Ev (fun k => spec_IsVisit.f k s t sd i) (pVisit s t sd i) := by
  unfold spec_IsVisit.f pVisit
  refine Ev.and (sIsSite_ev s h hf) fun _ => Ev.now_and (l1In_eq _ _ _) fun _ => Ev.now_and (l1In_eq _ _ _) fun _ => Ev.if_and fun _ => ?_
  exact Ev.cast (Ev.id (l11All_ev i _ hi)) (by simp)
def pFrom (s : List S169) (tk sd : Int) (ins : List Int) (w0 w1 w2 w3 n : Int) : List S26 :=
  if w0 = 1 ∧ pVisit s tk sd ins = true ∧ pIn n 0 100 = true then (pFollow s w1 w2 w3 (wrap64 (tk + n))).2.2.2.2.2 else []
theorem pFrom_length (s : List S169) (tk sd : Int) (ins : List Int) (w0 w1 w2 w3 n : Int) (hf : ∀ y ∈ s, FitimplVersion y) : (pFrom s tk sd ins w0 w1 w2 w3 n).length ≤ 1048576 := by
  unfold pFrom
  split
  · have := (pTrail_fit s (wrap64 (tk + n)) hf 4 [⟨w1, w2, w3⟩] _ (pAnswer_fit s w1 w2 w3 (wrap64 (tk + n)) hf)).2
    unfold pFollow
    refine Nat.le_trans this ?_
    simp
  · simp
theorem iFrom_ev (s : List S169) (tk sd : Int) (ins : List Int) (w0 w1 w2 w3 n : Int) (h : s.length ≤ 1048576) (hf : ∀ y ∈ s, FitimplVersion y) (hi : ins.length ≤ 1048576) : Ev (fun k => impl_AddressesFrom.f k s tk sd ins w0 w1 w2 w3 n) (pFrom s tk sd ins w0 w1 w2 w3 n) := by
  have hno : ¬ (w0 = 1 ∧ pVisit s tk sd ins = true ∧ pIn n 0 100 = true) → Ev (fun k => impl_AddressesFrom.j0 k n true s tk sd ins w0 w1 w2 w3) (pFrom s tk sd ins w0 w1 w2 w3 n) := by
    intro c
    unfold pFrom
    rw [if_neg c]
    refine Ev.round (fun _ => by rw [impl_AddressesFrom.j0]) ?_
    exact Ev.pos rfl (Ev.now _)
  unfold impl_AddressesFrom.f
  refine Ev.bind (iIsVisit_ev s tk sd ins h hf hi) ?_
  by_cases c2 : pVisit s tk sd ins = true
  · refine Ev.pos c2 ?_
    refine Ev.now_bind (InRange_eq _ _ _) ?_
    by_cases c3 : pIn n 0 100 = true
    · refine Ev.pos c3 ?_
      by_cases c1 : w0 = 1
      · have hb : (w0 != 1) = false := bne_eq_false_iff_eq.2 c1
        rw [hb]
        have hlen := pFrom_length s tk sd ins w0 w1 w2 w3 n hf
        unfold pFrom at hlen ⊢
        rw [if_pos ⟨c1, c2, c3⟩] at hlen ⊢
        refine Ev.round (fun _ => by rw [impl_AddressesFrom.j0]) ?_
        refine Ev.neg (by simp) ?_
        refine Ev.bind (iFollow_ev s w1 w2 w3 (wrap64 (tk + n)) h hf) ?_
        have ec : impl_Address_93.f (pFollow s w1 w2 w3 (wrap64 (tk + n))).2.2.2.2.2 = some (pFollow s w1 w2 w3 (wrap64 (tk + n))).2.2.2.2.2 := by
          unfold impl_Address_93.f
          rw [Option.bind_some, List.nil_append, if_pos (by simp only [List.length_nil]; omega)]
        exact Ev.now_bind ec (Ev.now _)
      · have hb : (w0 != 1) = true := bne_iff_ne.2 c1
        rw [hb]
        exact hno (fun z => c1 z.1)
    · refine Ev.neg c3 ?_
      exact hno (fun z => c3 z.2.2)
  · refine Ev.neg c2 ?_
    exact hno (fun z => c2 z.2.1)
def ansOf (s : List S169) (u : Int) (y : S26) : Rsc := pAnswer s y.f0 y.f1 y.f2 u
def Links (s : List S169) (u : Int) (c : List S26) : Prop := ∀ i, i + 1 < c.length → (ansOf s u (c.getD i z26)).1 = 3 ∧ (⟨(ansOf s u (c.getD i z26)).2.2.1, (ansOf s u (c.getD i z26)).2.2.2.1, (ansOf s u (c.getD i z26)).2.2.2.2⟩ : S26) = c.getD (i + 1) z26
def Apart (c : List S26) : Prop := ∀ i k, k < i → i < c.length → c.getD i z26 ≠ c.getD k z26
theorem getD_app {α : Type} (c e : List α) (i : Nat) (d : α) (h : i < c.length) : (c ++ e).getD i d = c.getD i d := by
  simp [List.getD_eq_getElem?_getD, List.getElem?_append, h]
theorem getD_last {α : Type} (c : List α) (z d : α) : (c ++ [z]).getD c.length d = z := by
  simp [List.getD_eq_getElem?_getD]
theorem trail_ok (s : List S169) (u : Int) (z0 : S26) : ∀ (n : Nat) (c : List S26) (r : Rsc), 0 < c.length → c.length + n = 5 → c.getD 0 z26 = z0 → r = ansOf s u (c.getD (c.length - 1) z26) → Links s u c → Apart c →
    ∃ C : List S26, ∃ f : Rsc, pTrail s u n c r = (f.1, f.2.1, f.2.2.1, f.2.2.2.1, f.2.2.2.2, C) ∧ 0 < C.length ∧ C.length ≤ 5 ∧ C.getD 0 z26 = z0 ∧ f = ansOf s u (C.getD (C.length - 1) z26) ∧ Links s u C ∧ Apart C := by
  intro n
  induction n with
  | zero =>
    intro c r h0 h5 hz hr hl ha
    exact ⟨c, r, rfl, h0, by omega, hz, hr, hl, ha⟩
  | succ n ih =>
    intro c r h0 h5 hz hr hl ha
    unfold pTrail
    by_cases hc : r.1 = 3 ∧ pHasA c r.2.2.1 r.2.2.2.1 r.2.2.2.2 = false
    · rw [if_pos hc]
      have hlen : (c ++ [(⟨r.2.2.1, r.2.2.2.1, r.2.2.2.2⟩ : S26)]).length = c.length + 1 := by rw [List.length_append, List.length_singleton]
      refine ih _ _ (by omega) (by omega) ?_ ?_ ?_ ?_
      · rw [getD_app c _ 0 _ h0]
        exact hz
      · rw [hlen, Nat.add_sub_cancel, getD_last]
        rfl
      · intro i hi
        rw [hlen] at hi
        rw [getD_app c _ i _ (by omega)]
        by_cases he : i + 1 < c.length
        · rw [getD_app c _ (i + 1) _ he]
          exact hl i he
        · have e : i + 1 = c.length := by omega
          have e2 : i = c.length - 1 := by omega
          rw [e, getD_last, e2, ← hr]
          exact ⟨hc.1, rfl⟩
      · intro i k hk hi
        rw [hlen] at hi
        rw [getD_app c _ k _ (by omega)]
        by_cases he : i < c.length
        · rw [getD_app c _ i _ he]
          exact ha i k hk he
        · have e : i = c.length := by omega
          rw [e, getD_last]
          have hh := hc.2
          unfold pHasA at hh
          rw [List.any_eq_false] at hh
          have hm := hh _ (getD_mem c k (by omega) z26)
          intro hq
          apply hm
          rw [← hq]
          simp
    · rw [if_neg hc]
      exact ⟨c, r, rfl, h0, by omega, hz, hr, hl, ha⟩
theorem follow_ok (s : List S169) (a p q u : Int) : ∃ C : List S26, ∃ f : Rsc, pFollow s a p q u = (f.1, f.2.1, f.2.2.1, f.2.2.2.1, f.2.2.2.2, C) ∧ 0 < C.length ∧ C.length ≤ 5 ∧ C.getD 0 z26 = ⟨a, p, q⟩ ∧ f = ansOf s u (C.getD (C.length - 1) z26) ∧ Links s u C ∧ Apart C := by
  unfold pFollow
  refine trail_ok s u ⟨a, p, q⟩ 4 [⟨a, p, q⟩] _ (by simp) rfl rfl rfl ?_ ?_
  · intro i hi
    simp at hi
  · intro i k hk hi
    simp at hi
    omega
theorem drawIsResource_any (b : List Int) (hb : b.length ≤ 1048576) : Any (fun k => spec_DrawIsResource.f k b) (fun x => x.2.1.length ≤ 7) := by
  unfold spec_DrawIsResource.f
  refine Any.bind (aNew b hb) ?_
  intro x hx
  rw [hx.1]
  refine Any.bind (a5Any b _ _ hx.2) ?_
  intro y hy
  exact Any.now hy.1
theorem drawValueOfResource_any (b : List Int) (hb : b.length ≤ 1048576) : Any (fun k => spec_DrawValueOfResource.f k b) (fun x => x.2.1.length ≤ 7) := by
  unfold spec_DrawValueOfResource.f
  refine Any.bind (drawIsResource_any b hb) ?_
  intro x hx
  exact Any.now hx
theorem rd_in {l : List Int} (h : ∀ y ∈ l, 0 ≤ y ∧ y ≤ 999) (i : Int) : 0 ≤ rd l i ∧ rd l i ≤ 999 := by
  unfold rd
  rw [List.getD_eq_getElem?_getD]
  cases e : l[i.toNat]? with
  | none => simp
  | some y => exact h y (List.mem_of_getElem? e)
theorem pValIn (k : Int) (b : List Int) (h p q : Int) : 0 ≤ pVal k b h p q ∧ pVal k b h p q ≤ 999 := by
  unfold pVal
  split
  · split
    · omega
    · omega
  · omega
theorem pVal_pos (k : Int) (b : List Int) (h p q : Int) : pVal k b h p q > 0 ↔ (pRes k b h p q = true ∧ k ≤ 2) := by
  have hk : pRes k b h p q = true → (k = 1 ∨ k = 2) ∨ k = 3 ∨ k = 4 := by
    intro hr
    unfold pRes at hr
    by_cases c : k = 1 ∨ k = 2
    · exact Or.inl c
    · rw [if_neg c] at hr
      by_cases c3 : k = 3
      · exact Or.inr (Or.inl c3)
      · rw [if_neg c3] at hr
        by_cases c4 : k = 4
        · exact Or.inr (Or.inr c4)
        · rw [if_neg c4] at hr
          exact absurd hr (by simp)
  unfold pVal
  by_cases c : pRes k b h p q = true ∧ (k = 1 ∨ k = 2)
  · rw [if_pos c]
    have hge : 0 ≤ pSum b % 1000 := Int.emod_nonneg _ (by omega)
    refine ⟨fun _ => ⟨c.1, by omega⟩, fun _ => ?_⟩
    split <;> omega
  · rw [if_neg c]
    refine ⟨fun h => absurd h (by omega), fun h => ?_⟩
    rcases hk h.1 with h2 | h2
    · exact absurd ⟨h.1, h2⟩ c
    · omega
theorem pLive_in (s : List S169) (tk sd : Int) (ins : List Int) (w0 w1 w2 w3 n : Int) : 0 ≤ pLive s tk sd ins w0 w1 w2 w3 n ∧ pLive s tk sd ins w0 w1 w2 w3 n ≤ 999 := by
  unfold pLive
  by_cases c : pVisit s tk sd ins = true ∧ pIn n 0 100 = true
  · rw [if_pos c]
    have hv := c.1
    have hn := c.2
    unfold pVisit at hv
    simp only [pIn, Bool.and_eq_true, decide_eq_true_eq, List.all_eq_true] at hv hn
    obtain ⟨_, ht, _, _, hi⟩ := hv
    by_cases c1 : w0 = 1
    · rw [if_pos c1]
      exact pValIn _ _ _ _ _
    rw [if_neg c1]
    by_cases c2 : w0 = 2
    · rw [if_pos c2, w64 (by omega) (by omega)]
      unfold mn
      split <;> omega
    rw [if_neg c2]
    by_cases c3 : w0 = 3
    · rw [if_pos c3]
      unfold pMod
      rw [if_pos (by omega)]
      generalize pHash [sd, n] = m
      have h1 : -1000 < Int.tmod m 1000 ∧ Int.tmod m 1000 < 1000 := by
        rcases Int.le_total 0 m with h | h
        · rw [Int.tmod_eq_emod_of_nonneg h]
          omega
        · obtain ⟨u, rfl⟩ : ∃ u : Int, m = -u := ⟨-m, by omega⟩
          rw [Int.neg_tmod, Int.tmod_eq_emod_of_nonneg (by omega : 0 ≤ u)]
          omega
      rw [w64 (by omega) (by omega), Int.tmod_eq_emod_of_nonneg (by omega)]
      omega
    rw [if_neg c3]
    by_cases c4 : w0 = 4
    · rw [if_pos c4]
      split
      · exact rd_in hi _
      · omega
    · rw [if_neg c4]
      omega
  · rw [if_neg c]
    omega
theorem pLive_none {s : List S169} {tk sd : Int} {ins : List Int} (h : pVisit s tk sd ins = false) (w0 w1 w2 w3 n : Int) : pLive s tk sd ins w0 w1 w2 w3 n = 0 := by
  unfold pLive
  rw [if_neg (by rw [h]; simp)]
theorem Ev.cast_fun {α : Type} {g f : Nat → Option α} {r : α} (h : Ev f r) (e : ∀ k, g k = f k) : Ev g r := Ev.congr e h
theorem FnVisits (l0 : List Int) (h0 : (l0.length ≤ maxLen ∧ ∀ e_ ∈ l0, (Lit.int .u8 e_).wf = true)) : ∃ k, laws_FnVisits.f k l0 = some true := by
  refine Ev.rounds ?_
  unfold laws_FnVisits.f laws_big.f
  refine Ev.now_bind rfl ?_
  by_cases hb : (l0.length : Int) > 1048576
  · exact Ev.pos (by simpa using hb) (Ev.now _)
  have hlen : l0.length ≤ 1048576 := by omega
  refine Ev.neg (by simpa using hb) ?_
  refine Any.then_ (drawLiveValue_any l0 hlen) ?_
  intro x hx
  obtain ⟨s, tk, sd, ins, w0, w1, w2, w3, n⟩ := x
  obtain ⟨h1, hf, h3⟩ := hx
  dsimp only at h1 hf h3 ⊢
  have hs : s.length ≤ 1048576 := by omega
  have hi : ins.length ≤ 1048576 := by omega
  have iV := iIsVisit_ev s tk sd ins hs hf hi
  have sV := sIsVisit_ev s tk sd ins hs hf hi
  have hin := pLive_in s tk sd ins w0 w1 w2 w3 n
  have hj1 : Ev (fun k => laws_FnVisits.j1 k l0 false) true := by
    refine Ev.round (fun _ => by rw [laws_FnVisits.j1]) ?_
    refine Ev.neg (by simp) ?_
    refine Any.then_ (drawValueOfResource_any l0 hlen) ?_
    intro r hr
    obtain ⟨k0, bd, a, p, q⟩ := r
    have hr' : bd.length ≤ 7 := hr
    dsimp only
    refine Ev.bind (iValue_ev k0 bd a p q (by omega)) ?_
    have g := pValIn k0 bd a p q
    have gp := pVal_pos k0 bd a p q
    refine Ev.pos g.1 ?_
    refine Ev.pos g.2 ?_
    refine Ev.bind (iIsResource_ev k0 bd a p q (by omega)) ?_
    by_cases c : pRes k0 bd a p q = true
    · refine Ev.pos c ?_
      refine Ev.cast (Ev.now _) ?_
      by_cases c2 : k0 ≤ 2
      · rw [decide_eq_true (gp.2 ⟨c, c2⟩), decide_eq_true c2]
        rfl
      · rw [decide_eq_false (fun h => c2 (gp.1 h).2), decide_eq_false c2]
        rfl
    · refine Ev.neg c ?_
      refine Ev.cast (Ev.now _) ?_
      rw [decide_eq_false (fun h => c (gp.1 h).1)]
      rfl
  have hj0 : Ev (fun k => laws_FnVisits.j0 k l0 n false s tk sd ins w0 w1 w2 w3) true := by
    have no : pFrom s tk sd ins w0 w1 w2 w3 n = [] → Ev (fun k => (if ((decide (((pFrom s tk sd ins w0 w1 w2 w3 n).length : Int) > 0)) != false) = true then (laws_FnVisits.j1 k l0 true) else (if ((pFrom s tk sd ins w0 w1 w2 w3 n).length : Int) > 0 then (if 0 < ((pFrom s tk sd ins w0 w1 w2 w3 n).length : Int) then (laws_FnVisits.j1 k l0 (!(((rd_T26 (pFrom s tk sd ins w0 w1 w2 w3 n) 0).f0) == w1) || (!(((rd_T26 (pFrom s tk sd ins w0 w1 w2 w3 n) 0).f1) == w2) || (!(((rd_T26 (pFrom s tk sd ins w0 w1 w2 w3 n) 0).f2) == w3))))) else (none)) else (laws_FnVisits.j1 k l0 false)))) true := by
      intro e
      rw [e]
      refine Ev.neg (by simp) ?_
      refine Ev.neg (by simp) ?_
      exact hj1
    refine Ev.round (fun _ => by rw [laws_FnVisits.j0]) ?_
    refine Ev.neg (by simp) ?_
    refine Ev.bind (iFrom_ev s tk sd ins w0 w1 w2 w3 n hs hf hi) ?_
    by_cases c1 : w0 = 1
    · refine Ev.pos c1 ?_
      refine Ev.bind iV ?_
      by_cases cv : pVisit s tk sd ins = true
      · refine Ev.pos cv ?_
        by_cases cn : n ≥ 0
        · refine Ev.pos cn ?_
          by_cases cm : n ≤ 100
          · have e : pFrom s tk sd ins w0 w1 w2 w3 n = (pFollow s w1 w2 w3 (wrap64 (tk + n))).2.2.2.2.2 := by
              unfold pFrom
              rw [if_pos ⟨c1, cv, by simp only [pIn, Bool.and_eq_true, decide_eq_true_eq]; omega⟩]
            obtain ⟨C, f, e2, g0, g5, gz, _⟩ := follow_ok s w1 w2 w3 (wrap64 (tk + n))
            rw [e, e2]
            dsimp only
            have gl : (C.length : Int) > 0 := by omega
            have ez : rd_T26 C 0 = ⟨w1, w2, w3⟩ := gz
            refine Ev.neg (by rw [decide_eq_true gl, decide_eq_true cm]; simp) ?_
            refine Ev.pos gl ?_
            refine Ev.pos gl ?_
            rw [ez]
            refine Ev.cast_fun hj1 (fun k => ?_)
            simp
          · have e : pFrom s tk sd ins w0 w1 w2 w3 n = [] := by
              unfold pFrom
              rw [if_neg (fun h => by have := h.2.2; simp only [pIn, Bool.and_eq_true, decide_eq_true_eq] at this; omega)]
            rw [e, decide_eq_false cm]
            refine Ev.neg (by simp) ?_
            refine Ev.neg (by simp) ?_
            exact hj1
        · refine Ev.neg cn ?_
          refine no ?_
          unfold pFrom
          rw [if_neg (fun h => by have := h.2.2; simp only [pIn, Bool.and_eq_true, decide_eq_true_eq] at this; omega)]
      · refine Ev.neg cv ?_
        refine no ?_
        unfold pFrom
        rw [if_neg (fun h => cv h.2.1)]
    · refine Ev.neg c1 ?_
      refine no ?_
      unfold pFrom
      rw [if_neg (fun h => c1 h.1)]
  refine Ev.bind (iLive_ev s tk sd ins w0 w1 w2 w3 n hs hf hi) ?_
  refine Ev.bind iV ?_
  refine Ev.bind sV ?_
  refine Ev.neg (by simp) ?_
  refine Ev.neg (by omega) ?_
  refine Ev.neg (by omega) ?_
  refine Ev.bind iV ?_
  cases hv : pVisit s tk sd ins with
  | true =>
    refine Ev.pos rfl ?_
    exact hj0
  | false =>
    refine Ev.neg (by simp) ?_
    rw [pLive_none hv]
    exact hj0
end Go.Proofs.Ytgcamebeonodeaa.Pure
