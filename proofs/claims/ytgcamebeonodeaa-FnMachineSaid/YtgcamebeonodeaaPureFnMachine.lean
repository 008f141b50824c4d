/- FnMachine: whatever bytes a script, a state and a value are drawn from, a step keeps a state valid, goes on by one to four, and depends on the value only where the step asks; where no step can be made the state stays. No condition. -/
import Derived.Test.YtgcamebeonodeaaStdFnMachine
namespace Go.Proofs.Ytgcamebeonodeaa.Pure
open Go.RowKit Go.Proofs.Ytgcamebeonodeaa.MFnMachine Go.Proofs.YtgcamebeonodeaaW.PrintWords Go.Proofs.YtgcamebeonodeaaW.PrintLast Go.Proofs.YtgcamebeonodeaaW.PrintMore Go.Proofs.Ytgcamebeonodeaa.Gen
set_option linter.unusedVariables false
set_option linter.unusedSimpArgs false


/-- A cursor that stands in its bytes or behind them. -/
def Cur (b : List Int) (i : Int) : Prop := b.length ≤ 1048576 ∧ 0 ≤ i ∧ i ≤ (b.length : Int)
theorem and255 (v : Int) : 0 ≤ Go.bits .and .i64 v 255 ∧ Go.bits .and .i64 v 255 ≤ 255 := by
  have hle : (BitVec.ofInt IntKind.i64.bits v &&& BitVec.ofInt IntKind.i64.bits 255).toNat ≤ 255 := by
    rw [BitVec.toNat_and]
    exact Nat.le_trans Nat.and_le_right (by decide)
  have e : Go.bits .and .i64 v 255 = (((BitVec.ofInt IntKind.i64.bits v &&& BitVec.ofInt IntKind.i64.bits 255).toNat : Nat) : Int) := by
    simp only [Go.bits]
    rw [IntKind.wrap_i64]
    omega
  rw [e]
  omega
/-- From some number of rounds on g answers something of which Q is true. -/
def Any {α : Type} (g : Nat → Option α) (Q : α → Prop) : Prop := ∃ r, Ev g r ∧ Q r
theorem Any.of {α : Type} {g : Nat → Option α} {Q : α → Prop} {r : α} (h : Ev g r) (q : Q r) : Any g Q := ⟨r, h, q⟩
theorem Any.now {α : Type} {Q : α → Prop} {r : α} (q : Q r) : Any (fun _ => some r) Q := ⟨r, Ev.now r, q⟩
theorem Any.mono {α : Type} {g : Nat → Option α} {P Q : α → Prop} (h : Any g P) (m : ∀ r, P r → Q r) : Any g Q := by
  obtain ⟨r, e, q⟩ := h
  exact ⟨r, e, m r q⟩
theorem Any.bind {α β : Type} {f : Nat → Option β} {g : Nat → β → Option α} {P : β → Prop} {Q : α → Prop} (h : Any f P) (k : ∀ x, P x → Any (fun n => g n x) Q) : Any (fun n => (f n).bind (g n)) Q := by
  obtain ⟨x, e, p⟩ := h
  obtain ⟨r, e2, q⟩ := k x p
  exact ⟨r, Ev.bind e e2, q⟩
theorem Any.ev {α β : Type} {f : Nat → Option β} {g : Nat → β → Option α} {v : β} {Q : α → Prop} (h : Ev f v) (k : Any (fun n => g n v) Q) : Any (fun n => (f n).bind (g n)) Q := by
  obtain ⟨r, e2, q⟩ := k
  exact ⟨r, Ev.bind h e2, q⟩
theorem Any.opt {α β : Type} {o : Option β} {g : Nat → β → Option α} {P : β → Prop} {Q : α → Prop} (h : ∃ x, o = some x ∧ P x) (k : ∀ x, P x → Any (fun n => g n x) Q) : Any (fun n => o.bind (g n)) Q := by
  obtain ⟨x, e, p⟩ := h
  obtain ⟨r, e2, q⟩ := k x p
  exact ⟨r, Ev.now_bind e e2, q⟩
theorem Any.ite {α : Type} {c : Prop} [Decidable c] {A B : Nat → Option α} {Q : α → Prop} (k : c → Any A Q) (l : ¬ c → Any B Q) : Any (fun n => if c then A n else B n) Q := by
  by_cases h : c
  · obtain ⟨r, e, q⟩ := k h
    exact ⟨r, Ev.pos h e, q⟩
  · obtain ⟨r, e, q⟩ := l h
    exact ⟨r, Ev.neg h e, q⟩
theorem Any.pos {α : Type} {c : Prop} [Decidable c] {A B : Nat → Option α} {Q : α → Prop} (h : c) (k : Any A Q) : Any (fun n => if c then A n else B n) Q := by
  obtain ⟨r, e, q⟩ := k
  exact ⟨r, Ev.pos h e, q⟩
theorem Any.neg {α : Type} {c : Prop} [Decidable c] {A B : Nat → Option α} {Q : α → Prop} (h : ¬ c) (k : Any B Q) : Any (fun n => if c then A n else B n) Q := by
  obtain ⟨r, e, q⟩ := k
  exact ⟨r, Ev.neg h e, q⟩
theorem Any.round {α : Type} {g f : Nat → Option α} {Q : α → Prop} (h : ∀ k, g (k + 1) = f k) (k : Any f Q) : Any g Q := by
  obtain ⟨r, e, q⟩ := k
  exact ⟨r, Ev.round h e, q⟩
theorem Any.to {α : Type} {g : Nat → Option α} {v : α} (h : Any g (fun r => r = v)) : Ev g v := by
  obtain ⟨r, e, rfl⟩ := h
  exact e
theorem Any.then_ {α β : Type} {f : Nat → Option β} {g : Nat → β → Option α} {P : β → Prop} {v : α} (h : Any f P) (k : ∀ x, P x → Ev (fun n => g n x) v) : Ev (fun n => (f n).bind (g n)) v := by
  obtain ⟨x, e, p⟩ := h
  exact Ev.bind e (k x p)
theorem l1New_ev (b : List Int) (hb : b.length ≤ 1048576) : ∃ h, Ev (fun k => spec_l1New.f k b) (b, 0, h) := by
  unfold spec_l1New.f
  have key : ∀ d i : Nat, i + d = b.length → ∀ h : Int, ∃ g, Ev (fun k => spec_l1New.l0 k b h (i : Int)) (b, 0, g) := by
    intro d
    induction d with
    | zero =>
      intro i hi h
      refine ⟨h, ?_⟩
      refine Ev.round (fun _ => by rw [spec_l1New.l0]) ?_
      refine Ev.neg (by omega) ?_
      exact Ev.now _
    | succ d ih =>
      intro i hi h
      by_cases h4 : (i : Int) < 4000
      · have e1 : wrap64 ((i : Int) + 1) = ((i + 1 : Nat) : Int) := by rw [w64 (by omega) (by omega)]; omega
        obtain ⟨g, hg⟩ := ih (i + 1) (by omega) (Go.bits .and .i64 (wrap64 ((wrap64 ((wrap64 (h * 137)) + (wrap64 (rd b (i : Int))))) + 11)) 1073741823)
        refine ⟨g, ?_⟩
        refine Ev.round (fun _ => by rw [spec_l1New.l0]) ?_
        refine Ev.pos (by omega) ?_
        refine Ev.pos h4 ?_
        refine Ev.pos (by omega) ?_
        simp only [e1]
        exact hg
      · refine ⟨h, ?_⟩
        refine Ev.round (fun _ => by rw [spec_l1New.l0]) ?_
        refine Ev.pos (by omega) ?_
        refine Ev.neg h4 ?_
        exact Ev.now _
  exact key b.length 0 (by omega) _
theorem cur0 (b : List Int) (hb : b.length ≤ 1048576) : Cur b 0 := ⟨hb, by omega, by omega⟩
theorem aNew (b : List Int) (hb : b.length ≤ 1048576) : Any (fun k => spec_l1New.f k b) (fun x => x.1 = b ∧ Cur b x.2.1) := by
  obtain ⟨h, e⟩ := l1New_ev b hb
  exact ⟨_, e, rfl, cur0 b hb⟩
theorem l1Byte_some (b : List Int) (i h : Int) (c : Cur b i) : ∃ x j g, spec_l1Byte.f b i h = some (x, j, g) ∧ (0 ≤ x ∧ x ≤ 255) ∧ Cur b j := by
  obtain ⟨c1, c2, c3⟩ := c
  unfold spec_l1Byte.f
  by_cases hi : i < (b.length : Int)
  · rw [if_pos hi, if_pos c2]
    exact ⟨_, _, _, rfl, and255 _, c1, by rw [w64 (by omega) (by omega)]; omega, by rw [w64 (by omega) (by omega)]; omega⟩
  · rw [if_neg hi]
    exact ⟨_, _, _, rfl, and255 _, c1, c2, c3⟩
theorem l1Below_some (b : List Int) (i h n : Int) (c : Cur b i) : ∃ x j g, spec_l1Below.f b i h n = some (x, j, g) ∧ 0 ≤ x ∧ (0 < n → x < n) ∧ Cur b j := by
  unfold spec_l1Below.f
  by_cases h0 : n ≤ 0
  · rw [if_pos h0]
    exact ⟨0, i, h, rfl, by omega, by omega, c⟩
  rw [if_neg h0]
  by_cases h1 : n ≤ 256
  · rw [if_pos h1]
    obtain ⟨x, j, g, e, b1, cj⟩ := l1Byte_some b i h c
    rw [e]
    simp only [Option.bind_some]
    rw [if_neg (by omega)]
    refine ⟨_, _, _, rfl, ?_, ?_, cj⟩
    · rw [Int.tmod_eq_emod_of_nonneg b1.1]
      exact Int.emod_nonneg _ (by omega)
    · intro hn
      rw [Int.tmod_eq_emod_of_nonneg b1.1]
      exact Int.emod_lt_of_pos _ hn
  · rw [if_neg h1]
    obtain ⟨x, j, g, e, b1, cj⟩ := l1Byte_some b i h c
    obtain ⟨y, j2, g2, e2, b2, cj2⟩ := l1Byte_some b j g cj
    obtain ⟨z, j3, g3, e3, b3, cj3⟩ := l1Byte_some b j2 g2 cj2
    rw [e]
    simp only [Option.bind_some]
    rw [e2]
    simp only [Option.bind_some]
    rw [e3]
    simp only [Option.bind_some]
    rw [if_neg (by omega)]
    have hv : 0 ≤ wrap64 (wrap64 (wrap64 (x * 65536) + wrap64 (y * 256)) + z) := by
      rw [w64 (n := x * 65536) (by omega) (by omega), w64 (n := y * 256) (by omega) (by omega), w64 (n := x * 65536 + y * 256) (by omega) (by omega), w64 (by omega) (by omega)]
      omega
    refine ⟨_, _, _, rfl, ?_, ?_, cj3⟩
    · rw [Int.tmod_eq_emod_of_nonneg hv]
      exact Int.emod_nonneg _ (by omega)
    · intro hn
      rw [Int.tmod_eq_emod_of_nonneg hv]
      exact Int.emod_lt_of_pos _ hn
theorem l1Below_lt (b : List Int) (i h n : Int) (hn : 0 < n) (c : Cur b i) : ∃ x j g, spec_l1Below.f b i h n = some (x, j, g) ∧ (0 ≤ x ∧ x < n) ∧ Cur b j := by
  obtain ⟨x, j, g, e, h0, h1, cj⟩ := l1Below_some b i h n c
  exact ⟨x, j, g, e, ⟨h0, h1 hn⟩, cj⟩
theorem l1Once_some (b : List Int) (i h n : Int) (c : Cur b i) : ∃ x j g, spec_l1Once.f b i h n = some (x, j, g) ∧ Cur b j := by
  obtain ⟨x, j, g, e, _, _, cj⟩ := l1Below_some b i h n c
  unfold spec_l1Once.f
  rw [e]
  exact ⟨_, _, _, rfl, cj⟩
theorem l10Op_ev (b : List Int) (i h : Int) (c : Cur b i) : ∃ y0 y1 y2 y3 j g, Ev (fun k => spec_l10Op.f k b i h) (y0, y1, y2, y3, j, g) ∧ Cur b j := by
  have hj : ∀ (i h k0 a : Int), Cur b i → ∃ y0 y1 y2 y3 j g, Ev (fun k => spec_l10Op.j0 k b i h k0 a 0 0) (y0, y1, y2, y3, j, g) ∧ Cur b j := by
    intro i h k0 a c
    obtain ⟨x, j, g, e, hx, cj⟩ := l1Below_lt b i h 3 (by omega) c
    obtain ⟨x2, j2, g2, e2, hx2, cj2⟩ := l1Below_lt b j g 3 (by omega) cj
    obtain ⟨z, m, n, e3, hx3, cm⟩ := l1Below_lt b i h 4 (by omega) c
    obtain ⟨z2, m2, n2, e4, hx4, cm2⟩ := l1Below_lt b m n 4 (by omega) cm
    by_cases h1 : k0 = 1
    · iterate 6 apply Exists.intro
      refine ⟨?_, cj2⟩
      refine Ev.round (fun _ => by rw [spec_l10Op.j0]) ?_
      refine Ev.pos h1 ?_
      refine Ev.now_bind e ?_
      refine Ev.now_bind e2 ?_
      exact Ev.now _
    by_cases h5 : k0 = 5
    · iterate 6 apply Exists.intro
      refine ⟨?_, cm2⟩
      refine Ev.round (fun _ => by rw [spec_l10Op.j0]) ?_
      refine Ev.neg h1 ?_
      refine Ev.pos h5 ?_
      refine Ev.now_bind e3 ?_
      refine Ev.now_bind e4 ?_
      exact Ev.now _
    by_cases h6 : k0 = 6
    · iterate 6 apply Exists.intro
      refine ⟨?_, cm⟩
      refine Ev.round (fun _ => by rw [spec_l10Op.j0]) ?_
      refine Ev.neg h1 ?_
      refine Ev.neg h5 ?_
      refine Ev.pos h6 ?_
      refine Ev.now_bind e3 ?_
      exact Ev.now _
    by_cases h7 : k0 = 7
    · iterate 6 apply Exists.intro
      refine ⟨?_, cj⟩
      refine Ev.round (fun _ => by rw [spec_l10Op.j0]) ?_
      refine Ev.neg h1 ?_
      refine Ev.neg h5 ?_
      refine Ev.neg h6 ?_
      refine Ev.pos h7 ?_
      refine Ev.now_bind e ?_
      exact Ev.now _
    by_cases h8 : k0 = 8
    · iterate 6 apply Exists.intro
      refine ⟨?_, cj⟩
      refine Ev.round (fun _ => by rw [spec_l10Op.j0]) ?_
      refine Ev.neg h1 ?_
      refine Ev.neg h5 ?_
      refine Ev.neg h6 ?_
      refine Ev.neg h7 ?_
      refine Ev.pos h8 ?_
      refine Ev.now_bind e ?_
      exact Ev.now _
    by_cases h9 : k0 = 9
    · iterate 6 apply Exists.intro
      refine ⟨?_, cj⟩
      refine Ev.round (fun _ => by rw [spec_l10Op.j0]) ?_
      refine Ev.neg h1 ?_
      refine Ev.neg h5 ?_
      refine Ev.neg h6 ?_
      refine Ev.neg h7 ?_
      refine Ev.neg h8 ?_
      refine Ev.pos h9 ?_
      refine Ev.now_bind e ?_
      exact Ev.now _
    · iterate 6 apply Exists.intro
      refine ⟨?_, c⟩
      refine Ev.round (fun _ => by rw [spec_l10Op.j0]) ?_
      refine Ev.neg h1 ?_
      refine Ev.neg h5 ?_
      refine Ev.neg h6 ?_
      refine Ev.neg h7 ?_
      refine Ev.neg h8 ?_
      refine Ev.neg h9 ?_
      exact Ev.now _
  unfold spec_l10Op.f
  obtain ⟨x, j, g, e, hx, cj⟩ := l1Below_lt b i h 9 (by omega) c
  obtain ⟨x2, j2, g2, e2, hx2, cj2⟩ := l1Below_lt b j g 3 (by omega) cj
  obtain ⟨x3, j3, g3, e3, cj3⟩ := l1Once_some b j2 g2 3 cj2
  cases x3 with
  | true =>
    obtain ⟨y0, y1, y2, y3, j4, g4, ev, c4⟩ := hj j3 g3 1 x2 cj3
    refine ⟨y0, y1, y2, y3, j4, g4, ?_, c4⟩
    refine Ev.now_bind e ?_
    refine Ev.now_bind e2 ?_
    refine Ev.now_bind e3 ?_
    exact Ev.pos rfl ev
  | false =>
    obtain ⟨y0, y1, y2, y3, j4, g4, ev, c4⟩ := hj j3 g3 (wrap64 (1 + x)) x2 cj3
    refine ⟨y0, y1, y2, y3, j4, g4, ?_, c4⟩
    refine Ev.now_bind e ?_
    refine Ev.now_bind e2 ?_
    refine Ev.now_bind e3 ?_
    exact Ev.neg (by simp) ev
theorem l10Draw_ev (b : List Int) (i h : Int) (c : Cur b i) : ∃ l j g, Ev (fun k => spec_l10Draw.f k b i h) (l, j, g) ∧ l.length ≤ 12 ∧ Cur b j := by
  unfold spec_l10Draw.f
  obtain ⟨x, j, g, e, hx, cj⟩ := l1Below_lt b i h 13 (by omega) c
  have key : ∀ (d : Nat) (l : List S121) (i h : Int), Cur b i → d + l.length ≤ 12 → ∃ l' j g, Ev (fun k => spec_l10Draw.l0 k l (d : Int) b i h) (l', j, g) ∧ l'.length ≤ 12 ∧ Cur b j := by
    intro d
    induction d with
    | zero =>
      intro l i h c hl
      refine ⟨l, i, h, ?_, by omega, c⟩
      refine Ev.round (fun _ => by rw [spec_l10Draw.l0]) ?_
      refine Ev.neg (by omega) ?_
      exact Ev.now _
    | succ d ih =>
      intro l i h c hl
      obtain ⟨y0, y1, y2, y3, j, g, ev, cj⟩ := l10Op_ev b i h c
      obtain ⟨l', j', g', ev', hl', cj'⟩ := ih (l ++ [(⟨y0, y1, y2, y3⟩ : S121)]) j g cj (by simp; omega)
      refine ⟨l', j', g', ?_, hl', cj'⟩
      have e1 : wrap64 (((d + 1 : Nat) : Int) - 1) = (d : Int) := by rw [w64 (by omega) (by omega)]; omega
      refine Ev.round (fun _ => by rw [spec_l10Draw.l0]) ?_
      refine Ev.pos (by omega) ?_
      refine Ev.bind ev ?_
      refine Ev.pos (by omega) ?_
      simp only [e1]
      exact ev'
  obtain ⟨l', j', g', ev', hl', cj'⟩ := key x.toNat [] j g cj (by simp; omega)
  refine ⟨l', j', g', ?_, hl', cj'⟩
  refine Ev.now_bind e ?_
  rw [show (x.toNat : Int) = x by omega] at ev'
  exact ev'
theorem l1Int_some (b : List Int) (i h : Int) (l : List Int) (hl : 0 < l.length) (c : Cur b i) : ∃ x j g, spec_l1Int.f b i h l = some (x, j, g) ∧ x ∈ l ∧ Cur b j := by
  obtain ⟨x, j, g, e, hx, cj⟩ := l1Below_lt b i h (l.length : Int) (by omega) c
  unfold spec_l1Int.f
  rw [e]
  simp only [Option.bind_some]
  rw [if_pos hx.1, if_pos hx.2]
  refine ⟨_, _, _, rfl, ?_, cj⟩
  exact getD_mem l x.toNat (by omega) 0
theorem l4Raw_some (b : List Int) (i h : Int) (c : Cur b i) : ∃ x j g, spec_l4Raw.f b i h = some (x, j, g) ∧ (-9223372036854775808 ≤ x ∧ x ≤ 9223372036854775807) ∧ Cur b j := by
  unfold spec_l4Raw.f
  obtain ⟨x, j, g, e, hx, cj⟩ := l1Int_some b i h [-1, 0, 9, 10, 99, 100, 9223372036854775807, -9223372036854775808] (by simp) c
  rw [e]
  refine ⟨x, j, g, rfl, ?_, cj⟩
  simp only [List.mem_cons, List.not_mem_nil, or_false] at hx
  omega
theorem l10Any_ev (b : List Int) (i h : Int) (c : Cur b i) : ∃ l j g, Ev (fun k => spec_l10Any.f k b i h) (l, j, g) ∧ l.length ≤ 17 ∧ Cur b j := by
  unfold spec_l10Any.f
  obtain ⟨l, j, g, ev, hl, cj⟩ := l10Draw_ev b i h c
  by_cases h0 : l.length = 0
  · refine ⟨l, j, g, ?_, by omega, cj⟩
    refine Ev.bind ev ?_
    refine Ev.pos (by simp [h0]) ?_
    exact Ev.now _
  obtain ⟨x, j2, g2, e2, hx, cj2⟩ := l1Below_lt b j g (l.length : Int) (by omega) cj
  obtain ⟨y, j3, g3, e3, hy, cj3⟩ := l1Below_lt b j2 g2 12 (by omega) cj2
  obtain ⟨v1, m1, n1, f1, _, cm1⟩ := l1Int_some b j3 g3 [0, 10, 5] (by simp) cj3
  obtain ⟨v2, m2, n2, f2, _, cm2⟩ := l1Int_some b j3 g3 [-1, 3, 4] (by simp) cj3
  obtain ⟨v3, m3, n3, f3, _, cm3⟩ := l4Raw_some b j3 g3 cj3
  have hne : ¬ (l.length : Int) = 0 := by omega
  by_cases c0 : y = 0
  · iterate 3 apply Exists.intro
    refine ⟨?_, ?_, cm1⟩
    · refine Ev.bind ev ?_
      refine Ev.neg hne ?_
      refine Ev.now_bind e2 ?_
      refine Ev.now_bind e3 ?_
      refine Ev.pos c0 ?_
      refine Ev.now_bind f1 ?_
      refine Ev.pos hx.1 ?_
      refine Ev.pos hx.2 ?_
      exact Ev.now _
    · simp; omega
  by_cases c1 : y = 1
  · iterate 3 apply Exists.intro
    refine ⟨?_, ?_, cm2⟩
    · refine Ev.bind ev ?_
      refine Ev.neg hne ?_
      refine Ev.now_bind e2 ?_
      refine Ev.now_bind e3 ?_
      refine Ev.neg c0 ?_
      refine Ev.pos c1 ?_
      refine Ev.now_bind f2 ?_
      refine Ev.pos hx.1 ?_
      refine Ev.pos hx.2 ?_
      exact Ev.now _
    · simp; omega
  by_cases c2 : y = 2
  · iterate 3 apply Exists.intro
    refine ⟨?_, ?_, cm3⟩
    · refine Ev.bind ev ?_
      refine Ev.neg hne ?_
      refine Ev.now_bind e2 ?_
      refine Ev.now_bind e3 ?_
      refine Ev.neg c0 ?_
      refine Ev.neg c1 ?_
      refine Ev.pos c2 ?_
      refine Ev.now_bind f3 ?_
      refine Ev.pos hx.1 ?_
      refine Ev.pos hx.2 ?_
      exact Ev.now _
    · simp; omega
  by_cases c3 : y = 3
  · iterate 3 apply Exists.intro
    refine ⟨?_, ?_, cm3⟩
    · refine Ev.bind ev ?_
      refine Ev.neg hne ?_
      refine Ev.now_bind e2 ?_
      refine Ev.now_bind e3 ?_
      refine Ev.neg c0 ?_
      refine Ev.neg c1 ?_
      refine Ev.neg c2 ?_
      refine Ev.pos c3 ?_
      refine Ev.now_bind f3 ?_
      refine Ev.pos hx.1 ?_
      refine Ev.pos hx.2 ?_
      exact Ev.now _
    · simp; omega
  have key : ∀ (d : Nat) (l : List S121), l.length + d = 17 → ∃ l', Ev (fun k => spec_l10Any.l0 k l b j3 g3) (l', j3, g3) ∧ l'.length ≤ 17 := by
    intro d
    induction d with
    | zero =>
      intro l hl
      refine ⟨l, ?_, by omega⟩
      refine Ev.round (fun _ => by rw [spec_l10Any.l0]) ?_
      refine Ev.neg (by omega) ?_
      exact Ev.now _
    | succ d ih =>
      intro l hl
      obtain ⟨l', ev', hl'⟩ := ih (l ++ [(⟨2, 0, 0, 0⟩ : S121)]) (by simp; omega)
      refine ⟨l', ?_, hl'⟩
      refine Ev.round (fun _ => by rw [spec_l10Any.l0]) ?_
      refine Ev.pos (by omega) ?_
      exact Ev.pos (by omega) ev'
  by_cases c4 : y = 4
  · obtain ⟨l', ev', hl'⟩ := key (17 - l.length) l (by omega)
    refine ⟨l', j3, g3, ?_, hl', cj3⟩
    refine Ev.bind ev ?_
    refine Ev.neg hne ?_
    refine Ev.now_bind e2 ?_
    refine Ev.now_bind e3 ?_
    refine Ev.neg c0 ?_
    refine Ev.neg c1 ?_
    refine Ev.neg c2 ?_
    refine Ev.neg c3 ?_
    exact Ev.pos c4 ev'
  · refine ⟨l, j3, g3, ?_, by omega, cj3⟩
    refine Ev.bind ev ?_
    refine Ev.neg hne ?_
    refine Ev.now_bind e2 ?_
    refine Ev.now_bind e3 ?_
    refine Ev.neg c0 ?_
    refine Ev.neg c1 ?_
    refine Ev.neg c2 ?_
    refine Ev.neg c3 ?_
    refine Ev.neg c4 ?_
    exact Ev.now _
theorem a10Any (b : List Int) (i h : Int) (c : Cur b i) : Any (fun k => spec_l10Any.f k b i h) (fun x => x.1.length ≤ 17 ∧ Cur b x.2.1) := by
  obtain ⟨l, j, g, e, hl, cj⟩ := l10Any_ev b i h c
  exact ⟨_, e, hl, cj⟩
theorem aBelow (b : List Int) (i h n : Int) (hn : 0 < n) (c : Cur b i) : ∃ x, spec_l1Below.f b i h n = some x ∧ ((0 ≤ x.1 ∧ x.1 < n) ∧ Cur b x.2.1) := by
  obtain ⟨x, j, g, e, hx, cj⟩ := l1Below_lt b i h n hn c
  exact ⟨(x, j, g), e, hx, cj⟩
theorem l11Zeros_ev (n : Nat) (hn : n ≤ 1048576) : Ev (fun k => spec_l11Zeros.f k (n : Int)) (List.replicate n 0) := by
  have key : ∀ d i : Nat, i + d = n → Ev (fun k => spec_l11Zeros.l0 k (n : Int) (List.replicate i 0) (i : Int)) (List.replicate n 0) := by
    intro d
    induction d with
    | zero =>
      intro i hi
      obtain rfl : i = n := by omega
      refine Ev.round (fun _ => by rw [spec_l11Zeros.l0]) ?_
      exact Ev.neg (by omega) (Ev.now _)
    | succ d ih =>
      intro i hi
      have e1 : wrap64 ((i : Int) + 1) = ((i + 1 : Nat) : Int) := by rw [w64 (by omega) (by omega)]; omega
      have h := ih (i + 1) (by omega)
      rw [List.replicate_succ'] at h
      refine Ev.round (fun _ => by rw [spec_l11Zeros.l0]) ?_
      refine Ev.pos (by omega) ?_
      refine Ev.pos (by rw [List.length_replicate]; omega) ?_
      simp only [e1]
      exact h
  exact key n 0 (by omega)
theorem sStart_ev : Ev (fun k => spec_StartState.f k) (0, [0, 0, 0, 0], [0, 0, 0], [0, 0, 0, 0]) := by
  unfold spec_StartState.f
  exact Ev.bind (l11Zeros_ev 4 (by omega)) (Ev.bind (l11Zeros_ev 3 (by omega)) (Ev.bind (l11Zeros_ev 4 (by omega)) (Ev.now _)))
/-- A state of the machine's form: its rows have the lengths, and their numbers are between 0 and 8. -/
def Drawn8 (l : List Int) (n : Nat) : Prop := l.length = n ∧ ∀ y ∈ l, 0 ≤ y ∧ y ≤ 8
theorem drawn8_set {l : List Int} {n : Nat} (h : Drawn8 l n) (i : Nat) {x : Int} (hx : 0 ≤ x ∧ x < 9) : Drawn8 (l.set i x) n := by
  refine ⟨by rw [List.length_set]; exact h.1, fun y hy => ?_⟩
  rcases List.mem_or_eq_of_mem_set hy with h1 | h1
  · exact h.2 y h1
  · omega
theorem l11Draw_any (b : List Int) (i h a : Int) (ha : 0 ≤ a ∧ a ≤ 1000) (c : Cur b i) : Any (fun k => spec_l11Draw.f k b i h a) (fun x => (0 ≤ x.1 ∧ x.1 < a + 2) ∧ Drawn8 x.2.1 4 ∧ Drawn8 x.2.2.1 3 ∧ Drawn8 x.2.2.2.1 4 ∧ Cur b x.2.2.2.2.1) := by
  have k2 : ∀ (d j : Nat) (i h p : Int) (r s n : List Int), j + d = 4 → Cur b i → Drawn8 r 4 → Drawn8 s 3 → Drawn8 n 4 → Any (fun k => spec_l11Draw.l2 k (j : Int) b i h p r s n) (fun x => x.1 = p ∧ Drawn8 x.2.1 4 ∧ Drawn8 x.2.2.1 3 ∧ Drawn8 x.2.2.2.1 4 ∧ Cur b x.2.2.2.2.1) := by
    intro d
    induction d with
    | zero =>
      intro j i h p r s n hj c hr hs hn
      refine Any.round (fun _ => by rw [spec_l11Draw.l2]) ?_
      exact Any.neg (by have := hn.1; omega) (Any.now ⟨rfl, hr, hs, hn, c⟩)
    | succ d ih =>
      intro j i h p r s n hj c hr hs hn
      have e1 : wrap64 ((j : Int) + 1) = ((j + 1 : Nat) : Int) := by rw [w64 (by omega) (by omega)]; omega
      refine Any.round (fun _ => by rw [spec_l11Draw.l2]) ?_
      refine Any.pos (by have := hn.1; omega) ?_
      refine Any.opt (aBelow b i h 9 (by omega) c) ?_
      intro x hx
      refine Any.pos (by omega) ?_
      simp only [e1]
      exact ih (j + 1) _ _ p r s _ (by omega) hx.2 hr hs (drawn8_set hn _ hx.1)
  have k1 : ∀ (d j : Nat) (i h p : Int) (r s n : List Int), j + d = 3 → Cur b i → Drawn8 r 4 → Drawn8 s 3 → Drawn8 n 4 → Any (fun k => spec_l11Draw.l1 k (j : Int) b i h p r s n) (fun x => x.1 = p ∧ Drawn8 x.2.1 4 ∧ Drawn8 x.2.2.1 3 ∧ Drawn8 x.2.2.2.1 4 ∧ Cur b x.2.2.2.2.1) := by
    intro d
    induction d with
    | zero =>
      intro j i h p r s n hj c hr hs hn
      refine Any.round (fun _ => by rw [spec_l11Draw.l1]) ?_
      exact Any.neg (by have := hs.1; omega) (k2 4 0 i h p r s n (by omega) c hr hs hn)
    | succ d ih =>
      intro j i h p r s n hj c hr hs hn
      have e1 : wrap64 ((j : Int) + 1) = ((j + 1 : Nat) : Int) := by rw [w64 (by omega) (by omega)]; omega
      refine Any.round (fun _ => by rw [spec_l11Draw.l1]) ?_
      refine Any.pos (by have := hs.1; omega) ?_
      refine Any.opt (aBelow b i h 9 (by omega) c) ?_
      intro x hx
      refine Any.pos (by omega) ?_
      simp only [e1]
      exact ih (j + 1) _ _ p r _ n (by omega) hx.2 hr (drawn8_set hs _ hx.1) hn
  have k0 : ∀ (d j : Nat) (i h p : Int) (r s n : List Int), j + d = 4 → Cur b i → Drawn8 r 4 → Drawn8 s 3 → Drawn8 n 4 → Any (fun k => spec_l11Draw.l0 k (j : Int) b i h p r s n) (fun x => x.1 = p ∧ Drawn8 x.2.1 4 ∧ Drawn8 x.2.2.1 3 ∧ Drawn8 x.2.2.2.1 4 ∧ Cur b x.2.2.2.2.1) := by
    intro d
    induction d with
    | zero =>
      intro j i h p r s n hj c hr hs hn
      refine Any.round (fun _ => by rw [spec_l11Draw.l0]) ?_
      exact Any.neg (by have := hr.1; omega) (k1 3 0 i h p r s n (by omega) c hr hs hn)
    | succ d ih =>
      intro j i h p r s n hj c hr hs hn
      have e1 : wrap64 ((j : Int) + 1) = ((j + 1 : Nat) : Int) := by rw [w64 (by omega) (by omega)]; omega
      refine Any.round (fun _ => by rw [spec_l11Draw.l0]) ?_
      refine Any.pos (by have := hr.1; omega) ?_
      refine Any.opt (aBelow b i h 9 (by omega) c) ?_
      intro x hx
      refine Any.pos (by omega) ?_
      simp only [e1]
      exact ih (j + 1) _ _ p _ s n (by omega) hx.2 (drawn8_set hr _ hx.1) hs hn
  have z4 : Drawn8 [0, 0, 0, 0] 4 := ⟨rfl, by simp⟩
  have z3 : Drawn8 [0, 0, 0] 3 := ⟨rfl, by simp⟩
  unfold spec_l11Draw.f
  refine Any.ev sStart_ev ?_
  have ew : wrap64 (a + 2) = a + 2 := w64 (by omega) (by omega)
  rw [ew]
  refine Any.opt (aBelow b i h (a + 2) (by omega) c) ?_
  intro x hx
  refine (k0 4 0 _ _ _ _ _ _ (by omega) hx.2 z4 z3 z4).mono ?_
  intro y hy
  rw [hy.1]
  exact ⟨hx.1, hy.2⟩
theorem aInt (b : List Int) (i h : Int) (l : List Int) (hl : 0 < l.length) (c : Cur b i) : ∃ x, spec_l1Int.f b i h l = some x ∧ (x.1 ∈ l ∧ Cur b x.2.1) := by
  obtain ⟨x, j, g, e, hx, cj⟩ := l1Int_some b i h l hl c
  exact ⟨(x, j, g), e, hx, cj⟩
theorem l11Any_any (b : List Int) (i h a : Int) (ha : 0 ≤ a ∧ a ≤ 1000) (c : Cur b i) : Any (fun k => spec_l11Any.f k b i h a) (fun x => x.2.1.length = 4 ∧ x.2.2.1.length ≤ 3 ∧ x.2.2.2.1.length ≤ 5 ∧ Cur b x.2.2.2.2.1) := by
  unfold spec_l11Any.f
  refine Any.bind (l11Draw_any b i h a ha c) ?_
  intro x hx
  obtain ⟨h0, h1, h2, h3, cj⟩ := hx
  have l1 := h1.1
  have l2 := h2.1
  have l3 := h3.1
  refine Any.opt (aBelow b _ _ 10 (by omega) cj) ?_
  intro y hy
  refine Any.ite (fun _ => ?_) (fun _ => ?_)
  · refine Any.opt (aInt b _ _ _ (by simp) hy.2) ?_
    intro z hz
    exact Any.now ⟨l1, by dsimp only; omega, by dsimp only; omega, hz.2⟩
  refine Any.ite (fun _ => ?_) (fun _ => ?_)
  · refine Any.opt (aInt b _ _ _ (by simp) hy.2) ?_
    intro z hz
    refine Any.pos (by omega) ?_
    exact Any.now ⟨by rw [List.length_set]; exact l1, by dsimp only; omega, by dsimp only; omega, hz.2⟩
  refine Any.ite (fun _ => ?_) (fun _ => ?_)
  · refine Any.pos (by omega) ?_
    exact Any.now ⟨l1, by rw [List.length_take]; omega, by dsimp only; omega, hy.2⟩
  refine Any.ite (fun _ => ?_) (fun _ => ?_)
  · refine Any.pos (by omega) ?_
    exact Any.now ⟨l1, by dsimp only; omega, by rw [List.length_append, List.length_singleton]; omega, hy.2⟩
  · exact Any.now ⟨l1, by dsimp only; omega, by dsimp only; omega, hy.2⟩
theorem drawWantOf_any (b : List Int) (hb : b.length ≤ 1048576) : Any (fun k => spec_DrawWantOf.f k b) (fun x => x.1.length ≤ 17 ∧ x.2.2.1.length ≤ 1048576 ∧ x.2.2.2.1.length ≤ 1048576 ∧ x.2.2.2.2.length ≤ 1048576) := by
  unfold spec_DrawWantOf.f
  refine Any.bind (aNew b hb) ?_
  intro x hx
  rw [hx.1]
  refine Any.bind (a10Any b _ _ hx.2) ?_
  intro y hy
  refine Any.bind (l11Any_any b _ _ _ ⟨by omega, by have := hy.1; omega⟩ hy.2) ?_
  intro z hz
  exact Any.now ⟨hy.1, by dsimp only; omega, by dsimp only; omega, by dsimp only; omega⟩
theorem drawStepState_any (b : List Int) (hb : b.length ≤ 1048576) : Any (fun k => spec_DrawStepState.f k b) (fun x => x.1.length ≤ 17 ∧ x.2.2.1.length ≤ 1048576 ∧ x.2.2.2.1.length ≤ 1048576 ∧ x.2.2.2.2.1.length ≤ 1048576) := by
  unfold spec_DrawStepState.f
  refine Any.bind (drawWantOf_any b hb) ?_
  intro x hx
  refine Any.bind (aNew b hb) ?_
  intro y hy
  rw [hy.1]
  refine Any.opt (aInt b _ _ _ (by simp) hy.2) ?_
  intro z hz
  exact Any.now hx
theorem at_eq (a b : Int) : impl_at.f a b = some (decide (0 ≤ a) && decide (a < b)) := by
  unfold impl_at.f
  by_cases h : 0 ≤ a <;> simp [h]
theorem InRange_eq (a b c : Int) : impl_InRange.f a b c = some (decide (b ≤ a) && decide (a ≤ c)) := by
  unfold impl_InRange.f
  by_cases h : b ≤ a <;> simp [h]
def pOp (y : S121) : Bool :=
  pIn y.f1 0 3 && (
    if y.f0 = 1 then pIn y.f2 1 9 && pIn y.f3 0 99
    else if y.f0 = 2 ∨ y.f0 = 3 ∨ y.f0 = 4 then decide (y.f2 = 0) && (y.f3 == 0)
    else if y.f0 = 5 then pIn y.f2 0 3 && pIn y.f3 0 3
    else if y.f0 = 6 then pIn y.f2 0 3 && (y.f3 == 0)
    else if y.f0 = 7 then pIn y.f2 1 3 && (y.f3 == 0)
    else if y.f0 = 8 then pIn y.f2 0 2 && (y.f3 == 0)
    else if y.f0 = 9 then pIn y.f2 0 2 && (y.f3 == 0)
    else false)
theorem pIn_at (a : Int) : (decide (0 ≤ a) && decide (a < 4)) = pIn a 0 3 := by
  have : (a < 4) = (a ≤ 3) := by apply propext; omega
  simp only [this]
theorem pIn_at3 (a : Int) : (decide (0 ≤ a) && decide (a < 3)) = pIn a 0 2 := by
  have : (a < 3) = (a ≤ 2) := by apply propext; omega
  simp only [this]
theorem iOp_ev (y : S121) : Ev (fun k => impl_isOp.f k y.f0 y.f1 y.f2 y.f3) (pOp y) := by
  unfold impl_isOp.f pOp
  refine Ev.now_and ((at_eq _ _).trans (congrArg some (pIn_at _))) fun _ => ?_
  by_cases h1 : y.f0 = 1
  · rw [if_pos h1]
    refine Ev.pos h1 ?_
    exact Ev.now_and (InRange_eq _ _ _) fun _ => Ev.now_bind (InRange_eq _ _ _) (Ev.now _)
  rw [if_neg h1]
  refine Ev.neg h1 ?_
  have hj : ∀ x : Bool, (x = true ↔ y.f0 = 2 ∨ y.f0 = 3 ∨ y.f0 = 4) → Ev (fun k => impl_isOp.j0 k y.f0 x y.f0 y.f1 y.f2 y.f3) (if y.f0 = 2 ∨ y.f0 = 3 ∨ y.f0 = 4 then decide (y.f2 = 0) && (y.f3 == 0)
    else if y.f0 = 5 then pIn y.f2 0 3 && pIn y.f3 0 3
    else if y.f0 = 6 then pIn y.f2 0 3 && (y.f3 == 0)
    else if y.f0 = 7 then pIn y.f2 1 3 && (y.f3 == 0)
    else if y.f0 = 8 then pIn y.f2 0 2 && (y.f3 == 0)
    else if y.f0 = 9 then pIn y.f2 0 2 && (y.f3 == 0)
    else false) := by
    intro x hx
    refine Ev.round (fun _ => by rw [impl_isOp.j0]) ?_
    cases x with
    | true =>
      rw [if_pos (hx.1 rfl)]
      refine Ev.pos rfl ?_
      exact Ev.if_and fun _ => Ev.now _
    | false =>
      have hno : ¬ (y.f0 = 2 ∨ y.f0 = 3 ∨ y.f0 = 4) := fun c => by simpa using hx.2 c
      rw [if_neg hno]
      refine Ev.neg (by simp) ?_
      refine Ev.ite (fun _ => ?_) (fun _ => ?_)
      · exact Ev.now_and ((at_eq _ _).trans (congrArg some (pIn_at _))) fun _ => Ev.now_bind ((at_eq _ _).trans (congrArg some (pIn_at _))) (Ev.now _)
      refine Ev.ite (fun _ => ?_) (fun _ => ?_)
      · exact Ev.now_and ((at_eq _ _).trans (congrArg some (pIn_at _))) fun _ => Ev.now _
      refine Ev.ite (fun _ => ?_) (fun _ => ?_)
      · exact Ev.now_and (InRange_eq _ _ _) fun _ => Ev.now _
      refine Ev.ite (fun _ => ?_) (fun _ => ?_)
      · exact Ev.now_and ((at_eq _ _).trans (congrArg some (pIn_at3 _))) fun _ => Ev.now _
      refine Ev.ite (fun _ => ?_) (fun _ => ?_)
      · exact Ev.now_and ((at_eq _ _).trans (congrArg some (pIn_at3 _))) fun _ => Ev.now _
      · exact Ev.now _
  by_cases h2 : y.f0 = 2
  · refine Ev.pos h2 (hj _ ?_)
    simp [h2]
  refine Ev.neg h2 ?_
  by_cases h3 : y.f0 = 3
  · refine Ev.pos h3 (hj _ ?_)
    simp [h3]
  refine Ev.neg h3 (hj _ ?_)
  simp [h2, h3]
def pScript (l : List S121) : Bool := l.all pOp && decide ((l.length : Int) ≤ 16)
theorem not_any {α : Type} (l : List α) (p : α → Bool) : (!(l.any fun y => !p y)) = l.all p := by
  rw [List.all_eq_not_any_not]
theorem iIsScript_ev (l : List S121) (h : l.length ≤ 1048576) : Ev (fun k => impl_IsScript.f k l) (pScript l) := by
  unfold impl_IsScript.f pScript
  rw [Bool.and_comm]
  refine Ev.if_and fun _ => ?_
  rw [← not_any]
  refine Ev.no ?_
  unfold slices_ContainsFunc_80.f
  have hf : ∃ r : Int, Ev (fun k => slices_IndexFunc_80.l0 k l (l.length : Int) 0) r ∧ decide (r ≥ 0) = l.any (fun y => !pOp y) := by
    refine ev_find (fun k i => slices_IndexFunc_80.l0 k l (l.length : Int) i) l z121 (fun y => !pOp y) (fun k => by rw [slices_IndexFunc_80.l0, if_neg (by omega)]) ?_ ?_
    · intro i hi hp
      refine Ev.round (fun _ => by rw [slices_IndexFunc_80.l0]) ?_
      refine Ev.pos (by omega) ?_
      refine Ev.pos (by omega) ?_
      refine Ev.pos (by omega) ?_
      refine Ev.bind (Ev.no (iOp_ev (rd_T121 l (i : Int)))) ?_
      refine Ev.pos hp ?_
      exact Ev.now _
    · intro i hi hp r hr
      have e1 : wrap64 ((i : Int) + 1) = ((i + 1 : Nat) : Int) := by rw [w64 (by omega) (by omega)]; omega
      refine Ev.round (fun _ => by rw [slices_IndexFunc_80.l0]) ?_
      refine Ev.pos (by omega) ?_
      refine Ev.pos (by omega) ?_
      refine Ev.pos (by omega) ?_
      refine Ev.bind (Ev.no (iOp_ev (rd_T121 l (i : Int)))) ?_
      refine Ev.neg (ne_true_of_eq_false hp) ?_
      simp only [e1]
      exact hr
  obtain ⟨r, hr, hd⟩ := hf
  rw [← hd]
  exact Ev.bind hr (Ev.now _)
theorem allIn_ev (l : List Int) (a b : Int) (h : l.length ≤ 1048576) : Ev (fun k => impl_allIn.f k l a b) (l.all (pIn · a b)) := by
  unfold impl_allIn.f
  refine Ev.cast (ev_all (fun k i => impl_allIn.l0 k a b l (l.length : Int) i) l 0 (pIn · a b) true (fun k => by rw [impl_allIn.l0, if_neg (by omega)]) ?_ ?_) (Bool.and_true _)
  · intro i hi hp r hr
    have e1 : wrap64 ((i : Int) + 1) = ((i + 1 : Nat) : Int) := by rw [w64 (by omega) (by omega)]; omega
    refine Ev.round (fun _ => by rw [impl_allIn.l0]) ?_
    refine Ev.pos (by omega) ?_
    refine Ev.pos (by omega) ?_
    refine Ev.pos (by omega) ?_
    refine Ev.now_bind (InRange_eq _ _ _) ?_
    refine Ev.pos ?_ ?_
    · rw [rd_nat]; exact hp
    · simp only [e1]; exact hr
  · intro i hi hp
    refine Ev.round (fun _ => by rw [impl_allIn.l0]) ?_
    refine Ev.pos (by omega) ?_
    refine Ev.pos (by omega) ?_
    refine Ev.pos (by omega) ?_
    refine Ev.now_bind (InRange_eq _ _ _) ?_
    refine Ev.neg ?_ (Ev.now _)
    rw [rd_nat]; exact ne_true_of_eq_false hp
def pState (a : Int) (r s n : List Int) : Bool :=
  pIn a 0 19 && ((r.all (pIn · 0 999) && ((r.length : Int) == 4)) && ((s.all (pIn · 0 999) && ((s.length : Int) == 3)) && (n.all (pIn · 0 999) && ((n.length : Int) == 4))))
theorem iIsState_ev (a : Int) (r s n : List Int) (h1 : r.length ≤ 1048576) (h2 : s.length ≤ 1048576) (h3 : n.length ≤ 1048576) : Ev (fun k => impl_IsState.f k a r s n) (pState a r s n) := by
  unfold impl_IsState.f pState
  refine Ev.cast (Ev.now_and (InRange_eq _ _ _) fun _ => Ev.if_and fun _ => Ev.if_and fun _ => Ev.if_and fun _ => Ev.and (allIn_ev r 0 999 h1) fun _ => Ev.and (allIn_ev s 0 999 h2) fun _ => Ev.id (allIn_ev n 0 999 h3)) ?_
  rw [Bool.eq_iff_iff]
  simp only [Bool.and_eq_true, decide_eq_true_eq, beq_iff_eq]
  constructor
  · rintro ⟨a1, a2, a3, a4, a5, a6, a7⟩; exact ⟨a1, ⟨a5, a2⟩, ⟨a6, a3⟩, a7, a4⟩
  · rintro ⟨a1, ⟨a5, a2⟩, ⟨a6, a3⟩, a7, a4⟩; exact ⟨a1, a2, a3, a4, a5, a6, a7⟩
def pCan (l : List S121) (a : Int) (r s n : List Int) : Bool := pScript l && (pState a r s n && decide (a < (l.length : Int)))
theorem pCan_facts {l : List S121} {a : Int} {r s n : List Int} (h : pCan l a r s n = true) : 0 ≤ a ∧ a < (l.length : Int) ∧ r.length = 4 ∧ s.length = 3 ∧ n.length = 4 ∧ (∀ y ∈ r, 0 ≤ y ∧ y ≤ 999) ∧ (∀ y ∈ s, 0 ≤ y ∧ y ≤ 999) ∧ (∀ y ∈ n, 0 ≤ y ∧ y ≤ 999) ∧ (∀ y ∈ l, pOp y = true) ∧ a ≤ 19 ∧ l.length ≤ 16 := by
  unfold pCan pScript pState at h
  simp only [pIn, Bool.and_eq_true, decide_eq_true_eq, List.all_eq_true, beq_iff_eq] at h
  obtain ⟨⟨h1, h2⟩, ⟨⟨h3, h3'⟩, ⟨h4, h5⟩, ⟨h6, h7⟩, h8, h9⟩, h10⟩ := h
  exact ⟨h3, h10, by omega, by omega, by omega, h4, h6, h8, h1, h3', by omega⟩
theorem pOp_reg {y : S121} (h : pOp y = true) : 0 ≤ y.f1 ∧ y.f1 ≤ 3 := by
  unfold pOp at h
  simp only [pIn, Bool.and_eq_true, decide_eq_true_eq] at h
  exact h.1
theorem iCan_ev (l : List S121) (a : Int) (r s n : List Int) (h : l.length ≤ 1048576) (h1 : r.length ≤ 1048576) (h2 : s.length ≤ 1048576) (h3 : n.length ≤ 1048576) : Ev (fun k => impl_canStep.f k l a r s n) (pCan l a r s n) := by
  unfold impl_canStep.f pCan
  exact Ev.and (iIsScript_ev l h) fun _ => Ev.and (iIsState_ev a r s n h1 h2 h3) fun _ => Ev.now _
def pClamp (v : Int) : Int := mx 0 (mn 999 v)
theorem pClamp_in (v : Int) : 0 ≤ pClamp v ∧ pClamp v ≤ 999 := by
  unfold pClamp mx mn
  constructor <;> (split <;> split <;> omega)
theorem pClamp_impl (v : Int) : mn (mx v 0) 999 = pClamp v := by
  unfold pClamp mx mn
  split <;> split <;> split <;> (try split) <;> omega
def pStep (l : List S121) (a : Int) (r s n : List Int) (v : Int) : Int × List Int × List Int × List Int :=
  if pCan l a r s n = true then (
    if (rd_T121 l a).f0 = 5 then (wrap64 (a + 1), r.set (rd_T121 l a).f1.toNat (Int.tmod (wrap64 (rd r (rd_T121 l a).f2 + rd r (rd_T121 l a).f3)) 1000), s, n)
    else if (rd_T121 l a).f0 = 6 then (wrap64 (a + 1), r, s, n.set (rd_T121 l a).f2.toNat (rd r (rd_T121 l a).f1))
    else if (rd_T121 l a).f0 = 7 then (if Int.tmod (rd r (rd_T121 l a).f1) 2 = 0 then (wrap64 (wrap64 (a + 1) + (rd_T121 l a).f2), r, s, n) else (wrap64 (a + 1), r, s, n))
    else if (rd_T121 l a).f0 = 8 then (wrap64 (a + 1), r.set (rd_T121 l a).f1.toNat (rd s (rd_T121 l a).f2), s, n)
    else if (rd_T121 l a).f0 = 9 then (wrap64 (a + 1), r, s.set (rd_T121 l a).f2.toNat (rd r (rd_T121 l a).f1), n)
    else (wrap64 (a + 1), r.set (rd_T121 l a).f1.toNat (pClamp v), s, n)) else (a, r, s, n)
theorem pStep_len (l : List S121) (a : Int) (r s n : List Int) (v : Int) : (pStep l a r s n v).2.1.length = r.length ∧ (pStep l a r s n v).2.2.1.length = s.length ∧ (pStep l a r s n v).2.2.2.length = n.length := by
  unfold pStep
  repeat' split
  all_goals simp only [List.length_set, and_self]
theorem pOp_5 {y : S121} (h : pOp y = true) (c : y.f0 = 5) : 0 ≤ y.f2 ∧ y.f2 ≤ 3 ∧ 0 ≤ y.f3 ∧ y.f3 ≤ 3 := by
  unfold pOp at h
  rw [if_neg (by omega), if_neg (by omega), if_pos c] at h
  simp only [pIn, Bool.and_eq_true, decide_eq_true_eq] at h
  omega
theorem pOp_6 {y : S121} (h : pOp y = true) (c : y.f0 = 6) : 0 ≤ y.f2 ∧ y.f2 ≤ 3 := by
  unfold pOp at h
  rw [if_neg (by omega), if_neg (by omega), if_neg (by omega), if_pos c] at h
  simp only [pIn, Bool.and_eq_true, decide_eq_true_eq] at h
  omega
theorem pOp_7 {y : S121} (h : pOp y = true) (c : y.f0 = 7) : 1 ≤ y.f2 ∧ y.f2 ≤ 3 := by
  unfold pOp at h
  rw [if_neg (by omega), if_neg (by omega), if_neg (by omega), if_neg (by omega), if_pos c] at h
  simp only [pIn, Bool.and_eq_true, decide_eq_true_eq] at h
  omega
theorem pOp_8 {y : S121} (h : pOp y = true) (c : y.f0 = 8) : 0 ≤ y.f2 ∧ y.f2 ≤ 2 := by
  unfold pOp at h
  rw [if_neg (by omega), if_neg (by omega), if_neg (by omega), if_neg (by omega), if_neg (by omega), if_pos c] at h
  simp only [pIn, Bool.and_eq_true, decide_eq_true_eq] at h
  omega
theorem pOp_9 {y : S121} (h : pOp y = true) (c : y.f0 = 9) : 0 ≤ y.f2 ∧ y.f2 ≤ 2 := by
  unfold pOp at h
  rw [if_neg (by omega), if_neg (by omega), if_neg (by omega), if_neg (by omega), if_neg (by omega), if_neg (by omega), if_pos c] at h
  simp only [pIn, Bool.and_eq_true, decide_eq_true_eq] at h
  omega
theorem iCopy_eq (a : Int) (r s n : List Int) (h1 : r.length ≤ 1048576) (h2 : s.length ≤ 1048576) (h3 : n.length ≤ 1048576) : impl_copyState.f a r s n = some (a, r, s, n) := by
  simp only [impl_copyState.f, slices_Clone_int_int.f, Option.bind_some, List.nil_append, List.length_nil]
  rw [if_pos (by omega), if_pos (by omega), if_pos (by omega)]
  rfl
theorem iStep_ev (l : List S121) (a : Int) (r s n : List Int) (v : Int) (h : l.length ≤ 1048576) (h1 : r.length ≤ 1048576) (h2 : s.length ≤ 1048576) (h3 : n.length ≤ 1048576) : Ev (fun k => impl_StepState.f k l a r s n v) (pStep l a r s n v) := by
  unfold impl_StepState.f
  refine Ev.now_bind (iCopy_eq a r s n h1 h2 h3) ?_
  refine Ev.bind (iCan_ev l a r s n h h1 h2 h3) ?_
  dsimp only
  unfold pStep
  by_cases c : pCan l a r s n = true
  · obtain ⟨f1, f2, f3, f4, f5, f6, f7, f8, f9, f10, f11⟩ := pCan_facts c
    have ho : pOp (rd_T121 l a) = true := f9 _ (getD_mem l a.toNat (by omega) z121)
    have hr := pOp_reg ho
    refine Ev.rpos c ?_
    refine Ev.pos c ?_
    refine Ev.pos f1 ?_
    refine Ev.pos f2 ?_
    refine Ev.ite (fun c5 => ?_) (fun c5 => ?_)
    · have ha := pOp_5 ho c5
      refine Ev.pos ha.1 ?_
      refine Ev.pos (by omega) ?_
      refine Ev.pos ha.2.2.1 ?_
      refine Ev.pos (by omega) ?_
      refine Ev.pos hr.1 ?_
      refine Ev.pos (by omega) ?_
      exact Ev.now _
    refine Ev.ite (fun c6 => ?_) (fun c6 => ?_)
    · have ha := pOp_6 ho c6
      refine Ev.pos hr.1 ?_
      refine Ev.pos (by omega) ?_
      refine Ev.pos ha.1 ?_
      refine Ev.pos (by omega) ?_
      exact Ev.now _
    refine Ev.ite (fun c7 => ?_) (fun c7 => ?_)
    · refine Ev.pos hr.1 ?_
      refine Ev.pos (by omega) ?_
      exact Ev.ite (fun _ => Ev.now _) (fun _ => Ev.now _)
    refine Ev.ite (fun c8 => ?_) (fun c8 => ?_)
    · have ha := pOp_8 ho c8
      refine Ev.pos ha.1 ?_
      refine Ev.pos (by omega) ?_
      refine Ev.pos hr.1 ?_
      refine Ev.pos (by omega) ?_
      exact Ev.now _
    refine Ev.ite (fun c9 => ?_) (fun c9 => ?_)
    · have ha := pOp_9 ho c9
      refine Ev.pos hr.1 ?_
      refine Ev.pos (by omega) ?_
      refine Ev.pos ha.1 ?_
      refine Ev.pos (by omega) ?_
      exact Ev.now _
    refine Ev.pos hr.1 ?_
    refine Ev.pos (by omega) ?_
    rw [← pClamp_impl v]
    exact Ev.now _
  · refine Ev.rneg c ?_
    exact Ev.neg c (Ev.now _)
def pAsks (k : Int) : Bool := decide (1 ≤ k) && decide (k ≤ 4)
theorem iAsks_eq (k : Int) : impl_Asks.f k = some (pAsks k) := by
  unfold impl_Asks.f pAsks
  rw [InRange_eq]
  rfl
def pWant (l : List S121) (a : Int) (r s n : List Int) : Int × Int × Int × Int :=
  if pCan l a r s n = true ∧ pAsks (rd_T121 l a).f0 = true then (if (rd_T121 l a).f0 = 1 then ((rd_T121 l a).f0, (rd_T121 l a).f2, (rd_T121 l a).f3, Int.tmod (rd r (rd_T121 l a).f1) 100) else ((rd_T121 l a).f0, 0, 0, 0)) else (0, 0, 0, 0)
theorem iWant_ev (l : List S121) (a : Int) (r s n : List Int) (h : l.length ≤ 1048576) (h1 : r.length ≤ 1048576) (h2 : s.length ≤ 1048576) (h3 : n.length ≤ 1048576) : Ev (fun k => impl_WantOf.f k l a r s n) (pWant l a r s n) := by
  unfold impl_WantOf.f pWant
  refine Ev.bind (iCan_ev l a r s n h h1 h2 h3) ?_
  have hj : Ev (fun k => impl_WantOf.j0 k l true a r s n) (0, 0, 0, 0) := by
    refine Ev.round (fun _ => by rw [impl_WantOf.j0]) ?_
    refine Ev.pos rfl ?_
    exact Ev.now _
  cases hc : pCan l a r s n with
  | false => exact Ev.neg (by simp) (Ev.cast hj (by simp))
  | true =>
    obtain ⟨f1, f2, f3, f4, f5, f6, f7, f8, f9, _, _⟩ := pCan_facts hc
    refine Ev.pos rfl ?_
    refine Ev.pos f1 ?_
    refine Ev.pos f2 ?_
    refine Ev.now_bind (iAsks_eq _) ?_
    cases hk : pAsks (rd_T121 l a).f0 with
    | false => exact Ev.cast hj (by simp)
    | true =>
      have hr := pOp_reg (f9 _ (getD_mem l a.toNat (by omega) z121))
      have hr' : 0 ≤ (rd_T121 l a).f1 ∧ (rd_T121 l a).f1 ≤ 3 := hr
      rw [if_pos ⟨rfl, rfl⟩]
      refine Ev.round (fun _ => by rw [impl_WantOf.j0]) ?_
      refine Ev.neg (by simp) ?_
      refine Ev.pos f1 ?_
      refine Ev.pos f2 ?_
      refine Ev.ite (fun _ => ?_) (fun _ => Ev.now _)
      exact Ev.pos hr'.1 (Ev.pos (by omega) (Ev.now _))
theorem iStart_eq : impl_StartState.f = some (0, [0, 0, 0, 0], [0, 0, 0], [0, 0, 0, 0]) := rfl
theorem iEqualInts_ev (a b : List Int) (h : a.length ≤ 1048576) : Ev (fun k => slices_Equal_int_int.f k a b) (decide (a = b)) := by
  unfold slices_Equal_int_int.f
  by_cases hl : a.length = b.length
  · refine Ev.pos (by omega) ?_
    rw [← zip_all_eq a b hl]
    refine ev_all2 (fun k i => slices_Equal_int_int.l0 k a b (a.length : Int) i) a b 0 (fun x y => decide (x = y)) hl (fun k => by rw [slices_Equal_int_int.l0, if_neg (by omega)]) ?_ ?_
    · intro i hi hp r hr
      have e1 : wrap64 ((i : Int) + 1) = ((i + 1 : Nat) : Int) := by rw [w64 (by omega) (by omega)]; omega
      refine Ev.round (fun _ => by rw [slices_Equal_int_int.l0]) ?_
      refine Ev.pos (by omega) ?_
      refine Ev.pos (by omega) ?_
      refine Ev.pos (by omega) ?_
      refine Ev.pos (by omega) ?_
      refine Ev.pos ?_ ?_
      · rw [rd_nat, rd_nat]; exact of_decide_eq_true hp
      · simp only [e1]; exact hr
    · intro i hi hp
      refine Ev.round (fun _ => by rw [slices_Equal_int_int.l0]) ?_
      refine Ev.pos (by omega) ?_
      refine Ev.pos (by omega) ?_
      refine Ev.pos (by omega) ?_
      refine Ev.pos (by omega) ?_
      refine Ev.neg ?_ (Ev.now _)
      rw [rd_nat, rd_nat]; exact of_decide_eq_false hp
  · have hne : a ≠ b := fun e => hl (by rw [e])
    rw [decide_eq_false hne]
    exact Ev.neg (by omega) (Ev.now _)
def pEqStates (a : Int) (r s n : List Int) (b : Int) (r' s' n' : List Int) : Bool := decide (a = b) && (decide (r = r') && (decide (s = s') && decide (n = n')))
theorem iEqualStates_ev (a : Int) (r s n : List Int) (b : Int) (r' s' n' : List Int) (h1 : r.length ≤ 1048576) (h2 : s.length ≤ 1048576) (h3 : n.length ≤ 1048576) : Ev (fun k => impl_EqualStates.f k a r s n b r' s' n') (pEqStates a r s n b r' s' n') := by
  unfold impl_EqualStates.f pEqStates
  exact Ev.if_and fun _ => Ev.and (iEqualInts_ev r r' h1) fun _ => Ev.and (iEqualInts_ev s s' h2) fun _ => Ev.id (iEqualInts_ev n n' h3)
theorem iIsAddress_eq (h p q : Int) : impl_IsAddress.f h p q = some (pAddr h p q) := by
  simp only [impl_IsAddress.f, InRange_eq, Option.bind_some, some_and]
theorem pOp_kind {y : S121} (h : pOp y = true) : 1 ≤ y.f0 ∧ y.f0 ≤ 9 := by
  unfold pOp at h
  simp only [Bool.and_eq_true] at h
  have h2 := h.2
  by_cases h1 : y.f0 = 1
  · omega
  rw [if_neg h1] at h2
  by_cases h2' : y.f0 = 2 ∨ y.f0 = 3 ∨ y.f0 = 4
  · omega
  rw [if_neg h2'] at h2
  by_cases h5 : y.f0 = 5
  · omega
  rw [if_neg h5] at h2
  by_cases h6 : y.f0 = 6
  · omega
  rw [if_neg h6] at h2
  by_cases h7 : y.f0 = 7
  · omega
  rw [if_neg h7] at h2
  by_cases h8 : y.f0 = 8
  · omega
  rw [if_neg h8] at h2
  by_cases h9 : y.f0 = 9
  · omega
  rw [if_neg h9] at h2
  simp at h2
theorem rd_in {l : List Int} (h : ∀ y ∈ l, 0 ≤ y ∧ y ≤ 999) (i : Int) : 0 ≤ rd l i ∧ rd l i ≤ 999 := by
  unfold rd
  rw [List.getD_eq_getElem?_getD]
  cases e : l[i.toNat]? with
  | none => simp
  | some y => exact h y (List.mem_of_getElem? e)
theorem Ev.ite_to {α : Type} {c : Prop} [Decidable c] {A B : Nat → Option α} {r : α} (k : c → Ev A r) (l : ¬ c → Ev B r) : Ev (fun n => if c then A n else B n) r := by
  by_cases h : c
  · exact Ev.pos h (k h)
  · exact Ev.neg h (l h)
theorem set_in {l : List Int} (h : ∀ y ∈ l, 0 ≤ y ∧ y ≤ 999) (i : Nat) {x : Int} (hx : 0 ≤ x ∧ x ≤ 999) : ∀ y ∈ l.set i x, 0 ≤ y ∧ y ≤ 999 := by
  intro y hy
  rcases List.mem_or_eq_of_mem_set hy with h1 | h1
  · exact h y h1
  · omega
theorem tmod_in (m : Int) (h : 0 ≤ m) : 0 ≤ Int.tmod m 1000 ∧ Int.tmod m 1000 ≤ 999 := by
  rw [Int.tmod_eq_emod_of_nonneg h]
  omega
theorem pState_mk {a : Int} {r s n : List Int} (ha : 0 ≤ a ∧ a ≤ 19) (h1 : r.length = 4) (h2 : s.length = 3) (h3 : n.length = 4) (k1 : ∀ y ∈ r, 0 ≤ y ∧ y ≤ 999) (k2 : ∀ y ∈ s, 0 ≤ y ∧ y ≤ 999) (k3 : ∀ y ∈ n, 0 ≤ y ∧ y ≤ 999) : pState a r s n = true := by
  unfold pState
  simp only [pIn, Bool.and_eq_true, decide_eq_true_eq, List.all_eq_true, beq_iff_eq]
  exact ⟨ha, ⟨k1, by omega⟩, ⟨k2, by omega⟩, k3, by omega⟩
theorem pStep_ok (l : List S121) (a : Int) (r s n : List Int) (v : Int) (hc : pCan l a r s n = true) : pState (pStep l a r s n v).1 (pStep l a r s n v).2.1 (pStep l a r s n v).2.2.1 (pStep l a r s n v).2.2.2 = true ∧ a < (pStep l a r s n v).1 ∧ (pStep l a r s n v).1 ≤ a + 4 := by
  obtain ⟨f1, f2, f3, f4, f5, f6, f7, f8, f9, f10, f11⟩ := pCan_facts hc
  have ho : pOp (rd_T121 l a) = true := f9 _ (getD_mem l a.toNat (by omega) z121)
  have ew : wrap64 (a + 1) = a + 1 := w64 (by omega) (by omega)
  unfold pStep
  rw [if_pos hc]
  generalize rd_T121 l a = y at ho
  by_cases c5 : y.f0 = 5
  · rw [if_pos c5, ew]
    have g1 := rd_in f6 y.f2
    have g2 := rd_in f6 y.f3
    refine ⟨pState_mk (by dsimp only; omega) (by simpa using f3) f4 f5 (set_in f6 _ (tmod_in _ ?_)) f7 f8, by dsimp only; omega, by dsimp only; omega⟩
    rw [w64 (by omega) (by omega)]
    omega
  rw [if_neg c5]
  by_cases c6 : y.f0 = 6
  · rw [if_pos c6, ew]
    exact ⟨pState_mk (by dsimp only; omega) f3 f4 (by simpa using f5) f6 f7 (set_in f8 _ (rd_in f6 _)), by dsimp only; omega, by dsimp only; omega⟩
  rw [if_neg c6]
  by_cases c7 : y.f0 = 7
  · have g := pOp_7 ho c7
    rw [if_pos c7, ew]
    by_cases c : Int.tmod (rd r y.f1) 2 = 0
    · rw [if_pos c, w64 (by omega) (by omega)]
      exact ⟨pState_mk (by dsimp only; omega) f3 f4 f5 f6 f7 f8, by dsimp only; omega, by dsimp only; omega⟩
    · rw [if_neg c]
      exact ⟨pState_mk (by dsimp only; omega) f3 f4 f5 f6 f7 f8, by dsimp only; omega, by dsimp only; omega⟩
  rw [if_neg c7]
  by_cases c8 : y.f0 = 8
  · rw [if_pos c8, ew]
    exact ⟨pState_mk (by dsimp only; omega) (by simpa using f3) f4 f5 (set_in f6 _ (rd_in f7 _)) f7 f8, by dsimp only; omega, by dsimp only; omega⟩
  rw [if_neg c8]
  by_cases c9 : y.f0 = 9
  · rw [if_pos c9, ew]
    exact ⟨pState_mk (by dsimp only; omega) f3 (by simpa using f4) f5 f6 (set_in f7 _ (rd_in f6 _)) f8, by dsimp only; omega, by dsimp only; omega⟩
  rw [if_neg c9, ew]
  exact ⟨pState_mk (by dsimp only; omega) (by simpa using f3) f4 f5 (set_in f6 _ (pClamp_in v)) f7 f8, by dsimp only; omega, by dsimp only; omega⟩
theorem pWant_ok (l : List S121) (a : Int) (r s n : List Int) (hc : pCan l a r s n = true) (h : 0 < (pWant l a r s n).1) : pAsks (pWant l a r s n).1 = true ∧ ((pWant l a r s n).1 = 1 → pAddr (pWant l a r s n).2.1 (pWant l a r s n).2.2.1 (pWant l a r s n).2.2.2 = true) := by
  obtain ⟨f1, f2, f3, f4, f5, f6, f7, f8, f9, f10, f11⟩ := pCan_facts hc
  have ho : pOp (rd_T121 l a) = true := f9 _ (getD_mem l a.toNat (by omega) z121)
  unfold pWant at h ⊢
  generalize rd_T121 l a = y at ho h ⊢
  by_cases c : pCan l a r s n = true ∧ pAsks y.f0 = true
  · rw [if_pos c] at h ⊢
    by_cases c1 : y.f0 = 1
    · rw [if_pos c1] at h ⊢
      refine ⟨c.2, fun _ => ?_⟩
      have g := rd_in f6 y.f1
      have hg : 0 ≤ Int.tmod (rd r y.f1) 100 ∧ Int.tmod (rd r y.f1) 100 ≤ 99 := by
        rw [Int.tmod_eq_emod_of_nonneg g.1]
        omega
      unfold pOp at ho
      rw [if_pos c1] at ho
      unfold pAddr
      simp only [pIn, Bool.and_eq_true, decide_eq_true_eq] at ho ⊢
      exact ⟨ho.2.1, ho.2.2, hg⟩
    · rw [if_neg c1] at h ⊢
      exact ⟨c.2, fun e => absurd e c1⟩
  · rw [if_neg c] at h
    exact absurd h (by simp)
theorem pStep_one (l : List S121) (a : Int) (r s n : List Int) (v u : Int) (h : (pWant l a r s n).1 = 0) : pStep l a r s n v = pStep l a r s n u := by
  by_cases hc : pCan l a r s n = true
  · obtain ⟨f1, f2, f3, f4, f5, f6, f7, f8, f9, f10, f11⟩ := pCan_facts hc
    have ho : pOp (rd_T121 l a) = true := f9 _ (getD_mem l a.toNat (by omega) z121)
    unfold pWant at h
    unfold pStep
    rw [if_pos hc, if_pos hc]
    generalize rd_T121 l a = y at ho h ⊢
    have hk : ¬ (1 ≤ y.f0 ∧ y.f0 ≤ 4) := by
      intro hk
      have e : pAsks y.f0 = true := by unfold pAsks; simp; omega
      rw [if_pos ⟨hc, e⟩] at h
      split at h
      · dsimp only at h; omega
      · dsimp only at h; omega
    have hkind : 1 ≤ y.f0 ∧ y.f0 ≤ 9 := pOp_kind ho
    repeat' split
    all_goals first | rfl | omega
  · unfold pStep
    rw [if_neg hc, if_neg hc]
theorem FnMachine (l0 : List Int) (h0 : (l0.length ≤ maxLen ∧ ∀ e_ ∈ l0, (Lit.int .u8 e_).wf = true)) : ∃ k, laws_FnMachine.f k l0 = some true := by
  refine Ev.rounds ?_
  unfold laws_FnMachine.f laws_big.f
  refine Ev.now_bind rfl ?_
  by_cases hb : (l0.length : Int) > 1048576
  · exact Ev.pos (by simpa using hb) (Ev.now _)
  have hlen : l0.length ≤ 1048576 := by omega
  refine Ev.neg (by simpa using hb) ?_
  refine Any.then_ (drawStepState_any l0 hlen) ?_
  intro x hx
  obtain ⟨l, a, r, s, n, v⟩ := x
  obtain ⟨h0, h1, h2, h3⟩ := hx
  dsimp only at h0 h1 h2 h3 ⊢
  have hl : l.length ≤ 1048576 := by omega
  refine Ev.bind (iStep_ev l a r s n v hl h1 h2 h3) ?_
  refine Ev.bind (iWant_ev l a r s n hl h1 h2 h3) ?_
  refine Ev.bind (iIsScript_ev l hl) ?_
  have no : pCan l a r s n = false → Ev (fun k => laws_FnMachine.j0 k l true a r s n (pStep l a r s n v).1 (pStep l a r s n v).2.1 (pStep l a r s n v).2.2.1 (pStep l a r s n v).2.2.2 (pWant l a r s n).1 (pWant l a r s n).2.1 (pWant l a r s n).2.2.1 (pWant l a r s n).2.2.2) true := by
    intro hc
    have e1 : pStep l a r s n v = (a, r, s, n) := by unfold pStep; rw [if_neg (by rw [hc]; simp)]
    have e2 : pWant l a r s n = (0, 0, 0, 0) := by unfold pWant; rw [if_neg (by rw [hc]; simp)]
    rw [e1, e2]
    refine Ev.round (fun _ => by rw [laws_FnMachine.j0]) ?_
    refine Ev.pos rfl ?_
    refine Ev.bind (iEqualStates_ev a r s n a r s n h1 h2 h3) ?_
    refine Ev.pos (by unfold pEqStates; simp) ?_
    exact Ev.now _
  refine Ev.ite_to (fun cs => ?_) (fun cs => ?_)
  · refine Ev.bind (iIsState_ev a r s n h1 h2 h3) ?_
    refine Ev.ite_to (fun ct => ?_) (fun ct => ?_)
    · refine Ev.now_bind rfl ?_
      by_cases cd : a < (l.length : Int)
      · have hc : pCan l a r s n = true := by unfold pCan; rw [cs, ct, decide_eq_true cd]; rfl
        rw [show decide (a ≥ (l.length : Int)) = false from decide_eq_false (by omega)]
        obtain ⟨f1, f2, f3, f4, f5, f6, f7, f8, f9, f10, f11⟩ := pCan_facts hc
        obtain ⟨q1, q2, q3⟩ := pStep_ok l a r s n v hc
        have hz := pStep_len l a r s n v
        have hz7 := pStep_len l a r s n 7
        have hw := pWant_ok l a r s n hc
        have hone := pStep_one l a r s n v 7
        have hs7 := iStep_ev l a r s n 7 hl h1 h2 h3
        generalize pStep l a r s n v = z at q1 q2 q3 hz hone
        generalize pWant l a r s n = w at hw hone
        have z1 : z.2.1.length ≤ 1048576 := by omega
        have z2 : z.2.2.1.length ≤ 1048576 := by omega
        have z3 : z.2.2.2.length ≤ 1048576 := by omega
        have hj2 : Ev (fun k => laws_FnMachine.j2 k false a r s n) true := by
          refine Ev.round (fun _ => by rw [laws_FnMachine.j2]) ?_
          refine Ev.neg (by simp) ?_
          refine Ev.now_bind iStart_eq ?_
          refine Ev.bind (iIsState_ev _ _ _ _ (by simp) (by simp) (by simp)) ?_
          refine Ev.pos rfl ?_
          refine Ev.bind (iEqualStates_ev a r s n a r s n h1 h2 h3) ?_
          refine Ev.cast (Ev.now _) ?_
          unfold pEqStates
          simp
        refine Ev.round (fun _ => by rw [laws_FnMachine.j0]) ?_
        refine Ev.neg (by simp) ?_
        refine Ev.bind (iIsState_ev z.1 z.2.1 z.2.2.1 z.2.2.2 z1 z2 z3) ?_
        refine Ev.pos q1 ?_
        refine Ev.neg (by omega) ?_
        rw [show decide (z.1 > wrap64 (a + 4)) = false from decide_eq_false (by rw [w64 (by omega) (by omega)]; omega)]
        refine Ev.round (fun _ => by rw [laws_FnMachine.j1]) ?_
        refine Ev.neg (by simp) ?_
        have hrest : 0 < w.1 → Ev (fun k => if w.1 > 0 then ((impl_Asks.f w.1).bind fun t495 => (if t495 = true then (if w.1 = 1 then ((impl_IsAddress.f w.2.1 w.2.2.1 w.2.2.2).bind fun t496 => (laws_FnMachine.j2 k (!t496) a r s n)) else (laws_FnMachine.j2 k false a r s n)) else (laws_FnMachine.j2 k true a r s n))) else (if w.1 = 1 then ((impl_IsAddress.f w.2.1 w.2.2.1 w.2.2.2).bind fun t497 => (laws_FnMachine.j2 k (!t497) a r s n)) else (laws_FnMachine.j2 k false a r s n))) true := by
          intro h
          have hk := hw h
          refine Ev.pos h ?_
          refine Ev.now_bind (iAsks_eq _) ?_
          refine Ev.pos hk.1 ?_
          refine Ev.ite_to (fun c1 => ?_) (fun _ => hj2)
          refine Ev.now_bind (iIsAddress_eq _ _ _) ?_
          rw [hk.2 c1]
          exact hj2
        refine Ev.ite_to (fun c0 => ?_) (fun c0 => ?_)
        · refine Ev.bind hs7 ?_
          have e7 := hone c0
          rw [← e7]
          refine Ev.bind (iEqualStates_ev _ _ _ _ _ _ _ _ z1 z2 z3) ?_
          refine Ev.pos (by unfold pEqStates; simp) ?_
          refine Ev.neg (by omega) ?_
          refine Ev.neg (by omega) ?_
          exact hj2
        · by_cases cp : 0 < w.1
          · exact hrest cp
          · refine Ev.neg cp ?_
            by_cases c1 : w.1 = 1
            · omega
            · refine Ev.neg c1 ?_
              exact hj2
      · have hc : pCan l a r s n = false := by unfold pCan; rw [decide_eq_false cd]; simp
        rw [show decide (a ≥ (l.length : Int)) = true from decide_eq_true (by omega)]
        exact no hc
    · exact no (by unfold pCan; rw [eq_false_of_ne_true ct]; simp)
  · exact no (by unfold pCan; rw [eq_false_of_ne_true cs]; simp)
end Go.Proofs.Ytgcamebeonodeaa.Pure
