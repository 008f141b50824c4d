/- FnScripts: whatever bytes a script and a kind are drawn from, the count of the asking steps is CountAsks, ScriptInts has four numbers a step, and every step of a valid script, and every asking kind, has a name. No condition. -/
import Derived.Test.YtcjhkpggdgjpaaaStdFnScripts
namespace Go.Proofs.Ytcjhkpggdgjpaaa.Pure
open Go.RowKit Go.Proofs.Ytcjhkpggdgjpaaa.MFnScripts Go.Proofs.YtcjhkpggdgjpaaaW.PrintWords Go.Proofs.YtcjhkpggdgjpaaaW.PrintLast Go.Proofs.YtcjhkpggdgjpaaaW.PrintMore Go.Proofs.Ytcjhkpggdgjpaaa.Gen
set_option linter.unusedVariables false
set_option linter.unusedSimpArgs false


/-- A cursor that stands in its bytes or behind them. -/
def Cur (b : List Int) (i : Int) : Prop := b.length ≤ 1048576 ∧ 0 ≤ i ∧ i ≤ (b.length : Int)
theorem and255 (v : Int) : 0 ≤ Go.bits .and .i64 v 255 ∧ Go.bits .and .i64 v 255 ≤ 255 := by
  have hle : (BitVec.ofInt IntKind.i64.bits v &&& BitVec.ofInt IntKind.i64.bits 255).toNat ≤ 255 := by
    rw [BitVec.toNat_and]
    exact Nat.le_trans Nat.and_le_right (by decide)
  have e : Go.bits .and .i64 v 255 = (((BitVec.ofInt IntKind.i64.bits v &&& BitVec.ofInt IntKind.i64.bits 255).toNat : Nat) : Int) := by
    simp only [Go.bits]
    rw [IntKind.wrap_i64]
    omega
  rw [e]
  omega
theorem l1New_ev (b : List Int) (hb : b.length ≤ 1048576) : ∃ h, Ev (fun k => spec_l1New.f k b) (b, 0, h) := by
  unfold spec_l1New.f
  have key : ∀ d i : Nat, i + d = b.length → ∀ h : Int, ∃ g, Ev (fun k => spec_l1New.l0 k b h (i : Int)) (b, 0, g) := by
    intro d
    induction d with
    | zero =>
      intro i hi h
      refine ⟨h, ?_⟩
      refine Ev.round (fun _ => by rw [spec_l1New.l0]) ?_
      refine Ev.neg (by omega) ?_
      exact Ev.now _
    | succ d ih =>
      intro i hi h
      by_cases h4 : (i : Int) < 4000
      · have e1 : wrap64 ((i : Int) + 1) = ((i + 1 : Nat) : Int) := by rw [w64 (by omega) (by omega)]; omega
        obtain ⟨g, hg⟩ := ih (i + 1) (by omega) (Go.bits .and .i64 (wrap64 ((wrap64 ((wrap64 (h * 137)) + (wrap64 (rd b (i : Int))))) + 11)) 1073741823)
        refine ⟨g, ?_⟩
        refine Ev.round (fun _ => by rw [spec_l1New.l0]) ?_
        refine Ev.pos (by omega) ?_
        refine Ev.pos h4 ?_
        refine Ev.pos (by omega) ?_
        simp only [e1]
        exact hg
      · refine ⟨h, ?_⟩
        refine Ev.round (fun _ => by rw [spec_l1New.l0]) ?_
        refine Ev.pos (by omega) ?_
        refine Ev.neg h4 ?_
        exact Ev.now _
  exact key b.length 0 (by omega) _
theorem cur0 (b : List Int) (hb : b.length ≤ 1048576) : Cur b 0 := ⟨hb, by omega, by omega⟩
theorem l1Byte_some (b : List Int) (i h : Int) (c : Cur b i) : ∃ x j g, spec_l1Byte.f b i h = some (x, j, g) ∧ (0 ≤ x ∧ x ≤ 255) ∧ Cur b j := by
  obtain ⟨c1, c2, c3⟩ := c
  unfold spec_l1Byte.f
  by_cases hi : i < (b.length : Int)
  · rw [if_pos hi, if_pos c2]
    exact ⟨_, _, _, rfl, and255 _, c1, by rw [w64 (by omega) (by omega)]; omega, by rw [w64 (by omega) (by omega)]; omega⟩
  · rw [if_neg hi]
    exact ⟨_, _, _, rfl, and255 _, c1, c2, c3⟩
theorem l1Below_some (b : List Int) (i h n : Int) (c : Cur b i) : ∃ x j g, spec_l1Below.f b i h n = some (x, j, g) ∧ 0 ≤ x ∧ (0 < n → x < n) ∧ Cur b j := by
  unfold spec_l1Below.f
  by_cases h0 : n ≤ 0
  · rw [if_pos h0]
    exact ⟨0, i, h, rfl, by omega, by omega, c⟩
  rw [if_neg h0]
  by_cases h1 : n ≤ 256
  · rw [if_pos h1]
    obtain ⟨x, j, g, e, b1, cj⟩ := l1Byte_some b i h c
    rw [e]
    simp only [Option.bind_some]
    rw [if_neg (by omega)]
    refine ⟨_, _, _, rfl, ?_, ?_, cj⟩
    · rw [Int.tmod_eq_emod_of_nonneg b1.1]
      exact Int.emod_nonneg _ (by omega)
    · intro hn
      rw [Int.tmod_eq_emod_of_nonneg b1.1]
      exact Int.emod_lt_of_pos _ hn
  · rw [if_neg h1]
    obtain ⟨x, j, g, e, b1, cj⟩ := l1Byte_some b i h c
    obtain ⟨y, j2, g2, e2, b2, cj2⟩ := l1Byte_some b j g cj
    obtain ⟨z, j3, g3, e3, b3, cj3⟩ := l1Byte_some b j2 g2 cj2
    rw [e]
    simp only [Option.bind_some]
    rw [e2]
    simp only [Option.bind_some]
    rw [e3]
    simp only [Option.bind_some]
    rw [if_neg (by omega)]
    have hv : 0 ≤ wrap64 (wrap64 (wrap64 (x * 65536) + wrap64 (y * 256)) + z) := by
      rw [w64 (n := x * 65536) (by omega) (by omega), w64 (n := y * 256) (by omega) (by omega), w64 (n := x * 65536 + y * 256) (by omega) (by omega), w64 (by omega) (by omega)]
      omega
    refine ⟨_, _, _, rfl, ?_, ?_, cj3⟩
    · rw [Int.tmod_eq_emod_of_nonneg hv]
      exact Int.emod_nonneg _ (by omega)
    · intro hn
      rw [Int.tmod_eq_emod_of_nonneg hv]
      exact Int.emod_lt_of_pos _ hn
theorem l1Below_lt (b : List Int) (i h n : Int) (hn : 0 < n) (c : Cur b i) : ∃ x j g, spec_l1Below.f b i h n = some (x, j, g) ∧ (0 ≤ x ∧ x < n) ∧ Cur b j := by
  obtain ⟨x, j, g, e, h0, h1, cj⟩ := l1Below_some b i h n c
  exact ⟨x, j, g, e, ⟨h0, h1 hn⟩, cj⟩
theorem l1Once_some (b : List Int) (i h n : Int) (c : Cur b i) : ∃ x j g, spec_l1Once.f b i h n = some (x, j, g) ∧ Cur b j := by
  obtain ⟨x, j, g, e, _, _, cj⟩ := l1Below_some b i h n c
  unfold spec_l1Once.f
  rw [e]
  exact ⟨_, _, _, rfl, cj⟩
theorem l10Op_ev (b : List Int) (i h : Int) (c : Cur b i) : ∃ y0 y1 y2 y3 j g, Ev (fun k => spec_l10Op.f k b i h) (y0, y1, y2, y3, j, g) ∧ Cur b j := by
  have hj : ∀ (i h k0 a : Int), Cur b i → ∃ y0 y1 y2 y3 j g, Ev (fun k => spec_l10Op.j0 k b i h k0 a 0 0) (y0, y1, y2, y3, j, g) ∧ Cur b j := by
    intro i h k0 a c
    obtain ⟨x, j, g, e, hx, cj⟩ := l1Below_lt b i h 3 (by omega) c
    obtain ⟨x2, j2, g2, e2, hx2, cj2⟩ := l1Below_lt b j g 3 (by omega) cj
    obtain ⟨z, m, n, e3, hx3, cm⟩ := l1Below_lt b i h 4 (by omega) c
    obtain ⟨z2, m2, n2, e4, hx4, cm2⟩ := l1Below_lt b m n 4 (by omega) cm
    by_cases h1 : k0 = 1
    · iterate 6 apply Exists.intro
      refine ⟨?_, cj2⟩
      refine Ev.round (fun _ => by rw [spec_l10Op.j0]) ?_
      refine Ev.pos h1 ?_
      refine Ev.now_bind e ?_
      refine Ev.now_bind e2 ?_
      exact Ev.now _
    by_cases h5 : k0 = 5
    · iterate 6 apply Exists.intro
      refine ⟨?_, cm2⟩
      refine Ev.round (fun _ => by rw [spec_l10Op.j0]) ?_
      refine Ev.neg h1 ?_
      refine Ev.pos h5 ?_
      refine Ev.now_bind e3 ?_
      refine Ev.now_bind e4 ?_
      exact Ev.now _
    by_cases h6 : k0 = 6
    · iterate 6 apply Exists.intro
      refine ⟨?_, cm⟩
      refine Ev.round (fun _ => by rw [spec_l10Op.j0]) ?_
      refine Ev.neg h1 ?_
      refine Ev.neg h5 ?_
      refine Ev.pos h6 ?_
      refine Ev.now_bind e3 ?_
      exact Ev.now _
    by_cases h7 : k0 = 7
    · iterate 6 apply Exists.intro
      refine ⟨?_, cj⟩
      refine Ev.round (fun _ => by rw [spec_l10Op.j0]) ?_
      refine Ev.neg h1 ?_
      refine Ev.neg h5 ?_
      refine Ev.neg h6 ?_
      refine Ev.pos h7 ?_
      refine Ev.now_bind e ?_
      exact Ev.now _
    by_cases h8 : k0 = 8
    · iterate 6 apply Exists.intro
      refine ⟨?_, cj⟩
      refine Ev.round (fun _ => by rw [spec_l10Op.j0]) ?_
      refine Ev.neg h1 ?_
      refine Ev.neg h5 ?_
      refine Ev.neg h6 ?_
      refine Ev.neg h7 ?_
      refine Ev.pos h8 ?_
      refine Ev.now_bind e ?_
      exact Ev.now _
    by_cases h9 : k0 = 9
    · iterate 6 apply Exists.intro
      refine ⟨?_, cj⟩
      refine Ev.round (fun _ => by rw [spec_l10Op.j0]) ?_
      refine Ev.neg h1 ?_
      refine Ev.neg h5 ?_
      refine Ev.neg h6 ?_
      refine Ev.neg h7 ?_
      refine Ev.neg h8 ?_
      refine Ev.pos h9 ?_
      refine Ev.now_bind e ?_
      exact Ev.now _
    · iterate 6 apply Exists.intro
      refine ⟨?_, c⟩
      refine Ev.round (fun _ => by rw [spec_l10Op.j0]) ?_
      refine Ev.neg h1 ?_
      refine Ev.neg h5 ?_
      refine Ev.neg h6 ?_
      refine Ev.neg h7 ?_
      refine Ev.neg h8 ?_
      refine Ev.neg h9 ?_
      exact Ev.now _
  unfold spec_l10Op.f
  obtain ⟨x, j, g, e, hx, cj⟩ := l1Below_lt b i h 9 (by omega) c
  obtain ⟨x2, j2, g2, e2, hx2, cj2⟩ := l1Below_lt b j g 3 (by omega) cj
  obtain ⟨x3, j3, g3, e3, cj3⟩ := l1Once_some b j2 g2 3 cj2
  cases x3 with
  | true =>
    obtain ⟨y0, y1, y2, y3, j4, g4, ev, c4⟩ := hj j3 g3 1 x2 cj3
    refine ⟨y0, y1, y2, y3, j4, g4, ?_, c4⟩
    refine Ev.now_bind e ?_
    refine Ev.now_bind e2 ?_
    refine Ev.now_bind e3 ?_
    exact Ev.pos rfl ev
  | false =>
    obtain ⟨y0, y1, y2, y3, j4, g4, ev, c4⟩ := hj j3 g3 (wrap64 (1 + x)) x2 cj3
    refine ⟨y0, y1, y2, y3, j4, g4, ?_, c4⟩
    refine Ev.now_bind e ?_
    refine Ev.now_bind e2 ?_
    refine Ev.now_bind e3 ?_
    exact Ev.neg (by simp) ev
theorem l10Draw_ev (b : List Int) (i h : Int) (c : Cur b i) : ∃ l j g, Ev (fun k => spec_l10Draw.f k b i h) (l, j, g) ∧ l.length ≤ 12 ∧ Cur b j := by
  unfold spec_l10Draw.f
  obtain ⟨x, j, g, e, hx, cj⟩ := l1Below_lt b i h 13 (by omega) c
  have key : ∀ (d : Nat) (l : List S87) (i h : Int), Cur b i → d + l.length ≤ 12 → ∃ l' j g, Ev (fun k => spec_l10Draw.l0 k l (d : Int) b i h) (l', j, g) ∧ l'.length ≤ 12 ∧ Cur b j := by
    intro d
    induction d with
    | zero =>
      intro l i h c hl
      refine ⟨l, i, h, ?_, by omega, c⟩
      refine Ev.round (fun _ => by rw [spec_l10Draw.l0]) ?_
      refine Ev.neg (by omega) ?_
      exact Ev.now _
    | succ d ih =>
      intro l i h c hl
      obtain ⟨y0, y1, y2, y3, j, g, ev, cj⟩ := l10Op_ev b i h c
      obtain ⟨l', j', g', ev', hl', cj'⟩ := ih (l ++ [(⟨y0, y1, y2, y3⟩ : S87)]) j g cj (by simp; omega)
      refine ⟨l', j', g', ?_, hl', cj'⟩
      have e1 : wrap64 (((d + 1 : Nat) : Int) - 1) = (d : Int) := by rw [w64 (by omega) (by omega)]; omega
      refine Ev.round (fun _ => by rw [spec_l10Draw.l0]) ?_
      refine Ev.pos (by omega) ?_
      refine Ev.bind ev ?_
      refine Ev.pos (by omega) ?_
      simp only [e1]
      exact ev'
  obtain ⟨l', j', g', ev', hl', cj'⟩ := key x.toNat [] j g cj (by simp; omega)
  refine ⟨l', j', g', ?_, hl', cj'⟩
  refine Ev.now_bind e ?_
  rw [show (x.toNat : Int) = x by omega] at ev'
  exact ev'
theorem l1Int_some (b : List Int) (i h : Int) (l : List Int) (hl : 0 < l.length) (c : Cur b i) : ∃ x j g, spec_l1Int.f b i h l = some (x, j, g) ∧ x ∈ l ∧ Cur b j := by
  obtain ⟨x, j, g, e, hx, cj⟩ := l1Below_lt b i h (l.length : Int) (by omega) c
  unfold spec_l1Int.f
  rw [e]
  simp only [Option.bind_some]
  rw [if_pos hx.1, if_pos hx.2]
  refine ⟨_, _, _, rfl, ?_, cj⟩
  exact getD_mem l x.toNat (by omega) 0
theorem l4Raw_some (b : List Int) (i h : Int) (c : Cur b i) : ∃ x j g, spec_l4Raw.f b i h = some (x, j, g) ∧ (-9223372036854775808 ≤ x ∧ x ≤ 9223372036854775807) ∧ Cur b j := by
  unfold spec_l4Raw.f
  obtain ⟨x, j, g, e, hx, cj⟩ := l1Int_some b i h [-1, 0, 9, 10, 99, 100, 9223372036854775807, -9223372036854775808] (by simp) c
  rw [e]
  refine ⟨x, j, g, rfl, ?_, cj⟩
  simp only [List.mem_cons, List.not_mem_nil, or_false] at hx
  omega
theorem l10Any_ev (b : List Int) (i h : Int) (c : Cur b i) : ∃ l j g, Ev (fun k => spec_l10Any.f k b i h) (l, j, g) ∧ l.length ≤ 17 ∧ Cur b j := by
  unfold spec_l10Any.f
  obtain ⟨l, j, g, ev, hl, cj⟩ := l10Draw_ev b i h c
  by_cases h0 : l.length = 0
  · refine ⟨l, j, g, ?_, by omega, cj⟩
    refine Ev.bind ev ?_
    refine Ev.pos (by simp [h0]) ?_
    exact Ev.now _
  obtain ⟨x, j2, g2, e2, hx, cj2⟩ := l1Below_lt b j g (l.length : Int) (by omega) cj
  obtain ⟨y, j3, g3, e3, hy, cj3⟩ := l1Below_lt b j2 g2 12 (by omega) cj2
  obtain ⟨v1, m1, n1, f1, _, cm1⟩ := l1Int_some b j3 g3 [0, 10, 5] (by simp) cj3
  obtain ⟨v2, m2, n2, f2, _, cm2⟩ := l1Int_some b j3 g3 [-1, 3, 4] (by simp) cj3
  obtain ⟨v3, m3, n3, f3, _, cm3⟩ := l4Raw_some b j3 g3 cj3
  have hne : ¬ (l.length : Int) = 0 := by omega
  by_cases c0 : y = 0
  · iterate 3 apply Exists.intro
    refine ⟨?_, ?_, cm1⟩
    · refine Ev.bind ev ?_
      refine Ev.neg hne ?_
      refine Ev.now_bind e2 ?_
      refine Ev.now_bind e3 ?_
      refine Ev.pos c0 ?_
      refine Ev.now_bind f1 ?_
      refine Ev.pos hx.1 ?_
      refine Ev.pos hx.2 ?_
      exact Ev.now _
    · simp; omega
  by_cases c1 : y = 1
  · iterate 3 apply Exists.intro
    refine ⟨?_, ?_, cm2⟩
    · refine Ev.bind ev ?_
      refine Ev.neg hne ?_
      refine Ev.now_bind e2 ?_
      refine Ev.now_bind e3 ?_
      refine Ev.neg c0 ?_
      refine Ev.pos c1 ?_
      refine Ev.now_bind f2 ?_
      refine Ev.pos hx.1 ?_
      refine Ev.pos hx.2 ?_
      exact Ev.now _
    · simp; omega
  by_cases c2 : y = 2
  · iterate 3 apply Exists.intro
    refine ⟨?_, ?_, cm3⟩
    · refine Ev.bind ev ?_
      refine Ev.neg hne ?_
      refine Ev.now_bind e2 ?_
      refine Ev.now_bind e3 ?_
      refine Ev.neg c0 ?_
      refine Ev.neg c1 ?_
      refine Ev.pos c2 ?_
      refine Ev.now_bind f3 ?_
      refine Ev.pos hx.1 ?_
      refine Ev.pos hx.2 ?_
      exact Ev.now _
    · simp; omega
  by_cases c3 : y = 3
  · iterate 3 apply Exists.intro
    refine ⟨?_, ?_, cm3⟩
    · refine Ev.bind ev ?_
      refine Ev.neg hne ?_
      refine Ev.now_bind e2 ?_
      refine Ev.now_bind e3 ?_
      refine Ev.neg c0 ?_
      refine Ev.neg c1 ?_
      refine Ev.neg c2 ?_
      refine Ev.pos c3 ?_
      refine Ev.now_bind f3 ?_
      refine Ev.pos hx.1 ?_
      refine Ev.pos hx.2 ?_
      exact Ev.now _
    · simp; omega
  have key : ∀ (d : Nat) (l : List S87), l.length + d = 17 → ∃ l', Ev (fun k => spec_l10Any.l0 k l b j3 g3) (l', j3, g3) ∧ l'.length ≤ 17 := by
    intro d
    induction d with
    | zero =>
      intro l hl
      refine ⟨l, ?_, by omega⟩
      refine Ev.round (fun _ => by rw [spec_l10Any.l0]) ?_
      refine Ev.neg (by omega) ?_
      exact Ev.now _
    | succ d ih =>
      intro l hl
      obtain ⟨l', ev', hl'⟩ := ih (l ++ [(⟨2, 0, 0, 0⟩ : S87)]) (by simp; omega)
      refine ⟨l', ?_, hl'⟩
      refine Ev.round (fun _ => by rw [spec_l10Any.l0]) ?_
      refine Ev.pos (by omega) ?_
      exact Ev.pos (by omega) ev'
  by_cases c4 : y = 4
  · obtain ⟨l', ev', hl'⟩ := key (17 - l.length) l (by omega)
    refine ⟨l', j3, g3, ?_, hl', cj3⟩
    refine Ev.bind ev ?_
    refine Ev.neg hne ?_
    refine Ev.now_bind e2 ?_
    refine Ev.now_bind e3 ?_
    refine Ev.neg c0 ?_
    refine Ev.neg c1 ?_
    refine Ev.neg c2 ?_
    refine Ev.neg c3 ?_
    exact Ev.pos c4 ev'
  · refine ⟨l, j3, g3, ?_, by omega, cj3⟩
    refine Ev.bind ev ?_
    refine Ev.neg hne ?_
    refine Ev.now_bind e2 ?_
    refine Ev.now_bind e3 ?_
    refine Ev.neg c0 ?_
    refine Ev.neg c1 ?_
    refine Ev.neg c2 ?_
    refine Ev.neg c3 ?_
    refine Ev.neg c4 ?_
    exact Ev.now _
theorem drawIsScript_ev (b : List Int) (hb : b.length ≤ 1048576) : ∃ l, Ev (fun k => spec_DrawIsScript.f k b) l ∧ l.length ≤ 17 := by
  unfold spec_DrawIsScript.f
  obtain ⟨h, e⟩ := l1New_ev b hb
  obtain ⟨l, j, g, ev, hl, _⟩ := l10Any_ev b 0 h (cur0 b hb)
  exact ⟨l, Ev.bind e (Ev.bind ev (Ev.now _)), hl⟩
theorem drawOpName_ev (b : List Int) (hb : b.length ≤ 1048576) : ∃ a : Int, Ev (fun k => spec_DrawOpName.f k b) a ∧ -1 ≤ a ∧ a ≤ 10 := by
  unfold spec_DrawOpName.f
  obtain ⟨h, e⟩ := l1New_ev b hb
  obtain ⟨x, j, g, e2, hx, _⟩ := l1Below_lt b 0 h 12 (by omega) (cur0 b hb)
  refine ⟨wrap64 (x - 1), Ev.bind e (Ev.now_bind e2 (Ev.now _)), ?_, ?_⟩
  · rw [w64 (by omega) (by omega)]; omega
  · rw [w64 (by omega) (by omega)]; omega
theorem iOpName_some (a : Int) (h : 1 ≤ a ∧ a ≤ 9) : ∃ t, impl_OpName.f a = some t ∧ t.toList ≠ [] := by
  have key : ∀ a : Int, (a = 1 ∨ a = 2 ∨ a = 3 ∨ a = 4 ∨ a = 5 ∨ a = 6 ∨ a = 7 ∨ a = 8 ∨ a = 9) → ((impl_OpName.f a).map fun t => t.toList.isEmpty) = some false := by
    intro a ha
    rcases ha with rfl | rfl | rfl | rfl | rfl | rfl | rfl | rfl | rfl <;> decide +kernel
  have h1 := key a (by omega)
  obtain ⟨t, ht, he⟩ := Option.map_eq_some_iff.1 h1
  exact ⟨t, ht, fun e => by rw [e] at he; simp at he⟩
theorem iOpName_all (a : Int) : ∃ t, impl_OpName.f a = some t := by
  by_cases h : 0 ≤ a ∧ a ≤ 9
  · have key : ∀ a : Int, (a = 0 ∨ a = 1 ∨ a = 2 ∨ a = 3 ∨ a = 4 ∨ a = 5 ∨ a = 6 ∨ a = 7 ∨ a = 8 ∨ a = 9) → (impl_OpName.f a).isSome = true := by
      intro a ha
      rcases ha with rfl | rfl | rfl | rfl | rfl | rfl | rfl | rfl | rfl | rfl <;> decide +kernel
    exact Option.isSome_iff_exists.1 (key a (by omega))
  · unfold impl_OpName.f impl_at.f
    by_cases h2 : a ≥ 0
    · have h3 : ¬ a < 10 := by omega
      exact ⟨⟨#[]⟩, by simp [h2, h3]⟩
    · exact ⟨⟨#[]⟩, by simp [h2]⟩
theorem at_eq (a b : Int) : impl_at.f a b = some (decide (0 ≤ a) && decide (a < b)) := by
  unfold impl_at.f
  by_cases h : 0 ≤ a <;> simp [h]
theorem InRange_eq (a b c : Int) : impl_InRange.f a b c = some (decide (b ≤ a) && decide (a ≤ c)) := by
  unfold impl_InRange.f
  by_cases h : b ≤ a <;> simp [h]
def pOp (y : S87) : Bool :=
  pIn y.f1 0 3 && (
    if y.f0 = 1 then pIn y.f2 1 9 && pIn y.f3 0 99
    else if y.f0 = 2 ∨ y.f0 = 3 ∨ y.f0 = 4 then decide (y.f2 = 0) && (y.f3 == 0)
    else if y.f0 = 5 then pIn y.f2 0 3 && pIn y.f3 0 3
    else if y.f0 = 6 then pIn y.f2 0 3 && (y.f3 == 0)
    else if y.f0 = 7 then pIn y.f2 1 3 && (y.f3 == 0)
    else if y.f0 = 8 then pIn y.f2 0 2 && (y.f3 == 0)
    else if y.f0 = 9 then pIn y.f2 0 2 && (y.f3 == 0)
    else false)
theorem pIn_at (a : Int) : (decide (0 ≤ a) && decide (a < 4)) = pIn a 0 3 := by
  have : (a < 4) = (a ≤ 3) := by apply propext; omega
  simp only [this]
theorem pIn_at3 (a : Int) : (decide (0 ≤ a) && decide (a < 3)) = pIn a 0 2 := by
  have : (a < 3) = (a ≤ 2) := by apply propext; omega
  simp only [this]
theorem iOp_ev (y : S87) : Ev (fun k => impl_isOp.f k y.f0 y.f1 y.f2 y.f3) (pOp y) := by
  unfold impl_isOp.f pOp
  refine Ev.now_and ((at_eq _ _).trans (congrArg some (pIn_at _))) fun _ => ?_
  by_cases h1 : y.f0 = 1
  · rw [if_pos h1]
    refine Ev.pos h1 ?_
    exact Ev.now_and (InRange_eq _ _ _) fun _ => Ev.now_bind (InRange_eq _ _ _) (Ev.now _)
  rw [if_neg h1]
  refine Ev.neg h1 ?_
  have hj : ∀ x : Bool, (x = true ↔ y.f0 = 2 ∨ y.f0 = 3 ∨ y.f0 = 4) → Ev (fun k => impl_isOp.j0 k y.f0 x y.f0 y.f1 y.f2 y.f3) (if y.f0 = 2 ∨ y.f0 = 3 ∨ y.f0 = 4 then decide (y.f2 = 0) && (y.f3 == 0)
    else if y.f0 = 5 then pIn y.f2 0 3 && pIn y.f3 0 3
    else if y.f0 = 6 then pIn y.f2 0 3 && (y.f3 == 0)
    else if y.f0 = 7 then pIn y.f2 1 3 && (y.f3 == 0)
    else if y.f0 = 8 then pIn y.f2 0 2 && (y.f3 == 0)
    else if y.f0 = 9 then pIn y.f2 0 2 && (y.f3 == 0)
    else false) := by
    intro x hx
    refine Ev.round (fun _ => by rw [impl_isOp.j0]) ?_
    cases x with
    | true =>
      rw [if_pos (hx.1 rfl)]
      refine Ev.pos rfl ?_
      exact Ev.if_and fun _ => Ev.now _
    | false =>
      have hno : ¬ (y.f0 = 2 ∨ y.f0 = 3 ∨ y.f0 = 4) := fun c => by simpa using hx.2 c
      rw [if_neg hno]
      refine Ev.neg (by simp) ?_
      refine Ev.ite (fun _ => ?_) (fun _ => ?_)
      · exact Ev.now_and ((at_eq _ _).trans (congrArg some (pIn_at _))) fun _ => Ev.now_bind ((at_eq _ _).trans (congrArg some (pIn_at _))) (Ev.now _)
      refine Ev.ite (fun _ => ?_) (fun _ => ?_)
      · exact Ev.now_and ((at_eq _ _).trans (congrArg some (pIn_at _))) fun _ => Ev.now _
      refine Ev.ite (fun _ => ?_) (fun _ => ?_)
      · exact Ev.now_and (InRange_eq _ _ _) fun _ => Ev.now _
      refine Ev.ite (fun _ => ?_) (fun _ => ?_)
      · exact Ev.now_and ((at_eq _ _).trans (congrArg some (pIn_at3 _))) fun _ => Ev.now _
      refine Ev.ite (fun _ => ?_) (fun _ => ?_)
      · exact Ev.now_and ((at_eq _ _).trans (congrArg some (pIn_at3 _))) fun _ => Ev.now _
      · exact Ev.now _
  by_cases h2 : y.f0 = 2
  · refine Ev.pos h2 (hj _ ?_)
    simp [h2]
  refine Ev.neg h2 ?_
  by_cases h3 : y.f0 = 3
  · refine Ev.pos h3 (hj _ ?_)
    simp [h3]
  refine Ev.neg h3 (hj _ ?_)
  simp [h2, h3]
def pScript (l : List S87) : Bool := l.all pOp && decide ((l.length : Int) ≤ 16)
theorem not_any {α : Type} (l : List α) (p : α → Bool) : (!(l.any fun y => !p y)) = l.all p := by
  rw [List.all_eq_not_any_not]
theorem iIsScript_ev (l : List S87) (h : l.length ≤ 1048576) : Ev (fun k => impl_IsScript.f k l) (pScript l) := by
  unfold impl_IsScript.f pScript
  rw [Bool.and_comm]
  refine Ev.if_and fun _ => ?_
  rw [← not_any]
  refine Ev.no ?_
  unfold slices_ContainsFunc_95.f
  have hf : ∃ r : Int, Ev (fun k => slices_IndexFunc_95.l0 k l (l.length : Int) 0) r ∧ decide (r ≥ 0) = l.any (fun y => !pOp y) := by
    refine ev_find (fun k i => slices_IndexFunc_95.l0 k l (l.length : Int) i) l z87 (fun y => !pOp y) (fun k => by rw [slices_IndexFunc_95.l0, if_neg (by omega)]) ?_ ?_
    · intro i hi hp
      refine Ev.round (fun _ => by rw [slices_IndexFunc_95.l0]) ?_
      refine Ev.pos (by omega) ?_
      refine Ev.pos (by omega) ?_
      refine Ev.pos (by omega) ?_
      refine Ev.bind (Ev.no (iOp_ev (rd_T87 l (i : Int)))) ?_
      refine Ev.pos hp ?_
      exact Ev.now _
    · intro i hi hp r hr
      have e1 : wrap64 ((i : Int) + 1) = ((i + 1 : Nat) : Int) := by rw [w64 (by omega) (by omega)]; omega
      refine Ev.round (fun _ => by rw [slices_IndexFunc_95.l0]) ?_
      refine Ev.pos (by omega) ?_
      refine Ev.pos (by omega) ?_
      refine Ev.pos (by omega) ?_
      refine Ev.bind (Ev.no (iOp_ev (rd_T87 l (i : Int)))) ?_
      refine Ev.neg (ne_true_of_eq_false hp) ?_
      simp only [e1]
      exact hr
  obtain ⟨r, hr, hd⟩ := hf
  rw [← hd]
  exact Ev.bind hr (Ev.now _)
def pAsks (k : Int) : Bool := decide (1 ≤ k) && decide (k ≤ 4)
theorem iAsks_eq (k : Int) : impl_Asks.f k = some (pAsks k) := by
  unfold impl_Asks.f pAsks
  rw [InRange_eq]
  rfl
def stepAsks (n : Int) (y : S87) : Int := if pAsks y.f0 = true then n + 1 else n
def pCountAsks (l : List S87) : Int := l.foldl stepAsks 0
theorem iCountAsks_ev (l : List S87) (h : l.length ≤ 1048576) : Ev (fun k => impl_CountAsks.f k l) (pCountAsks l) := by
  unfold impl_CountAsks.f
  refine ev_foldl (fun k x i => impl_CountAsks.l0 k x l (l.length : Int) i) l z87 stepAsks id (fun i x => 0 ≤ x ∧ x ≤ (i : Int)) 0 ⟨by omega, by omega⟩ ?_ ?_
  · intro x hx
    refine Ev.round (fun _ => by rw [impl_CountAsks.l0]) ?_
    refine Ev.neg (by omega) ?_
    exact Ev.now _
  intro i x hi hx
  have e1 : wrap64 ((i : Int) + 1) = ((i + 1 : Nat) : Int) := by rw [w64 (by omega) (by omega)]; omega
  unfold stepAsks
  cases c : pAsks (l.getD i z87).f0 with
  | true =>
    refine ⟨by simp; omega, fun r h => ?_⟩
    refine Ev.round (fun _ => by rw [impl_CountAsks.l0]) ?_
    refine Ev.pos (by omega) ?_
    refine Ev.pos (by omega) ?_
    refine Ev.pos (by omega) ?_
    refine Ev.now_bind (iAsks_eq _) ?_
    refine Ev.pos c ?_
    rw [w64 (n := x + 1) (by omega) (by omega)]
    simp only [e1]
    exact h
  | false =>
    refine ⟨by simp; omega, fun r h => ?_⟩
    refine Ev.round (fun _ => by rw [impl_CountAsks.l0]) ?_
    refine Ev.pos (by omega) ?_
    refine Ev.pos (by omega) ?_
    refine Ev.pos (by omega) ?_
    refine Ev.now_bind (iAsks_eq _) ?_
    refine Ev.neg (ne_true_of_eq_false c) ?_
    simp only [e1]
    exact h
def pScriptInts (l : List S87) : List Int := l.foldl (fun acc y => acc ++ [y.f0, y.f1, y.f2, y.f3]) []
theorem fold_ints_length (l : List S87) : ∀ acc : List Int, (l.foldl (fun acc y => acc ++ [y.f0, y.f1, y.f2, y.f3]) acc).length = acc.length + 4 * l.length := by
  induction l with
  | nil => intro acc; simp
  | cons y l ih => intro acc; rw [List.foldl_cons, ih]; simp; omega
theorem pScriptInts_length (l : List S87) : (pScriptInts l).length = 4 * l.length := by
  unfold pScriptInts
  rw [fold_ints_length]
  simp
theorem iScriptInts_ev (l : List S87) (h : l.length ≤ 1048576) : Ev (fun k => impl_ScriptInts.f k l) (pScriptInts l) := by
  unfold impl_ScriptInts.f
  refine ev_foldl (fun k x i => impl_ScriptInts.l0 k x l (l.length : Int) i) l z87 (fun acc y => acc ++ [y.f0, y.f1, y.f2, y.f3]) (fun x => x) (fun i x => x.length = 4 * i) [] (by simp) ?_ ?_
  · intro x hx
    refine Ev.round (fun _ => by rw [impl_ScriptInts.l0]) ?_
    refine Ev.neg (by omega) ?_
    exact Ev.now _
  · intro i x hi hx
    have e1 : wrap64 ((i : Int) + 1) = ((i + 1 : Nat) : Int) := by rw [w64 (by omega) (by omega)]; omega
    refine ⟨by simp [hx]; omega, fun r hr => ?_⟩
    refine Ev.round (fun _ => by rw [impl_ScriptInts.l0]) ?_
    refine Ev.pos (by omega) ?_
    refine Ev.pos (by omega) ?_
    refine Ev.pos (by omega) ?_
    refine Ev.now_bind rfl ?_
    refine Ev.pos ?_ ?_
    · simp [hx]; omega
    · simp only [e1]; exact hr
theorem pOp_kind {y : S87} (h : pOp y = true) : 1 ≤ y.f0 ∧ y.f0 ≤ 9 := by
  unfold pOp at h
  simp only [Bool.and_eq_true] at h
  have h2 := h.2
  by_cases h1 : y.f0 = 1
  · omega
  rw [if_neg h1] at h2
  by_cases h2' : y.f0 = 2 ∨ y.f0 = 3 ∨ y.f0 = 4
  · omega
  rw [if_neg h2'] at h2
  by_cases h5 : y.f0 = 5
  · omega
  rw [if_neg h5] at h2
  by_cases h6 : y.f0 = 6
  · omega
  rw [if_neg h6] at h2
  by_cases h7 : y.f0 = 7
  · omega
  rw [if_neg h7] at h2
  by_cases h8 : y.f0 = 8
  · omega
  rw [if_neg h8] at h2
  by_cases h9 : y.f0 = 9
  · omega
  rw [if_neg h9] at h2
  simp at h2
theorem countAsks_bound (l : List S87) : ∀ n : Int, 0 ≤ n → n ≤ l.foldl stepAsks n ∧ l.foldl stepAsks n ≤ n + (l.length : Int) := by
  induction l with
  | nil => intro n hn; simp
  | cons y l ih =>
    intro n hn
    rw [List.foldl_cons, List.length_cons]
    have h1 : stepAsks n y = n ∨ stepAsks n y = n + 1 := by
      unfold stepAsks
      split
      · exact Or.inr rfl
      · exact Or.inl rfl
    rcases h1 with h1 | h1 <;> rw [h1]
    · have := ih n hn; omega
    · have := ih (n + 1) (by omega); omega
theorem FnScripts (l0 : List Int) (h0 : (l0.length ≤ maxLen ∧ ∀ e_ ∈ l0, (Lit.int .u8 e_).wf = true)) : ∃ k, laws_FnScripts.f k l0 = some true := by
  refine Ev.rounds ?_
  unfold laws_FnScripts.f laws_big.f
  refine Ev.now_bind rfl ?_
  by_cases hb : (l0.length : Int) > 1048576
  · exact Ev.pos (by simpa using hb) (Ev.now _)
  have hlen : l0.length ≤ 1048576 := by omega
  obtain ⟨l, el, hl⟩ := drawIsScript_ev l0 hlen
  obtain ⟨a, ea, ha⟩ := drawOpName_ev l0 hlen
  refine Ev.neg (by simpa using hb) ?_
  refine Ev.bind el ?_
  refine ev_foldl (fun k x i => laws_FnScripts.l0 k l0 l x i) l z87 stepAsks (fun _ => true) (fun i x => 0 ≤ x ∧ x ≤ (i : Int) ∧ x = (l.take i).foldl stepAsks 0) 0 ⟨by omega, by omega, by simp⟩ ?_ ?_
  · intro x hx
    have hx3 : x = pCountAsks l := by rw [hx.2.2, List.take_length]; rfl
    refine Ev.round (fun _ => by rw [laws_FnScripts.l0]) ?_
    refine Ev.neg (by omega) ?_
    refine Ev.bind ea ?_
    refine Ev.bind (iCountAsks_ev l (by omega)) ?_
    refine Ev.pos hx3 ?_
    refine Ev.bind (iScriptInts_ev l (by omega)) ?_
    refine Ev.pos ?_ ?_
    · rw [pScriptInts_length, w64 (by omega) (by omega)]
      omega
    · refine Ev.now_bind (iAsks_eq a) ?_
      cases hk : pAsks a with
      | false => exact Ev.neg (by simp) (Ev.now _)
      | true =>
        unfold pAsks at hk
        simp only [Bool.and_eq_true, decide_eq_true_eq] at hk
        obtain ⟨t, ht, hne⟩ := iOpName_some a (by omega)
        refine Ev.pos rfl ?_
        refine Ev.now_bind ht ?_
        exact Ev.cast (Ev.now _) (by simpa using hne)
  · intro i x hi hx
    have e1 : wrap64 ((i : Int) + 1) = ((i + 1 : Nat) : Int) := by rw [w64 (by omega) (by omega)]; omega
    have htk : (l.take (i + 1)).foldl stepAsks 0 = stepAsks x (l.getD i z87) := by
      rw [List.take_succ_eq_append_getElem hi, List.foldl_append, ← hx.2.2, getD_in l i hi]
      rfl
    have hs : stepAsks x (l.getD i z87) = x ∨ stepAsks x (l.getD i z87) = x + 1 := by
      unfold stepAsks
      split
      · exact Or.inr rfl
      · exact Or.inl rfl
    refine ⟨⟨by omega, by omega, htk.symm⟩, fun r hr => ?_⟩
    have hj : ∀ n : Int, n = stepAsks x (l.getD i z87) → Ev (fun k => laws_FnScripts.j1 k l0 l n (i : Int)) r := by
      rintro n rfl
      refine Ev.round (fun _ => by rw [laws_FnScripts.j1]) ?_
      refine Ev.bind (iIsScript_ev l (by omega)) ?_
      cases hp : pScript l with
      | false =>
        refine Ev.neg (by simp) ?_
        simp only [e1]
        exact hr
      | true =>
        unfold pScript at hp
        simp only [Bool.and_eq_true, List.all_eq_true] at hp
        have hy := pOp_kind (hp.1 _ (getD_mem l i hi z87))
        obtain ⟨t, ht, hne⟩ := iOpName_some (l.getD i z87).f0 hy
        refine Ev.pos rfl ?_
        refine Ev.pos (by omega) ?_
        refine Ev.pos (by omega) ?_
        refine Ev.now_bind ht ?_
        refine Ev.neg hne ?_
        simp only [e1]
        exact hr
    refine Ev.round (fun _ => by rw [laws_FnScripts.l0]) ?_
    refine Ev.pos (by omega) ?_
    refine Ev.pos (by omega) ?_
    refine Ev.now_bind (iAsks_eq _) ?_
    cases hk : pAsks (rd_T87 l (i : Int)).f0 with
    | true =>
      have hk' : pAsks (l.getD i z87).f0 = true := hk
      refine Ev.pos rfl (hj _ ?_)
      rw [w64 (by omega) (by omega)]
      unfold stepAsks
      rw [if_pos hk']
    | false =>
      have hk' : pAsks (l.getD i z87).f0 = false := hk
      refine Ev.neg (by simp) (hj _ ?_)
      unfold stepAsks
      rw [if_neg (ne_true_of_eq_false hk')]
end Go.Proofs.Ytcjhkpggdgjpaaa.Pure
