/- FnNearest: whatever bytes captures, an address and a time are drawn from, the capture that answers is the nearest one by the rule that is told. No condition. -/
import Derived.Test.YtgcamebeonodeaaStdFnNearest
namespace Go.Proofs.Ytgcamebeonodeaa.Pure
open Go.RowKit Go.Proofs.Ytgcamebeonodeaa.MFnNearest Go.Proofs.YtgcamebeonodeaaW.PrintWords Go.Proofs.YtgcamebeonodeaaW.PrintLast Go.Proofs.YtgcamebeonodeaaW.PrintMore Go.Proofs.Ytgcamebeonodeaa.Gen
set_option linter.unusedVariables false
set_option linter.unusedSimpArgs false


def FitimplCapture (y : S40) : Prop := y.f2.f1.length ≤ 1048576
/-- A cursor that stands in its bytes or behind them. -/
def Cur (b : List Int) (i : Int) : Prop := b.length ≤ 1048576 ∧ 0 ≤ i ∧ i ≤ (b.length : Int)
theorem and255 (v : Int) : 0 ≤ Go.bits .and .i64 v 255 ∧ Go.bits .and .i64 v 255 ≤ 255 := by
  have hle : (BitVec.ofInt IntKind.i64.bits v &&& BitVec.ofInt IntKind.i64.bits 255).toNat ≤ 255 := by
    rw [BitVec.toNat_and]
    exact Nat.le_trans Nat.and_le_right (by decide)
  have e : Go.bits .and .i64 v 255 = (((BitVec.ofInt IntKind.i64.bits v &&& BitVec.ofInt IntKind.i64.bits 255).toNat : Nat) : Int) := by
    simp only [Go.bits]
    rw [IntKind.wrap_i64]
    omega
  rw [e]
  omega
theorem l1New_ev (b : List Int) (hb : b.length ≤ 1048576) : ∃ h, Ev (fun k => spec_l1New.f k b) (b, 0, h) := by
  unfold spec_l1New.f
  have key : ∀ d i : Nat, i + d = b.length → ∀ h : Int, ∃ g, Ev (fun k => spec_l1New.l0 k b h (i : Int)) (b, 0, g) := by
    intro d
    induction d with
    | zero =>
      intro i hi h
      refine ⟨h, ?_⟩
      refine Ev.round (fun _ => by rw [spec_l1New.l0]) ?_
      refine Ev.neg (by omega) ?_
      exact Ev.now _
    | succ d ih =>
      intro i hi h
      by_cases h4 : (i : Int) < 4000
      · have e1 : wrap64 ((i : Int) + 1) = ((i + 1 : Nat) : Int) := by rw [w64 (by omega) (by omega)]; omega
        obtain ⟨g, hg⟩ := ih (i + 1) (by omega) (Go.bits .and .i64 (wrap64 ((wrap64 ((wrap64 (h * 137)) + (wrap64 (rd b (i : Int))))) + 11)) 1073741823)
        refine ⟨g, ?_⟩
        refine Ev.round (fun _ => by rw [spec_l1New.l0]) ?_
        refine Ev.pos (by omega) ?_
        refine Ev.pos h4 ?_
        refine Ev.pos (by omega) ?_
        simp only [e1]
        exact hg
      · refine ⟨h, ?_⟩
        refine Ev.round (fun _ => by rw [spec_l1New.l0]) ?_
        refine Ev.pos (by omega) ?_
        refine Ev.neg h4 ?_
        exact Ev.now _
  exact key b.length 0 (by omega) _
theorem cur0 (b : List Int) (hb : b.length ≤ 1048576) : Cur b 0 := ⟨hb, by omega, by omega⟩
theorem l1Byte_some (b : List Int) (i h : Int) (c : Cur b i) : ∃ x j g, spec_l1Byte.f b i h = some (x, j, g) ∧ (0 ≤ x ∧ x ≤ 255) ∧ Cur b j := by
  obtain ⟨c1, c2, c3⟩ := c
  unfold spec_l1Byte.f
  by_cases hi : i < (b.length : Int)
  · rw [if_pos hi, if_pos c2]
    exact ⟨_, _, _, rfl, and255 _, c1, by rw [w64 (by omega) (by omega)]; omega, by rw [w64 (by omega) (by omega)]; omega⟩
  · rw [if_neg hi]
    exact ⟨_, _, _, rfl, and255 _, c1, c2, c3⟩
theorem l1Below_some (b : List Int) (i h n : Int) (c : Cur b i) : ∃ x j g, spec_l1Below.f b i h n = some (x, j, g) ∧ 0 ≤ x ∧ (0 < n → x < n) ∧ Cur b j := by
  unfold spec_l1Below.f
  by_cases h0 : n ≤ 0
  · rw [if_pos h0]
    exact ⟨0, i, h, rfl, by omega, by omega, c⟩
  rw [if_neg h0]
  by_cases h1 : n ≤ 256
  · rw [if_pos h1]
    obtain ⟨x, j, g, e, b1, cj⟩ := l1Byte_some b i h c
    rw [e]
    simp only [Option.bind_some]
    rw [if_neg (by omega)]
    refine ⟨_, _, _, rfl, ?_, ?_, cj⟩
    · rw [Int.tmod_eq_emod_of_nonneg b1.1]
      exact Int.emod_nonneg _ (by omega)
    · intro hn
      rw [Int.tmod_eq_emod_of_nonneg b1.1]
      exact Int.emod_lt_of_pos _ hn
  · rw [if_neg h1]
    obtain ⟨x, j, g, e, b1, cj⟩ := l1Byte_some b i h c
    obtain ⟨y, j2, g2, e2, b2, cj2⟩ := l1Byte_some b j g cj
    obtain ⟨z, j3, g3, e3, b3, cj3⟩ := l1Byte_some b j2 g2 cj2
    rw [e]
    simp only [Option.bind_some]
    rw [e2]
    simp only [Option.bind_some]
    rw [e3]
    simp only [Option.bind_some]
    rw [if_neg (by omega)]
    have hv : 0 ≤ wrap64 (wrap64 (wrap64 (x * 65536) + wrap64 (y * 256)) + z) := by
      rw [w64 (n := x * 65536) (by omega) (by omega), w64 (n := y * 256) (by omega) (by omega), w64 (n := x * 65536 + y * 256) (by omega) (by omega), w64 (by omega) (by omega)]
      omega
    refine ⟨_, _, _, rfl, ?_, ?_, cj3⟩
    · rw [Int.tmod_eq_emod_of_nonneg hv]
      exact Int.emod_nonneg _ (by omega)
    · intro hn
      rw [Int.tmod_eq_emod_of_nonneg hv]
      exact Int.emod_lt_of_pos _ hn
theorem l1Below_lt (b : List Int) (i h n : Int) (hn : 0 < n) (c : Cur b i) : ∃ x j g, spec_l1Below.f b i h n = some (x, j, g) ∧ (0 ≤ x ∧ x < n) ∧ Cur b j := by
  obtain ⟨x, j, g, e, h0, h1, cj⟩ := l1Below_some b i h n c
  exact ⟨x, j, g, e, ⟨h0, h1 hn⟩, cj⟩
theorem l4Draw_some (b : List Int) (i h : Int) (c : Cur b i) : ∃ x y z j g, spec_l4Draw.f b i h = some (x, y, z, j, g) ∧ (1 ≤ x ∧ x ≤ 3 ∧ 0 ≤ y ∧ y ≤ 2 ∧ 0 ≤ z ∧ z ≤ 2) ∧ Cur b j := by
  obtain ⟨x, j, g, e, hx, cj⟩ := l1Below_lt b i h 3 (by omega) c
  obtain ⟨y, j2, g2, e2, hy, cj2⟩ := l1Below_lt b j g 3 (by omega) cj
  obtain ⟨z, j3, g3, e3, hz, cj3⟩ := l1Below_lt b j2 g2 3 (by omega) cj2
  have ew : wrap64 (1 + x) = 1 + x := w64 (by omega) (by omega)
  refine ⟨1 + x, y, z, j3, g3, ?_, by omega, cj3⟩
  unfold spec_l4Draw.f
  rw [e, Option.bind_some]
  dsimp only
  rw [e2, Option.bind_some]
  dsimp only
  rw [e3, Option.bind_some]
  dsimp only
  rw [ew]
theorem l5Body_ev (b : List Int) (i h : Int) (c : Cur b i) : ∃ l j g, Ev (fun k => spec_l5Body.f k b i h) (l, j, g) ∧ l.length ≤ 4 ∧ Cur b j := by
  obtain ⟨n, j, g, e, hn, cj⟩ := l1Below_lt b i h 5 (by omega) c
  have key : ∀ (d : Nat) (l : List Int) (i h : Int), Cur b i → l.length + d ≤ 4 → ∃ l' j g, Ev (fun k => spec_l5Body.l0 k l (d : Int) b i h) (l', j, g) ∧ l'.length ≤ 4 ∧ Cur b j := by
    intro d
    induction d with
    | zero =>
      intro l i h c hl
      refine ⟨l, i, h, ?_, by omega, c⟩
      refine Ev.round (fun _ => by rw [spec_l5Body.l0]) ?_
      exact Ev.neg (by omega) (Ev.now _)
    | succ d ih =>
      intro l i h c hl
      obtain ⟨x, j, g, e, hx, cj⟩ := l1Below_lt b i h 9 (by omega) c
      have e1 : wrap64 (((d + 1 : Nat) : Int) - 1) = (d : Int) := by rw [w64 (by omega) (by omega)]; omega
      obtain ⟨l', j', g', ev, hl', cj'⟩ := ih (l ++ [x]) j g cj (by rw [List.length_append, List.length_singleton]; omega)
      refine ⟨l', j', g', ?_, hl', cj'⟩
      refine Ev.round (fun _ => by rw [spec_l5Body.l0]) ?_
      refine Ev.pos (by omega) ?_
      refine Ev.now_bind e ?_
      refine Ev.pos (by omega) ?_
      simp only [e1]
      exact ev
  obtain ⟨l, j', g', ev, hl, cj'⟩ := key n.toNat [] j g cj (by simp; omega)
  refine ⟨l, j', g', ?_, hl, cj'⟩
  unfold spec_l5Body.f
  refine Ev.now_bind e ?_
  have en : ((n.toNat : Nat) : Int) = n := by omega
  rw [en] at ev
  exact ev
theorem l5Draw_ev (b : List Int) (i h : Int) (c : Cur b i) : ∃ k0 l x y z j g, Ev (fun k => spec_l5Draw.f k b i h) (k0, l, x, y, z, j, g) ∧ l.length ≤ 4 ∧ Cur b j := by
  obtain ⟨n, j, g, e, hn, cj⟩ := l1Below_lt b i h 6 (by omega) c
  unfold spec_l5Draw.f
  by_cases h0 : n = 0
  · obtain ⟨x, y, z, j2, g2, e2, _, cj2⟩ := l4Draw_some b j g cj
    refine ⟨3, [], x, y, z, j2, g2, ?_, by simp, cj2⟩
    refine Ev.now_bind e ?_
    refine Ev.pos h0 ?_
    refine Ev.now_bind e2 ?_
    exact Ev.now _
  · by_cases h1 : n = 1
    · refine ⟨4, [], 0, 0, 0, j, g, ?_, by simp, cj⟩
      refine Ev.now_bind e ?_
      refine Ev.neg h0 ?_
      refine Ev.pos h1 ?_
      exact Ev.now _
    · obtain ⟨x, j2, g2, e2, hx, cj2⟩ := l1Below_lt b j g 2 (by omega) cj
      obtain ⟨l, j3, g3, ev, hl, cj3⟩ := l5Body_ev b j2 g2 cj2
      refine ⟨wrap64 (1 + x), l, 0, 0, 0, j3, g3, ?_, hl, cj3⟩
      refine Ev.now_bind e ?_
      refine Ev.neg h0 ?_
      refine Ev.neg h1 ?_
      refine Ev.now_bind e2 ?_
      refine Ev.bind ev ?_
      exact Ev.now _
theorem l15Draw_ev (b : List Int) (i h : Int) (c : Cur b i) : ∃ l j g, Ev (fun k => spec_l15Draw.f k b i h) (l, j, g) ∧ l.length ≤ 7 ∧ (∀ y ∈ l, FitimplCapture y) ∧ Cur b j := by
  obtain ⟨n, j, g, e, hn, cj⟩ := l1Below_lt b i h 8 (by omega) c
  have key : ∀ (d : Nat) (l : List S40) (i h : Int), Cur b i → l.length + d ≤ 7 → (∀ y ∈ l, FitimplCapture y) → ∃ l' j g, Ev (fun k => spec_l15Draw.l0 k l (d : Int) b i h) (l', j, g) ∧ l'.length ≤ 7 ∧ (∀ y ∈ l', FitimplCapture y) ∧ Cur b j := by
    intro d
    induction d with
    | zero =>
      intro l i h c hl hd
      refine ⟨l, i, h, ?_, by omega, hd, c⟩
      refine Ev.round (fun _ => by rw [spec_l15Draw.l0]) ?_
      exact Ev.neg (by omega) (Ev.now _)
    | succ d ih =>
      intro l i h c hl hd
      obtain ⟨a, p, q, j, g, e, _, cj⟩ := l4Draw_some b i h c
      obtain ⟨t, j2, g2, e2, ht, cj2⟩ := l1Below_lt b j g 20 (by omega) cj
      obtain ⟨k0, bd, x, y, z, j3, g3, ev, hbd, cj3⟩ := l5Draw_ev b j2 g2 cj2
      have e1 : wrap64 (((d + 1 : Nat) : Int) - 1) = (d : Int) := by rw [w64 (by omega) (by omega)]; omega
      obtain ⟨l', j', g', ev', hl', hd', cj'⟩ := ih (l ++ [⟨⟨a, p, q⟩, t, ⟨k0, bd, ⟨x, y, z⟩⟩⟩]) j3 g3 cj3 (by rw [List.length_append, List.length_singleton]; omega) (by
        intro y hy
        rcases List.mem_append.1 hy with hy | hy
        · exact hd y hy
        · rw [List.mem_singleton] at hy
          rw [hy]
          show bd.length ≤ 1048576
          omega)
      refine ⟨l', j', g', ?_, hl', hd', cj'⟩
      refine Ev.round (fun _ => by rw [spec_l15Draw.l0]) ?_
      refine Ev.pos (by omega) ?_
      refine Ev.now_bind e ?_
      refine Ev.now_bind e2 ?_
      refine Ev.bind ev ?_
      refine Ev.pos (by omega) ?_
      simp only [e1]
      exact ev'
  obtain ⟨l, j', g', ev, hl, hd, cj'⟩ := key n.toNat [] j g cj (by simp; omega) (by simp)
  refine ⟨l, j', g', ?_, hl, hd, cj'⟩
  unfold spec_l15Draw.f
  refine Ev.now_bind e ?_
  have en : ((n.toNat : Nat) : Int) = n := by omega
  rw [en] at ev
  exact ev
theorem l1Int_some (b : List Int) (i h : Int) (l : List Int) (hl : 0 < l.length) (c : Cur b i) : ∃ x j g, spec_l1Int.f b i h l = some (x, j, g) ∧ x ∈ l ∧ Cur b j := by
  obtain ⟨x, j, g, e, hx, cj⟩ := l1Below_lt b i h (l.length : Int) (by omega) c
  unfold spec_l1Int.f
  rw [e]
  simp only [Option.bind_some]
  rw [if_pos hx.1, if_pos hx.2]
  refine ⟨_, _, _, rfl, ?_, cj⟩
  exact getD_mem l x.toNat (by omega) 0
theorem l4Raw_some (b : List Int) (i h : Int) (c : Cur b i) : ∃ x j g, spec_l4Raw.f b i h = some (x, j, g) ∧ (-9223372036854775808 ≤ x ∧ x ≤ 9223372036854775807) ∧ Cur b j := by
  unfold spec_l4Raw.f
  obtain ⟨x, j, g, e, hx, cj⟩ := l1Int_some b i h [-1, 0, 9, 10, 99, 100, 9223372036854775807, -9223372036854775808] (by simp) c
  rw [e]
  refine ⟨x, j, g, rfl, ?_, cj⟩
  simp only [List.mem_cons, List.not_mem_nil, or_false] at hx
  omega
theorem l4Any_some (b : List Int) (i h : Int) (c : Cur b i) : ∃ x y z j g, spec_l4Any.f b i h = some (x, y, z, j, g) ∧ Cur b j := by
  obtain ⟨x, y, z, j, g, e, _, cj⟩ := l4Draw_some b i h c
  obtain ⟨n, j2, g2, e2, hn, cj2⟩ := l1Below_lt b j g 9 (by omega) cj
  obtain ⟨v, j3, g3, e3, _, cj3⟩ := l4Raw_some b j2 g2 cj2
  unfold spec_l4Any.f
  rw [e, Option.bind_some]
  dsimp only
  rw [e2, Option.bind_some]
  dsimp only
  rw [e3, Option.bind_some, Option.bind_some, Option.bind_some]
  dsimp only
  by_cases h0 : n = 0
  · rw [if_pos h0]
    exact ⟨_, _, _, _, _, rfl, cj3⟩
  · rw [if_neg h0]
    by_cases h1 : n = 1
    · rw [if_pos h1]
      exact ⟨_, _, _, _, _, rfl, cj3⟩
    · rw [if_neg h1]
      by_cases h2 : n = 2
      · rw [if_pos h2]
        exact ⟨_, _, _, _, _, rfl, cj3⟩
      · rw [if_neg h2]
        exact ⟨_, _, _, _, _, rfl, cj2⟩
theorem l5Any_ev (b : List Int) (i h : Int) (c : Cur b i) : ∃ k0 l x y z j g, Ev (fun k => spec_l5Any.f k b i h) (k0, l, x, y, z, j, g) ∧ l.length ≤ 7 ∧ Cur b j := by
  obtain ⟨k0, l, x, y, z, j, g, ev, hl, cj⟩ := l5Draw_ev b i h c
  obtain ⟨n, j2, g2, e2, hn, cj2⟩ := l1Below_lt b j g 9 (by omega) cj
  unfold spec_l5Any.f
  by_cases h0 : n = 0
  · obtain ⟨v, j3, g3, e3, _, cj3⟩ := l1Int_some b j2 g2 [0, 5, 3, 4] (by simp) cj2
    exact ⟨_, _, _, _, _, _, _, Ev.bind ev (Ev.now_bind e2 (Ev.pos h0 (Ev.now_bind e3 (Ev.now _)))), by dsimp only; omega, cj3⟩
  · by_cases h1 : n = 1
    · obtain ⟨v, j3, g3, e3, _, cj3⟩ := l1Int_some b j2 g2 [(-1), 255, 256] (by simp) cj2
      exact ⟨_, _, _, _, _, _, _, Ev.bind ev (Ev.now_bind e2 (Ev.neg h0 (Ev.pos h1 (Ev.now_bind e3 (Ev.pos (by dsimp only; omega) (Ev.now _)))))), by rw [List.length_append, List.length_singleton]; dsimp only; omega, cj3⟩
    · by_cases h2 : n = 2
      · exact ⟨_, _, _, _, _, _, _, Ev.bind ev (Ev.now_bind e2 (Ev.neg h0 (Ev.neg h1 (Ev.pos h2 (Ev.now _))))), by simp, cj2⟩
      · by_cases h3 : n = 3
        · obtain ⟨x3, y3, z3, j3, g3, e3, cj3⟩ := l4Any_some b j2 g2 cj2
          exact ⟨_, _, _, _, _, _, _, Ev.bind ev (Ev.now_bind e2 (Ev.neg h0 (Ev.neg h1 (Ev.neg h2 (Ev.pos h3 (Ev.now_bind e3 (Ev.now _))))))), by dsimp only; omega, cj3⟩
        · exact ⟨_, _, _, _, _, _, _, Ev.bind ev (Ev.now_bind e2 (Ev.neg h0 (Ev.neg h1 (Ev.neg h2 (Ev.neg h3 (Ev.now _)))))), by dsimp only; omega, cj2⟩
theorem l15Any_ev (b : List Int) (i h : Int) (c : Cur b i) : ∃ l j g, Ev (fun k => spec_l15Any.f k b i h) (l, j, g) ∧ l.length ≤ 7 ∧ (∀ y ∈ l, FitimplCapture y) ∧ Cur b j := by
  obtain ⟨l, j, g, ev, hl, hf, cj⟩ := l15Draw_ev b i h c
  unfold spec_l15Any.f
  by_cases hz : (l.length : Int) = 0
  · exact ⟨l, j, g, Ev.bind ev (Ev.pos hz (Ev.now _)), hl, hf, cj⟩
  obtain ⟨m, j2, g2, e2, hm, cj2⟩ := l1Below_lt b j g (l.length : Int) (by omega) cj
  obtain ⟨n, j3, g3, e3, hn, cj3⟩ := l1Below_lt b j2 g2 9 (by omega) cj2
  have hset : ∀ y : S40, FitimplCapture y → (l.set (m : Int).toNat y).length ≤ 7 ∧ ∀ z ∈ l.set (m : Int).toNat y, FitimplCapture z := by
    intro y hy
    refine ⟨by rw [List.length_set]; exact hl, fun z hz => ?_⟩
    rcases List.mem_or_eq_of_mem_set hz with hz | hz
    · exact hf z hz
    · rw [hz]; exact hy
  have hrd : FitimplCapture (rd_T40 l m) := by
    have h1 := getD_mem l m.toNat (by omega) z40
    exact hf _ h1
  by_cases h0 : n = 0
  · obtain ⟨x3, y3, z3, j4, g4, e4, cj4⟩ := l4Any_some b j3 g3 cj3
    obtain ⟨s1, s2⟩ := hset ⟨⟨x3, y3, z3⟩, (rd_T40 l m).f1, ⟨(rd_T40 l m).f2.f0, (rd_T40 l m).f2.f1, ⟨(rd_T40 l m).f2.f2.f0, (rd_T40 l m).f2.f2.f1, (rd_T40 l m).f2.f2.f2⟩⟩⟩ hrd
    exact ⟨_, _, _, Ev.bind ev (Ev.neg hz (Ev.now_bind e2 (Ev.now_bind e3 (Ev.pos h0 (Ev.now_bind e4 (Ev.pos hm.1 (Ev.pos hm.2 (Ev.now _)))))))), s1, s2, cj4⟩
  · by_cases h1 : n = 1
    · obtain ⟨v, j4, g4, e4, _, cj4⟩ := l1Int_some b j3 g3 [(-1), 2000, 2001, 9223372036854775807] (by simp) cj3
      obtain ⟨s1, s2⟩ := hset ⟨⟨(rd_T40 l m).f0.f0, (rd_T40 l m).f0.f1, (rd_T40 l m).f0.f2⟩, v, ⟨(rd_T40 l m).f2.f0, (rd_T40 l m).f2.f1, ⟨(rd_T40 l m).f2.f2.f0, (rd_T40 l m).f2.f2.f1, (rd_T40 l m).f2.f2.f2⟩⟩⟩ hrd
      exact ⟨_, _, _, Ev.bind ev (Ev.neg hz (Ev.now_bind e2 (Ev.now_bind e3 (Ev.neg h0 (Ev.pos h1 (Ev.now_bind e4 (Ev.pos hm.1 (Ev.pos hm.2 (Ev.now _))))))))), s1, s2, cj4⟩
    · by_cases h2 : n = 2
      · obtain ⟨k0, bd, x, y, z, j4, g4, ev4, hbd, cj4⟩ := l5Any_ev b j3 g3 cj3
        obtain ⟨s1, s2⟩ := hset ⟨⟨(rd_T40 l m).f0.f0, (rd_T40 l m).f0.f1, (rd_T40 l m).f0.f2⟩, (rd_T40 l m).f1, ⟨k0, bd, ⟨x, y, z⟩⟩⟩ (show bd.length ≤ 1048576 by omega)
        exact ⟨_, _, _, Ev.bind ev (Ev.neg hz (Ev.now_bind e2 (Ev.now_bind e3 (Ev.neg h0 (Ev.neg h1 (Ev.pos h2 (Ev.bind ev4 (Ev.pos hm.1 (Ev.pos hm.2 (Ev.now _)))))))))), s1, s2, cj4⟩
      · exact ⟨_, _, _, Ev.bind ev (Ev.neg hz (Ev.now_bind e2 (Ev.now_bind e3 (Ev.neg h0 (Ev.neg h1 (Ev.neg h2 (Ev.now _))))))), hl, hf, cj3⟩
theorem l1Once_some (b : List Int) (i h n : Int) (c : Cur b i) : ∃ x j g, spec_l1Once.f b i h n = some (x, j, g) ∧ Cur b j := by
  obtain ⟨x, j, g, e, _, _, cj⟩ := l1Below_some b i h n c
  unfold spec_l1Once.f
  rw [e]
  exact ⟨_, _, _, rfl, cj⟩
theorem drawTicksOf_ev (b : List Int) (hb : b.length ≤ 1048576) : ∃ l a p q, Ev (fun k => spec_DrawTicksOf.f k b) (l, a, p, q) ∧ l.length ≤ 7 ∧ (∀ y ∈ l, FitimplCapture y) := by
  obtain ⟨h, eh⟩ := l1New_ev b hb
  obtain ⟨l, j, g, el, hl, hf, cj⟩ := l15Any_ev b 0 h (cur0 b hb)
  unfold spec_DrawTicksOf.f
  by_cases h0 : (l.length : Int) > 0
  · obtain ⟨s, j2, g2, e2, cj2⟩ := l1Once_some b j g 2 cj
    cases s with
    | true => exact ⟨_, _, _, _, Ev.bind eh (Ev.bind el (Ev.pos h0 (Ev.now_bind e2 (Ev.pos rfl (Ev.pos (by omega) (Ev.now _)))))), hl, hf⟩
    | false =>
      obtain ⟨x, y, z, j3, g3, e3, _, _⟩ := l4Draw_some b j2 g2 cj2
      exact ⟨_, _, _, _, Ev.bind eh (Ev.bind el (Ev.pos h0 (Ev.now_bind e2 (Ev.neg (by simp) (Ev.now_bind e3 (Ev.now _)))))), hl, hf⟩
  · obtain ⟨x, y, z, j3, g3, e3, _, _⟩ := l4Draw_some b j g cj
    exact ⟨_, _, _, _, Ev.bind eh (Ev.bind el (Ev.neg h0 (Ev.now_bind e3 (Ev.now _)))), hl, hf⟩
theorem drawNearestAt_ev (b : List Int) (hb : b.length ≤ 1048576) : ∃ l a p q t, Ev (fun k => spec_DrawNearestAt.f k b) (l, a, p, q, t) ∧ l.length ≤ 7 ∧ (∀ y ∈ l, FitimplCapture y) ∧ -1 ≤ t ∧ t ≤ 2001 := by
  obtain ⟨l, a, p, q, ed, hl, hf⟩ := drawTicksOf_ev b hb
  obtain ⟨h, eh⟩ := l1New_ev b hb
  obtain ⟨n, j, g, en, hn, cj⟩ := l1Below_lt b 0 h 20 (by omega) (cur0 b hb)
  obtain ⟨t, j2, g2, et, ht, _⟩ := l1Int_some b j g [0, 5, 10, 15, 20, 2000, 2001, (-1), n] (by simp) cj
  simp only [List.mem_cons, List.not_mem_nil, or_false] at ht
  refine ⟨l, a, p, q, t, ?_, hl, hf, by omega, by omega⟩
  unfold spec_DrawNearestAt.f
  exact Ev.bind ed (Ev.bind eh (Ev.now_bind en (Ev.now_bind et (Ev.now _))))
def pDist (h p q a b c : Int) : Int := if (h == a && (p == b && (q == c))) = true then 0 else if h = a ∧ p = b then 1 else if h = a then 2 else 3
def pOff (l : List S40) (t i : Int) : Int := mx (wrap64 ((rd_T40 l i).f1 - t)) (wrap64 (t - (rd_T40 l i).f1))
def nearStep (l : List S40) (a b c t far : Int) (x : Int) (i : Nat) : Int :=
  if pDist (rd_T40 l (i : Int)).f0.f0 (rd_T40 l (i : Int)).f0.f1 (rd_T40 l (i : Int)).f0.f2 a b c = far then
    (if x < 0 then (i : Int) else if pOff l t (i : Int) < pOff l t x then (i : Int) else if pOff l t (i : Int) = pOff l t x ∧ (rd_T40 l (i : Int)).f1 < (rd_T40 l x).f1 then (i : Int) else x)
  else x
theorem nearStep_in (l : List S40) (a b c t far : Int) (x : Int) (i : Nat) (h : -1 ≤ x ∧ x < (i : Int)) : -1 ≤ nearStep l a b c t far x i ∧ nearStep l a b c t far x i < ((i + 1 : Nat) : Int) := by
  unfold nearStep
  split
  · split
    · omega
    · split
      · omega
      · split <;> omega
  · omega
def pNear (l : List S40) (a b c t far : Int) : Int := (List.range l.length).foldl (nearStep l a b c t far) (-1)
theorem pNear_in (l : List S40) (a b c t far : Int) : -1 ≤ pNear l a b c t far ∧ pNear l a b c t far < (l.length : Int) ∨ pNear l a b c t far = -1 := by
  have key : ∀ n : Nat, (-1 : Int) ≤ (List.range n).foldl (nearStep l a b c t far) (-1) ∧ ((List.range n).foldl (nearStep l a b c t far) (-1) < (n : Int)) := by
    intro n
    induction n with
    | zero => exact ⟨Int.le_refl _, show (-1 : Int) < ((0 : Nat) : Int) by decide⟩
    | succ n ih =>
      rw [List.range_succ, List.foldl_append]
      exact nearStep_in l a b c t far _ n ih
  exact Or.inl (key l.length)
theorem range_get (n i : Nat) (h : i < n) : (List.range n).getD i 0 = i := by
  rw [getD_in _ _ (by simpa using h), List.getElem_range]
theorem iDist_eq (h p q a b c : Int) : impl_DistanceOf.f h p q a b c = some (pDist h p q a b c) := by
  unfold impl_DistanceOf.f pDist
  by_cases h1 : (h == a && (p == b && (q == c))) = true
  · rw [if_pos h1, if_pos h1]
  · rw [if_neg h1, if_neg h1]
    by_cases h2 : h = a
    · by_cases h3 : p = b
      · simp [h2, h3]
      · simp [h2, h3]
    · simp [h2]
theorem iNear_ev (l : List S40) (a b c t far : Int) (h : l.length ≤ 1048576) : Ev (fun k => impl_nearest.f k l a b c t far) (pNear l a b c t far) := by
  unfold impl_nearest.f pNear
  refine ev_foldl (fun k x i => impl_nearest.l0 k l t far x l (l.length : Int) i a b c) (List.range l.length) 0 (nearStep l a b c t far) (fun x => x) (fun i x => -1 ≤ x ∧ x < (i : Int)) (-1) ⟨by omega, by omega⟩ ?_ ?_
  · intro x hx
    simp only [List.length_range] at hx ⊢
    refine Ev.round (fun _ => by rw [impl_nearest.l0]) ?_
    exact Ev.neg (by omega) (Ev.now _)
  · intro i x hi hx
    rw [List.length_range] at hi
    rw [range_get _ _ hi]
    have e1 : wrap64 ((i : Int) + 1) = ((i + 1 : Nat) : Int) := by rw [w64 (by omega) (by omega)]; omega
    refine ⟨nearStep_in l a b c t far x i hx, fun r hr => ?_⟩
    refine Ev.round (fun _ => by rw [impl_nearest.l0]) ?_
    refine Ev.pos (by omega) ?_
    refine Ev.pos (by omega) ?_
    refine Ev.pos (by omega) ?_
    refine Ev.now_bind (iDist_eq _ _ _ _ _ _) ?_
    simp only [e1]
    unfold nearStep at hr
    by_cases c1 : pDist (rd_T40 l (i : Int)).f0.f0 (rd_T40 l (i : Int)).f0.f1 (rd_T40 l (i : Int)).f0.f2 a b c = far
    · rw [if_pos c1] at hr
      refine Ev.pos c1 ?_
      by_cases c2 : x < 0
      · rw [if_pos c2] at hr
        exact Ev.pos c2 hr
      · rw [if_neg c2] at hr
        refine Ev.neg c2 ?_
        refine Ev.now_bind rfl ?_
        refine Ev.pos (by omega) ?_
        refine Ev.pos (by omega) ?_
        refine Ev.now_bind rfl ?_
        by_cases c3 : pOff l t (i : Int) < pOff l t x
        · rw [if_pos c3] at hr
          exact Ev.pos c3 hr
        · rw [if_neg c3] at hr
          refine Ev.neg c3 ?_
          by_cases c4 : pOff l t (i : Int) = pOff l t x
          · refine Ev.pos c4 ?_
            by_cases c5 : (rd_T40 l (i : Int)).f1 < (rd_T40 l x).f1
            · rw [if_pos ⟨c4, c5⟩] at hr
              exact Ev.pos c5 hr
            · rw [if_neg (fun z => c5 z.2)] at hr
              exact Ev.neg c5 hr
          · rw [if_neg (fun z => c4 z.1)] at hr
            exact Ev.neg c4 hr
    · rw [if_neg c1] at hr
      exact Ev.neg c1 hr
theorem InRange_eq (a b c : Int) : impl_InRange.f a b c = some (decide (b ≤ a) && decide (a ≤ c)) := by
  unfold impl_InRange.f
  by_cases h : b ≤ a <;> simp [h]
theorem iIsAddress_eq (h p q : Int) : impl_IsAddress.f h p q = some (pAddr h p q) := by
  simp only [impl_IsAddress.f, InRange_eq, Option.bind_some, some_and]
theorem allIn_ev (l : List Int) (a b : Int) (h : l.length ≤ 1048576) : Ev (fun k => impl_allIn.f k l a b) (l.all (pIn · a b)) := by
  unfold impl_allIn.f
  refine Ev.cast (ev_all (fun k i => impl_allIn.l0 k a b l (l.length : Int) i) l 0 (pIn · a b) true (fun k => by rw [impl_allIn.l0, if_neg (by omega)]) ?_ ?_) (Bool.and_true _)
  · intro i hi hp r hr
    have e1 : wrap64 ((i : Int) + 1) = ((i + 1 : Nat) : Int) := by rw [w64 (by omega) (by omega)]; omega
    refine Ev.round (fun _ => by rw [impl_allIn.l0]) ?_
    refine Ev.pos (by omega) ?_
    refine Ev.pos (by omega) ?_
    refine Ev.pos (by omega) ?_
    refine Ev.now_bind (InRange_eq _ _ _) ?_
    refine Ev.pos ?_ ?_
    · rw [rd_nat]; exact hp
    · simp only [e1]; exact hr
  · intro i hi hp
    refine Ev.round (fun _ => by rw [impl_allIn.l0]) ?_
    refine Ev.pos (by omega) ?_
    refine Ev.pos (by omega) ?_
    refine Ev.pos (by omega) ?_
    refine Ev.now_bind (InRange_eq _ _ _) ?_
    refine Ev.neg ?_ (Ev.now _)
    rw [rd_nat]; exact ne_true_of_eq_false hp
def pRes (k : Int) (b : List Int) (h p q : Int) : Bool :=
  if k = 1 ∨ k = 2 then decide ((b.length : Int) ≤ 6) && (b.all (pIn · 0 255) && pZero h p q)
  else if k = 3 then decide ((b.length : Int) = 0) && pAddr h p q
  else if k = 4 then decide ((b.length : Int) = 0) && pZero h p q
  else false
theorem iIsResource_ev (k : Int) (b : List Int) (h p q : Int) (hb : b.length ≤ 1048576) : Ev (fun n => impl_IsResource.f n k b h p q) (pRes k b h p q) := by
  have hj : ∀ x : Bool, (x = true ↔ k = 1 ∨ k = 2) → Ev (fun n => impl_IsResource.j0 n k x k b h p q) (pRes k b h p q) := by
    intro x hx
    refine Ev.round (fun _ => by rw [impl_IsResource.j0]) ?_
    unfold pRes
    cases x with
    | true =>
      refine Ev.rpos (hx.1 rfl) ?_
      refine Ev.pos rfl ?_
      exact Ev.if_and fun _ => Ev.and (allIn_ev b 0 255 hb) fun _ => Ev.now _
    | false =>
      have hno : ¬ (k = 1 ∨ k = 2) := fun c => by simpa using hx.2 c
      refine Ev.rneg hno ?_
      refine Ev.neg (by simp) ?_
      by_cases h3 : k = 3
      · refine Ev.rpos h3 ?_
        refine Ev.pos h3 ?_
        exact Ev.if_and fun _ => Ev.now_bind (iIsAddress_eq _ _ _) (Ev.now _)
      · refine Ev.rneg h3 ?_
        refine Ev.neg h3 ?_
        by_cases h4 : k = 4
        · refine Ev.rpos h4 ?_
          refine Ev.pos h4 ?_
          exact Ev.if_and fun _ => Ev.now _
        · refine Ev.rneg h4 ?_
          refine Ev.neg h4 ?_
          exact Ev.now _
  unfold impl_IsResource.f
  by_cases h1 : k = 1
  · refine Ev.pos h1 (hj _ ?_)
    simp [h1]
  · refine Ev.neg h1 (hj _ ?_)
    simp [h1]
def pCapture (y : S40) : Bool := pAddr y.f0.f0 y.f0.f1 y.f0.f2 && (pIn y.f1 0 2000 && pRes y.f2.f0 y.f2.f1 y.f2.f2.f0 y.f2.f2.f1 y.f2.f2.f2)
def pAreCaptures (l : List S40) : Bool := l.all pCapture && decide ((l.length : Int) ≤ 20)
theorem iAreCapturesLit_ev (y : S40) (hf : FitimplCapture y) : Ev (fun k => impl_AreCaptures_lit1.f k y.f0.f0 y.f0.f1 y.f0.f2 y.f1 y.f2.f0 y.f2.f1 y.f2.f2.f0 y.f2.f2.f1 y.f2.f2.f2) (!pCapture y) := by
  unfold impl_AreCaptures_lit1.f pCapture
  refine Ev.now_bind (iIsAddress_eq _ _ _) ?_
  cases p1 : pAddr y.f0.f0 y.f0.f1 y.f0.f2 with
  | false => exact Ev.neg (by simp) (Ev.now _)
  | true =>
    refine Ev.pos rfl ?_
    refine Ev.now_bind (InRange_eq _ _ _) ?_
    cases p2 : pIn y.f1 0 2000 with
    | false => exact Ev.neg (ne_true_of_eq_false p2) (Ev.now _)
    | true =>
      refine Ev.pos p2 ?_
      rw [Bool.true_and, Bool.true_and]
      exact Ev.no (iIsResource_ev _ _ _ _ _ hf)
theorem iAreCaptures_ev (l : List S40) (h : l.length ≤ 1048576) (hf : ∀ y ∈ l, FitimplCapture y) : Ev (fun k => impl_AreCaptures.f k l) (pAreCaptures l) := by
  unfold impl_AreCaptures.f pAreCaptures
  rw [Bool.and_comm]
  refine Ev.if_and fun _ => ?_
  rw [← any_not]
  refine Ev.no ?_
  unfold slices_ContainsFunc_73.f
  have hf : ∃ r : Int, Ev (fun k => slices_IndexFunc_73.l0 k l (l.length : Int) 0) r ∧ decide (r ≥ 0) = l.any (fun y => !pCapture y) := by
    refine ev_find (fun k i => slices_IndexFunc_73.l0 k l (l.length : Int) i) l z40 (fun y => !pCapture y) (fun k => by rw [slices_IndexFunc_73.l0, if_neg (by omega)]) ?_ ?_
    · intro i hi hp
      refine Ev.round (fun _ => by rw [slices_IndexFunc_73.l0]) ?_
      refine Ev.pos (by omega) ?_
      refine Ev.pos (by omega) ?_
      refine Ev.pos (by omega) ?_
      refine Ev.bind (iAreCapturesLit_ev (rd_T40 l (i : Int)) (hf _ (getD_mem l i hi z40))) ?_
      refine Ev.pos hp ?_
      exact Ev.now _
    · intro i hi hp r hr
      have e1 : wrap64 ((i : Int) + 1) = ((i + 1 : Nat) : Int) := by rw [w64 (by omega) (by omega)]; omega
      refine Ev.round (fun _ => by rw [slices_IndexFunc_73.l0]) ?_
      refine Ev.pos (by omega) ?_
      refine Ev.pos (by omega) ?_
      refine Ev.pos (by omega) ?_
      refine Ev.bind (iAreCapturesLit_ev (rd_T40 l (i : Int)) (hf _ (getD_mem l i hi z40))) ?_
      refine Ev.neg (ne_true_of_eq_false hp) ?_
      simp only [e1]
      exact hr
  obtain ⟨r, hr, hd⟩ := hf
  rw [← hd]
  exact Ev.bind hr (Ev.now _)
def pNearestAt (l : List S40) (a b c t : Int) : Int × Int :=
  if pAreCaptures l = true ∧ pIn t 0 2000 = true then
    if pNear l a b c t 0 ≥ 0 then (if (rd_T40 l (pNear l a b c t 0)).f1 = t then (0, pNear l a b c t 0) else (1, pNear l a b c t 0))
    else if pNear l a b c t 1 ≥ 0 then (2, pNear l a b c t 1) else (3, -1)
  else (3, -1)
theorem iNearestAt_ev (l : List S40) (a b c t : Int) (h : l.length ≤ 1048576) (hf : ∀ y ∈ l, FitimplCapture y) : Ev (fun k => impl_NearestAt.f k l a b c t) (pNearestAt l a b c t) := by
  have hj : ∀ x : Bool, (x = false ↔ pAreCaptures l = true ∧ pIn t 0 2000 = true) → Ev (fun k => impl_NearestAt.j0 k l t x a b c) (pNearestAt l a b c t) := by
    intro x hx
    unfold pNearestAt
    refine Ev.round (fun _ => by rw [impl_NearestAt.j0]) ?_
    cases x with
    | true =>
      rw [if_neg (fun z => by have := hx.2 z; simp at this)]
      exact Ev.pos rfl (Ev.now _)
    | false =>
      rw [if_pos (hx.1 rfl)]
      refine Ev.neg (by simp) ?_
      refine Ev.bind (iNear_ev l a b c t 0 h) ?_
      have hr := pNear_in l a b c t 0
      generalize pNear l a b c t 0 = n0 at hr
      by_cases c0 : n0 ≥ 0
      · refine Ev.rpos c0 ?_
        refine Ev.pos c0 ?_
        refine Ev.pos c0 ?_
        refine Ev.pos (by omega) ?_
        by_cases c1 : (rd_T40 l n0).f1 = t
        · refine Ev.rpos c1 ?_
          exact Ev.pos c1 (Ev.now _)
        · refine Ev.rneg c1 ?_
          exact Ev.neg c1 (Ev.now _)
      · refine Ev.rneg c0 ?_
        refine Ev.neg c0 ?_
        refine Ev.bind (iNear_ev l a b c t 1 h) ?_
        by_cases c2 : pNear l a b c t 1 ≥ 0
        · refine Ev.rpos c2 ?_
          exact Ev.pos c2 (Ev.now _)
        · refine Ev.rneg c2 ?_
          exact Ev.neg c2 (Ev.now _)
  unfold impl_NearestAt.f
  refine Ev.now_bind (InRange_eq _ _ _) ?_
  cases c1 : pIn t 0 2000 with
  | false =>
    refine Ev.neg (ne_true_of_eq_false c1) ?_
    exact hj true (by simp [c1])
  | true =>
    refine Ev.pos c1 ?_
    refine Ev.bind (iAreCaptures_ev l h hf) ?_
    refine hj _ ?_
    simp [c1]
theorem near_best (l : List S40) (a b c t far : Int) : (pNear l a b c t far = -1 ∧ ∀ i : Nat, i < l.length → pDist (rd_T40 l (i : Int)).f0.f0 (rd_T40 l (i : Int)).f0.f1 (rd_T40 l (i : Int)).f0.f2 a b c ≠ far) ∨
    (0 ≤ pNear l a b c t far ∧ pNear l a b c t far < (l.length : Int) ∧ pDist (rd_T40 l (pNear l a b c t far)).f0.f0 (rd_T40 l (pNear l a b c t far)).f0.f1 (rd_T40 l (pNear l a b c t far)).f0.f2 a b c = far ∧ ∀ i : Nat, i < l.length → pDist (rd_T40 l (i : Int)).f0.f0 (rd_T40 l (i : Int)).f0.f1 (rd_T40 l (i : Int)).f0.f2 a b c = far → pOff l t (pNear l a b c t far) ≤ pOff l t (i : Int)) := by
  unfold pNear
  have key : ∀ n : Nat, ((List.range n).foldl (nearStep l a b c t far) (-1) = -1 ∧ ∀ i : Nat, i < n → pDist (rd_T40 l (i : Int)).f0.f0 (rd_T40 l (i : Int)).f0.f1 (rd_T40 l (i : Int)).f0.f2 a b c ≠ far) ∨
      (0 ≤ (List.range n).foldl (nearStep l a b c t far) (-1) ∧ (List.range n).foldl (nearStep l a b c t far) (-1) < (n : Int) ∧ pDist (rd_T40 l ((List.range n).foldl (nearStep l a b c t far) (-1))).f0.f0 (rd_T40 l ((List.range n).foldl (nearStep l a b c t far) (-1))).f0.f1 (rd_T40 l ((List.range n).foldl (nearStep l a b c t far) (-1))).f0.f2 a b c = far ∧ ∀ i : Nat, i < n → pDist (rd_T40 l (i : Int)).f0.f0 (rd_T40 l (i : Int)).f0.f1 (rd_T40 l (i : Int)).f0.f2 a b c = far → pOff l t ((List.range n).foldl (nearStep l a b c t far) (-1)) ≤ pOff l t (i : Int)) := by
    intro n
    induction n with
    | zero => exact Or.inl ⟨rfl, fun i hi => absurd hi (Nat.not_lt_zero _)⟩
    | succ n ih =>
      rw [List.range_succ, List.foldl_append, List.foldl_cons, List.foldl_nil]
      generalize (List.range n).foldl (nearStep l a b c t far) (-1) = x at ih
      unfold nearStep
      by_cases hd : pDist (rd_T40 l (n : Int)).f0.f0 (rd_T40 l (n : Int)).f0.f1 (rd_T40 l (n : Int)).f0.f2 a b c = far
      · rw [if_pos hd]
        rcases ih with ⟨hx, hno⟩ | ⟨h0, h1, h2, h3⟩
        · rw [if_pos (by omega)]
          refine Or.inr ⟨by omega, by omega, hd, fun i hi hdi => ?_⟩
          by_cases he : i = n
          · subst he; exact Int.le_refl _
          · exact absurd hdi (hno i (by omega))
        · rw [if_neg (by omega)]
          by_cases c1 : pOff l t (n : Int) < pOff l t x
          · rw [if_pos c1]
            refine Or.inr ⟨by omega, by omega, hd, fun i hi hdi => ?_⟩
            by_cases he : i = n
            · subst he; exact Int.le_refl _
            · have := h3 i (by omega) hdi
              omega
          · rw [if_neg c1]
            by_cases c2 : pOff l t (n : Int) = pOff l t x ∧ (rd_T40 l (n : Int)).f1 < (rd_T40 l x).f1
            · rw [if_pos c2]
              refine Or.inr ⟨by omega, by omega, hd, fun i hi hdi => ?_⟩
              by_cases he : i = n
              · subst he; exact Int.le_refl _
              · have := h3 i (by omega) hdi
                have := c2.1
                omega
            · rw [if_neg c2]
              refine Or.inr ⟨h0, by omega, h2, fun i hi hdi => ?_⟩
              by_cases he : i = n
              · subst he; omega
              · exact h3 i (by omega) hdi
      · rw [if_neg hd]
        rcases ih with ⟨hx, hno⟩ | ⟨h0, h1, h2, h3⟩
        · refine Or.inl ⟨hx, fun i hi => ?_⟩
          by_cases he : i = n
          · subst he; exact hd
          · exact hno i (by omega)
        · refine Or.inr ⟨h0, by omega, h2, fun i hi hdi => ?_⟩
          by_cases he : i = n
          · subst he; exact absurd hdi hd
          · exact h3 i (by omega) hdi
  exact key l.length
theorem at_eq (a b : Int) : impl_at.f a b = some (decide (0 ≤ a) && decide (a < b)) := by
  unfold impl_at.f
  by_cases h : 0 ≤ a <;> simp [h]
theorem iTimeOff_eq (l : List S40) (r a t : Int) (h : 0 ≤ a ∧ a < (l.length : Int)) (ht : 0 ≤ t ∧ t ≤ 2000) (hk : 0 ≤ (rd_T40 l a).f1 ∧ (rd_T40 l a).f1 ≤ 2000) : impl_TimeOff.f l r a t = some (pOff l t a) := by
  have h3 : (decide (0 ≤ a) && decide (a < (l.length : Int))) = true := by simp; omega
  have h4 : (decide (0 ≤ t) && decide (t ≤ 2000)) = true := by simp; omega
  have h5 : (decide (0 ≤ (rd_T40 l a).f1) && decide ((rd_T40 l a).f1 ≤ 2000)) = true := by simp; omega
  unfold impl_TimeOff.f impl_distance.f pOff
  rw [at_eq, h3, Option.bind_some, if_pos rfl, InRange_eq, h4, Option.bind_some, if_pos rfl, if_pos h.1, if_pos h.2, InRange_eq, h5, Option.bind_some, if_pos rfl]
  rfl
theorem iTimeOff_no (l : List S40) (r t : Int) : impl_TimeOff.f l r (-1) t = some 0 := by
  unfold impl_TimeOff.f
  rw [at_eq]
  rfl
theorem copyResource_eq (k : Int) (b : List Int) (h p q : Int) (hb : b.length ≤ 1048576) : impl_copyResource.f k b h p q = some (k, b, h, p, q) := by
  simp only [impl_copyResource.f, slices_Clone_int_int.f, Option.bind_some, List.nil_append, List.length_nil]
  rw [if_pos (by omega)]
  rfl
def pResBy (l : List S40) (a : Int) : Int × List Int × Int × Int × Int := if 0 ≤ a ∧ a < (l.length : Int) then ((rd_T40 l a).f2.f0, (rd_T40 l a).f2.f1, (rd_T40 l a).f2.f2.f0, (rd_T40 l a).f2.f2.f1, (rd_T40 l a).f2.f2.f2) else (4, [], 0, 0, 0)
theorem rdCapture_fit (l : List S40) (hf : ∀ y ∈ l, FitimplCapture y) (a : Int) (h : 0 ≤ a ∧ a < (l.length : Int)) : (rd_T40 l a).f2.f1.length ≤ 1048576 := by
  obtain ⟨n, rfl⟩ := Int.eq_ofNat_of_zero_le h.1
  exact hf _ (getD_mem l n (by omega) z40)
theorem pResBy_fit (l : List S40) (hf : ∀ y ∈ l, FitimplCapture y) (a : Int) : (pResBy l a).2.1.length ≤ 1048576 := by
  unfold pResBy
  split
  · rename_i h
    exact rdCapture_fit l hf a h
  · simp
theorem iResBy_eq (l : List S40) (a0 a : Int) (h : l.length ≤ 1048576) (hf : ∀ y ∈ l, FitimplCapture y) : impl_ResourceBy.f l a0 a = some (pResBy l a) := by
  unfold impl_ResourceBy.f pResBy
  rw [at_eq, Option.bind_some]
  by_cases c : 0 ≤ a ∧ a < (l.length : Int)
  · rw [if_pos (by simp only [Bool.and_eq_true, decide_eq_true_eq]; omega), if_pos c.1, if_pos c.2, copyResource_eq _ _ _ _ _ (rdCapture_fit l hf a c), if_pos c]
    rfl
  · rw [if_neg (by simp only [Bool.and_eq_true, decide_eq_true_eq]; omega), if_neg c]
theorem ruleName_some (a : Int) (h : 0 ≤ a ∧ a ≤ 3) : ∃ t, impl_RuleName.f a = some t ∧ t.toList ≠ [] := by
  have h4 : a = 0 ∨ a = 1 ∨ a = 2 ∨ a = 3 := by omega
  unfold impl_RuleName.f
  rw [Option.bind_some]
  rcases h4 with h4 | h4 | h4 | h4
  all_goals
    subst h4
    rw [at_eq]
    exact ⟨_, rfl, by decide +kernel⟩
/-- What the law asks of the answer. -/
theorem nearest_facts (l : List S40) (a p q t : Int) (hv : pAreCaptures l = true ∧ pIn t 0 2000 = true) : ∃ r x, pNearestAt l a p q t = (r, x) ∧
    ((x = -1 ∧ r = 3 ∧ ∀ i : Nat, i < l.length → 1 < pDist (rd_T40 l (i : Int)).f0.f0 (rd_T40 l (i : Int)).f0.f1 (rd_T40 l (i : Int)).f0.f2 a p q) ∨
     (0 ≤ x ∧ x < (l.length : Int) ∧ pDist (rd_T40 l x).f0.f0 (rd_T40 l x).f0.f1 (rd_T40 l x).f0.f2 a p q = 0 ∧ ((r = 0 ∧ (rd_T40 l x).f1 = t) ∨ (r = 1 ∧ (rd_T40 l x).f1 ≠ t)) ∧ ∀ i : Nat, i < l.length → pDist (rd_T40 l (i : Int)).f0.f0 (rd_T40 l (i : Int)).f0.f1 (rd_T40 l (i : Int)).f0.f2 a p q = 0 → pOff l t x ≤ pOff l t (i : Int)) ∨
     (0 ≤ x ∧ x < (l.length : Int) ∧ pDist (rd_T40 l x).f0.f0 (rd_T40 l x).f0.f1 (rd_T40 l x).f0.f2 a p q = 1 ∧ r = 2 ∧ ∀ i : Nat, i < l.length → pDist (rd_T40 l (i : Int)).f0.f0 (rd_T40 l (i : Int)).f0.f1 (rd_T40 l (i : Int)).f0.f2 a p q ≠ 0 ∧ (pDist (rd_T40 l (i : Int)).f0.f0 (rd_T40 l (i : Int)).f0.f1 (rd_T40 l (i : Int)).f0.f2 a p q = 1 → pOff l t x ≤ pOff l t (i : Int)))) := by
  have dge : ∀ h p2 q2 : Int, 0 ≤ pDist h p2 q2 a p q := by
    intro h p2 q2
    unfold pDist
    split
    · omega
    · split
      · omega
      · split <;> omega
  unfold pNearestAt
  rw [if_pos hv]
  have b0 := near_best l a p q t 0
  have b1 := near_best l a p q t 1
  generalize pNear l a p q t 0 = x0 at b0
  generalize pNear l a p q t 1 = x1 at b1
  rcases b0 with ⟨e0, n0⟩ | ⟨p0, p1, p2, p3⟩
  · rw [if_neg (by omega)]
    rcases b1 with ⟨e1, n1⟩ | ⟨q0, q1, q2, q3⟩
    · rw [if_neg (by omega)]
      refine ⟨_, _, rfl, Or.inl ⟨rfl, rfl, fun i hi => ?_⟩⟩
      have h1 := n0 i hi
      have h2 := n1 i hi
      have h3 := dge (rd_T40 l (i : Int)).f0.f0 (rd_T40 l (i : Int)).f0.f1 (rd_T40 l (i : Int)).f0.f2
      omega
    · rw [if_pos (by omega)]
      exact ⟨_, _, rfl, Or.inr (Or.inr ⟨q0, q1, q2, rfl, fun i hi => ⟨n0 i hi, q3 i hi⟩⟩)⟩
  · rw [if_pos (by omega)]
    by_cases ht : (rd_T40 l x0).f1 = t
    · rw [if_pos ht]
      exact ⟨_, _, rfl, Or.inr (Or.inl ⟨p0, p1, p2, Or.inl ⟨rfl, ht⟩, p3⟩)⟩
    · rw [if_neg ht]
      exact ⟨_, _, rfl, Or.inr (Or.inl ⟨p0, p1, p2, Or.inr ⟨rfl, ht⟩, p3⟩)⟩
theorem lastPart_ev (l : List S40) (r x : Int) (h : l.length ≤ 1048576) (hf : ∀ y ∈ l, FitimplCapture y) (hx : (x = -1 ∧ r = 3) ∨ (0 ≤ x ∧ x < (l.length : Int) ∧ r ≤ 2)) : Ev (fun k => laws_FnNearest.j4 k l false r x) true := by
  refine Ev.round (fun _ => by rw [laws_FnNearest.j4]) ?_
  refine Ev.neg (by simp) ?_
  refine Ev.now_bind (iResBy_eq l r x h hf) ?_
  rcases hx with ⟨e, er⟩ | ⟨h0, h1, h2⟩
  · have ep : pResBy l x = (4, [], 0, 0, 0) := by unfold pResBy; rw [if_neg (by omega)]
    rw [ep]
    subst e; subst er
    refine Ev.pos rfl ?_
    refine Ev.pos (by decide) ?_
    refine Ev.now_bind rfl ?_
    exact Ev.cast (Ev.now _) (by decide)
  · have d1 : decide (x ≥ 0) = true := decide_eq_true h0
    have d2 : decide (x < 0) = false := decide_eq_false (by omega)
    have d3 : impl_IsBetter.f r x 3 (-1) = some true := by unfold impl_IsBetter.f; rw [decide_eq_true (by omega)]
    rw [d1, d2]
    by_cases c4 : (pResBy l x).1 = 4
    · exact Ev.pos c4 (Ev.pos (by decide) (Ev.now_bind d3 (Ev.cast (Ev.now _) (by decide))))
    · exact Ev.neg c4 (Ev.pos (by decide) (Ev.now_bind d3 (Ev.cast (Ev.now _) (by decide))))
theorem pDist_in (h p2 q2 a p q : Int) : 0 ≤ pDist h p2 q2 a p q ∧ pDist h p2 q2 a p q ≤ 3 := by
  unfold pDist
  split
  · omega
  · split
    · omega
    · split <;> omega
theorem FnNearest (l0 : List Int) (h0 : (l0.length ≤ maxLen ∧ ∀ e_ ∈ l0, (Lit.int .u8 e_).wf = true)) : ∃ k, laws_FnNearest.f k l0 = some true := by
  refine Ev.rounds ?_
  unfold laws_FnNearest.f laws_big.f
  refine Ev.now_bind rfl ?_
  by_cases hb : (l0.length : Int) > 1048576
  · exact Ev.pos (by simpa using hb) (Ev.now _)
  have hlen : l0.length ≤ 1048576 := by omega
  obtain ⟨l, a, p, q, t, el, hl, hf, ht0, ht1⟩ := drawNearestAt_ev l0 hlen
  refine Ev.neg (by simpa using hb) ?_
  refine Ev.bind el ?_
  refine Ev.bind (iNearestAt_ev l a p q t (by omega) hf) ?_
  have head : ∀ r x : Int, 0 ≤ r ∧ r ≤ 3 → (r = 3 ↔ x = -1) → Ev (fun k => laws_FnNearest.j0 k l t false a p q r x) true → Ev (fun k => (impl_RuleName.f r).bind fun t412 => (if t412.toList = ([] : List UInt8) then (laws_FnNearest.j0 k l t true a p q r x) else (laws_FnNearest.j0 k l t ((r == 3) != (x == (-1))) a p q r x))) true := by
    intro r x hr hrx hj
    obtain ⟨s, es, hne⟩ := ruleName_some r hr
    refine Ev.now_bind es ?_
    refine Ev.neg hne ?_
    have e : ((r == 3) != (x == (-1))) = false := by
      by_cases c : r = 3
      · have := hrx.1 c
        simp [c, this]
      · have c2 : ¬ x = -1 := fun z => c (hrx.2 z)
        rw [show (r == 3) = false from beq_eq_false_iff_ne.2 c, show (x == (-1)) = false from beq_eq_false_iff_ne.2 c2]
        rfl
    rw [e]
    exact hj
  by_cases hv : pAreCaptures l = true ∧ pIn t 0 2000 = true
  · obtain ⟨r, x, e, hfact⟩ := nearest_facts l a p q t hv
    rw [e]
    have htr : 0 ≤ t ∧ t ≤ 2000 := by
      have := hv.2
      simp only [pIn, Bool.and_eq_true, decide_eq_true_eq] at this
      exact this
    have htick : ∀ i : Int, 0 ≤ i → i < (l.length : Int) → 0 ≤ (rd_T40 l i).f1 ∧ (rd_T40 l i).f1 ≤ 2000 := by
      intro i h0 h1
      have hc := hv.1
      unfold pAreCaptures at hc
      simp only [Bool.and_eq_true, List.all_eq_true] at hc
      have h2 := hc.1 _ (getD_mem l i.toNat (by omega) z40)
      unfold pCapture at h2
      simp only [Bool.and_eq_true, pIn, decide_eq_true_eq] at h2
      exact h2.2.1
    have hr : 0 ≤ r ∧ r ≤ 3 := by rcases hfact with h | h | h <;> omega
    have hrx : r = 3 ↔ x = -1 := by rcases hfact with h | h | h <;> omega
    refine head r x hr hrx ?_
    refine Ev.round (fun _ => by rw [laws_FnNearest.j0]) ?_
    refine Ev.neg (by simp) ?_
    refine Ev.bind (iAreCaptures_ev l (by omega) hf) ?_
    refine Ev.pos hv.1 ?_
    refine Ev.neg (by omega) ?_
    rw [decide_eq_false (by omega : ¬ t > 2000)]
    have hoff : ∃ o : Int, impl_TimeOff.f l r x t = some o ∧ (0 ≤ x → o = pOff l t x) := by
      by_cases hx : x = -1
      · subst hx
        exact ⟨0, iTimeOff_no l r t, fun z => by omega⟩
      · have h0 : 0 ≤ x ∧ x < (l.length : Int) := by rcases hfact with h | h | h <;> omega
        exact ⟨_, iTimeOff_eq l r x t h0 htr (htick x h0.1 h0.2), fun _ => rfl⟩
    obtain ⟨o, eo, ho⟩ := hoff
    refine Ev.round (fun _ => by rw [laws_FnNearest.j1]) ?_
    refine Ev.neg (by simp) ?_
    refine Ev.now_bind eo ?_
    have key : ∀ d i : Nat, i + d = l.length → Ev (fun k => laws_FnNearest.l0 k l t o (i : Int) a p q r x) true := by
      intro d
      induction d with
      | zero =>
        intro i hi
        obtain rfl : i = l.length := by omega
        refine Ev.round (fun _ => by rw [laws_FnNearest.l0]) ?_
        refine Ev.neg (by omega) ?_
        rcases hfact with ⟨h1, h2, _⟩ | ⟨h1, h2, h3, h4, _⟩ | ⟨h1, h2, h3, h4, _⟩
        · refine Ev.neg (by omega) ?_
          exact lastPart_ev l r x (by omega) hf (Or.inl ⟨h1, h2⟩)
        · have fin := lastPart_ev l r x (by omega) hf (Or.inr ⟨h1, h2, by omega⟩)
          refine Ev.pos (by omega) ?_
          refine Ev.pos h1 ?_
          refine Ev.pos h2 ?_
          refine Ev.now_bind (iDist_eq _ _ _ _ _ _) ?_
          rw [h3]
          refine Ev.neg (by omega) ?_
          refine Ev.now_bind (iDist_eq _ _ _ _ _ _) ?_
          rw [h3]
          rcases h4 with ⟨h4, h5⟩ | ⟨h4, h5⟩
          · subst h4
            refine Ev.neg (by decide) ?_
            refine Ev.pos rfl ?_
            refine Ev.pos h5 ?_
            exact Ev.neg (by omega) fin
          · subst h4
            have e5 : ((rd_T40 l x).f1 == t) = false := beq_eq_false_iff_ne.2 h5
            rw [e5]
            refine Ev.neg (by decide) ?_
            refine Ev.neg (by omega) ?_
            exact Ev.pos rfl fin
        · have fin := lastPart_ev l r x (by omega) hf (Or.inr ⟨h1, h2, by omega⟩)
          refine Ev.pos (by omega) ?_
          refine Ev.pos h1 ?_
          refine Ev.pos h2 ?_
          refine Ev.now_bind (iDist_eq _ _ _ _ _ _) ?_
          rw [h3]
          refine Ev.neg (by omega) ?_
          refine Ev.now_bind (iDist_eq _ _ _ _ _ _) ?_
          rw [h3]
          subst h4
          refine Ev.neg (by decide) ?_
          refine Ev.neg (by omega) ?_
          exact Ev.neg (by omega) fin
      | succ d ih =>
        intro i hi
        have hil : i < l.length := by omega
        have e1 : wrap64 ((i : Int) + 1) = ((i + 1 : Nat) : Int) := by rw [w64 (by omega) (by omega)]; omega
        have hnext := ih (i + 1) (by omega)
        have go3 : Ev (fun k => laws_FnNearest.j3 k l t o (i : Int) (pDist (rd_T40 l (i : Int)).f0.f0 (rd_T40 l (i : Int)).f0.f1 (rd_T40 l (i : Int)).f0.f2 a p q) false a p q r x 0 (i : Int)) true := by
          refine Ev.round (fun _ => by rw [laws_FnNearest.j3]) ?_
          refine Ev.neg (by simp) ?_
          simp only [e1]
          by_cases c1 : pDist (rd_T40 l (i : Int)).f0.f0 (rd_T40 l (i : Int)).f0.f1 (rd_T40 l (i : Int)).f0.f2 a p q = 1
          · refine Ev.pos c1 ?_
            rcases hfact with ⟨h1, h2, h3⟩ | ⟨h1, h2, h3, h4, _⟩ | ⟨h1, h2, h3, h4, h5⟩
            · have := h3 i hil
              omega
            · exact Ev.neg (by omega) (Ev.neg (by omega) hnext)
            · refine Ev.neg (by omega) ?_
              refine Ev.pos h4 ?_
              refine Ev.now_bind (iTimeOff_eq l 0 (i : Int) t ⟨by omega, by omega⟩ htr (htick _ (by omega) (by omega))) ?_
              refine Ev.neg ?_ hnext
              have h6 := (h5 i hil).2 c1
              have h7 := ho h1
              omega
          · exact Ev.neg c1 hnext
        refine Ev.round (fun _ => by rw [laws_FnNearest.l0]) ?_
        refine Ev.pos (by omega) ?_
        refine Ev.pos (by omega) ?_
        refine Ev.now_bind (iDist_eq _ _ _ _ _ _) ?_
        by_cases c0 : pDist (rd_T40 l (i : Int)).f0.f0 (rd_T40 l (i : Int)).f0.f1 (rd_T40 l (i : Int)).f0.f2 a p q = 0
        · refine Ev.pos c0 ?_
          rcases hfact with ⟨h1, h2, h3⟩ | ⟨h1, h2, h3, h4, h5⟩ | ⟨h1, h2, h3, h4, h5⟩
          · have := h3 i hil
            omega
          · refine Ev.neg (by omega) ?_
            refine Ev.now_bind (iTimeOff_eq l 0 (i : Int) t ⟨by omega, by omega⟩ htr (htick _ (by omega) (by omega))) ?_
            have h6 := h5 i hil c0
            have h7 := ho h1
            rw [decide_eq_false (by omega : ¬ pOff l t (i : Int) < o)]
            exact go3
          · exact absurd c0 (h5 i hil).1
        · exact Ev.neg c0 go3
    exact key l.length 0 (by omega)
  · have e : pNearestAt l a p q t = (3, -1) := by unfold pNearestAt; rw [if_neg hv]
    rw [e]
    refine head 3 (-1) ⟨by omega, by omega⟩ (by simp) ?_
    have hj1 : Ev (fun k => laws_FnNearest.j1 k l t true a p q 3 (-1)) true := by
      refine Ev.round (fun _ => by rw [laws_FnNearest.j1]) ?_
      refine Ev.pos rfl ?_
      exact Ev.cast (Ev.now _) (by decide)
    refine Ev.round (fun _ => by rw [laws_FnNearest.j0]) ?_
    refine Ev.neg (by simp) ?_
    refine Ev.bind (iAreCaptures_ev l (by omega) hf) ?_
    by_cases c1 : pAreCaptures l = true
    · refine Ev.pos c1 ?_
      by_cases c2 : t < 0
      · exact Ev.pos c2 hj1
      · refine Ev.neg c2 ?_
        have c3 : t > 2000 := by
          have h2 : ¬ pIn t 0 2000 = true := fun z => hv ⟨c1, z⟩
          simp only [pIn, Bool.and_eq_true, decide_eq_true_eq] at h2
          omega
        rw [decide_eq_true c3]
        exact hj1
    · exact Ev.neg c1 hj1
end Go.Proofs.Ytgcamebeonodeaa.Pure
