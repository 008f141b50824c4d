/- FnSites: whatever bytes a site, an address and a time are drawn from, the site answers the same from its last change on, it has no answer ahead of its first change, and each chain of moves has at most five addresses, all different, each the one that the one before moves to. No condition. -/
import Derived.Test.YtdpkidjddlnafaaStdFnSites
namespace Go.Proofs.Ytdpkidjddlnafaa.Pure
open Go.RowKit Go.Proofs.Ytdpkidjddlnafaa.MFnSites Go.Proofs.YtdpkidjddlnafaaW.PrintWords Go.Proofs.YtdpkidjddlnafaaW.PrintLast Go.Proofs.YtdpkidjddlnafaaW.PrintMore Go.Proofs.Ytdpkidjddlnafaa.Gen
set_option linter.unusedVariables false
set_option linter.unusedSimpArgs false


def FitimplVersion (y : S98) : Prop := y.f2.f1.length ≤ 1048576
/-- A cursor that stands in its bytes or behind them. -/
def Cur (b : List Int) (i : Int) : Prop := b.length ≤ 1048576 ∧ 0 ≤ i ∧ i ≤ (b.length : Int)
theorem and255 (v : Int) : 0 ≤ Go.bits .and .i64 v 255 ∧ Go.bits .and .i64 v 255 ≤ 255 := by
  have hle : (BitVec.ofInt IntKind.i64.bits v &&& BitVec.ofInt IntKind.i64.bits 255).toNat ≤ 255 := by
    rw [BitVec.toNat_and]
    exact Nat.le_trans Nat.and_le_right (by decide)
  have e : Go.bits .and .i64 v 255 = (((BitVec.ofInt IntKind.i64.bits v &&& BitVec.ofInt IntKind.i64.bits 255).toNat : Nat) : Int) := by
    simp only [Go.bits]
    rw [IntKind.wrap_i64]
    omega
  rw [e]
  omega
theorem l1New_ev (b : List Int) (hb : b.length ≤ 1048576) : ∃ h, Ev (fun k => spec_l1New.f k b) (b, 0, h) := by
  unfold spec_l1New.f
  have key : ∀ d i : Nat, i + d = b.length → ∀ h : Int, ∃ g, Ev (fun k => spec_l1New.l0 k b h (i : Int)) (b, 0, g) := by
    intro d
    induction d with
    | zero =>
      intro i hi h
      refine ⟨h, ?_⟩
      refine Ev.round (fun _ => by rw [spec_l1New.l0]) ?_
      refine Ev.neg (by omega) ?_
      exact Ev.now _
    | succ d ih =>
      intro i hi h
      by_cases h4 : (i : Int) < 4000
      · have e1 : wrap64 ((i : Int) + 1) = ((i + 1 : Nat) : Int) := by rw [w64 (by omega) (by omega)]; omega
        obtain ⟨g, hg⟩ := ih (i + 1) (by omega) (Go.bits .and .i64 (wrap64 ((wrap64 ((wrap64 (h * 137)) + (wrap64 (rd b (i : Int))))) + 11)) 1073741823)
        refine ⟨g, ?_⟩
        refine Ev.round (fun _ => by rw [spec_l1New.l0]) ?_
        refine Ev.pos (by omega) ?_
        refine Ev.pos h4 ?_
        refine Ev.pos (by omega) ?_
        simp only [e1]
        exact hg
      · refine ⟨h, ?_⟩
        refine Ev.round (fun _ => by rw [spec_l1New.l0]) ?_
        refine Ev.pos (by omega) ?_
        refine Ev.neg h4 ?_
        exact Ev.now _
  exact key b.length 0 (by omega) _
theorem cur0 (b : List Int) (hb : b.length ≤ 1048576) : Cur b 0 := ⟨hb, by omega, by omega⟩
theorem l1Byte_some (b : List Int) (i h : Int) (c : Cur b i) : ∃ x j g, spec_l1Byte.f b i h = some (x, j, g) ∧ (0 ≤ x ∧ x ≤ 255) ∧ Cur b j := by
  obtain ⟨c1, c2, c3⟩ := c
  unfold spec_l1Byte.f
  by_cases hi : i < (b.length : Int)
  · rw [if_pos hi, if_pos c2]
    exact ⟨_, _, _, rfl, and255 _, c1, by rw [w64 (by omega) (by omega)]; omega, by rw [w64 (by omega) (by omega)]; omega⟩
  · rw [if_neg hi]
    exact ⟨_, _, _, rfl, and255 _, c1, c2, c3⟩
theorem l1Below_some (b : List Int) (i h n : Int) (c : Cur b i) : ∃ x j g, spec_l1Below.f b i h n = some (x, j, g) ∧ 0 ≤ x ∧ (0 < n → x < n) ∧ Cur b j := by
  unfold spec_l1Below.f
  by_cases h0 : n ≤ 0
  · rw [if_pos h0]
    exact ⟨0, i, h, rfl, by omega, by omega, c⟩
  rw [if_neg h0]
  by_cases h1 : n ≤ 256
  · rw [if_pos h1]
    obtain ⟨x, j, g, e, b1, cj⟩ := l1Byte_some b i h c
    rw [e]
    simp only [Option.bind_some]
    rw [if_neg (by omega)]
    refine ⟨_, _, _, rfl, ?_, ?_, cj⟩
    · rw [Int.tmod_eq_emod_of_nonneg b1.1]
      exact Int.emod_nonneg _ (by omega)
    · intro hn
      rw [Int.tmod_eq_emod_of_nonneg b1.1]
      exact Int.emod_lt_of_pos _ hn
  · rw [if_neg h1]
    obtain ⟨x, j, g, e, b1, cj⟩ := l1Byte_some b i h c
    obtain ⟨y, j2, g2, e2, b2, cj2⟩ := l1Byte_some b j g cj
    obtain ⟨z, j3, g3, e3, b3, cj3⟩ := l1Byte_some b j2 g2 cj2
    rw [e]
    simp only [Option.bind_some]
    rw [e2]
    simp only [Option.bind_some]
    rw [e3]
    simp only [Option.bind_some]
    rw [if_neg (by omega)]
    have hv : 0 ≤ wrap64 (wrap64 (wrap64 (x * 65536) + wrap64 (y * 256)) + z) := by
      rw [w64 (n := x * 65536) (by omega) (by omega), w64 (n := y * 256) (by omega) (by omega), w64 (n := x * 65536 + y * 256) (by omega) (by omega), w64 (by omega) (by omega)]
      omega
    refine ⟨_, _, _, rfl, ?_, ?_, cj3⟩
    · rw [Int.tmod_eq_emod_of_nonneg hv]
      exact Int.emod_nonneg _ (by omega)
    · intro hn
      rw [Int.tmod_eq_emod_of_nonneg hv]
      exact Int.emod_lt_of_pos _ hn
theorem l1Below_lt (b : List Int) (i h n : Int) (hn : 0 < n) (c : Cur b i) : ∃ x j g, spec_l1Below.f b i h n = some (x, j, g) ∧ (0 ≤ x ∧ x < n) ∧ Cur b j := by
  obtain ⟨x, j, g, e, h0, h1, cj⟩ := l1Below_some b i h n c
  exact ⟨x, j, g, e, ⟨h0, h1 hn⟩, cj⟩
theorem l4Draw_some (b : List Int) (i h : Int) (c : Cur b i) : ∃ x y z j g, spec_l4Draw.f b i h = some (x, y, z, j, g) ∧ (1 ≤ x ∧ x ≤ 3 ∧ 0 ≤ y ∧ y ≤ 2 ∧ 0 ≤ z ∧ z ≤ 2) ∧ Cur b j := by
  obtain ⟨x, j, g, e, hx, cj⟩ := l1Below_lt b i h 3 (by omega) c
  obtain ⟨y, j2, g2, e2, hy, cj2⟩ := l1Below_lt b j g 3 (by omega) cj
  obtain ⟨z, j3, g3, e3, hz, cj3⟩ := l1Below_lt b j2 g2 3 (by omega) cj2
  have ew : wrap64 (1 + x) = 1 + x := w64 (by omega) (by omega)
  refine ⟨1 + x, y, z, j3, g3, ?_, by omega, cj3⟩
  unfold spec_l4Draw.f
  rw [e, Option.bind_some]
  dsimp only
  rw [e2, Option.bind_some]
  dsimp only
  rw [e3, Option.bind_some]
  dsimp only
  rw [ew]
theorem l5Body_ev (b : List Int) (i h : Int) (c : Cur b i) : ∃ l j g, Ev (fun k => spec_l5Body.f k b i h) (l, j, g) ∧ l.length ≤ 4 ∧ Cur b j := by
  obtain ⟨n, j, g, e, hn, cj⟩ := l1Below_lt b i h 5 (by omega) c
  have key : ∀ (d : Nat) (l : List Int) (i h : Int), Cur b i → l.length + d ≤ 4 → ∃ l' j g, Ev (fun k => spec_l5Body.l0 k l (d : Int) b i h) (l', j, g) ∧ l'.length ≤ 4 ∧ Cur b j := by
    intro d
    induction d with
    | zero =>
      intro l i h c hl
      refine ⟨l, i, h, ?_, by omega, c⟩
      refine Ev.round (fun _ => by rw [spec_l5Body.l0]) ?_
      exact Ev.neg (by omega) (Ev.now _)
    | succ d ih =>
      intro l i h c hl
      obtain ⟨x, j, g, e, hx, cj⟩ := l1Below_lt b i h 9 (by omega) c
      have e1 : wrap64 (((d + 1 : Nat) : Int) - 1) = (d : Int) := by rw [w64 (by omega) (by omega)]; omega
      obtain ⟨l', j', g', ev, hl', cj'⟩ := ih (l ++ [x]) j g cj (by rw [List.length_append, List.length_singleton]; omega)
      refine ⟨l', j', g', ?_, hl', cj'⟩
      refine Ev.round (fun _ => by rw [spec_l5Body.l0]) ?_
      refine Ev.pos (by omega) ?_
      refine Ev.now_bind e ?_
      refine Ev.pos (by omega) ?_
      simp only [e1]
      exact ev
  obtain ⟨l, j', g', ev, hl, cj'⟩ := key n.toNat [] j g cj (by simp; omega)
  refine ⟨l, j', g', ?_, hl, cj'⟩
  unfold spec_l5Body.f
  refine Ev.now_bind e ?_
  have en : ((n.toNat : Nat) : Int) = n := by omega
  rw [en] at ev
  exact ev
theorem l5Draw_ev (b : List Int) (i h : Int) (c : Cur b i) : ∃ k0 l x y z j g, Ev (fun k => spec_l5Draw.f k b i h) (k0, l, x, y, z, j, g) ∧ l.length ≤ 4 ∧ Cur b j := by
  obtain ⟨n, j, g, e, hn, cj⟩ := l1Below_lt b i h 6 (by omega) c
  unfold spec_l5Draw.f
  by_cases h0 : n = 0
  · obtain ⟨x, y, z, j2, g2, e2, _, cj2⟩ := l4Draw_some b j g cj
    refine ⟨3, [], x, y, z, j2, g2, ?_, by simp, cj2⟩
    refine Ev.now_bind e ?_
    refine Ev.pos h0 ?_
    refine Ev.now_bind e2 ?_
    exact Ev.now _
  · by_cases h1 : n = 1
    · refine ⟨4, [], 0, 0, 0, j, g, ?_, by simp, cj⟩
      refine Ev.now_bind e ?_
      refine Ev.neg h0 ?_
      refine Ev.pos h1 ?_
      exact Ev.now _
    · obtain ⟨x, j2, g2, e2, hx, cj2⟩ := l1Below_lt b j g 2 (by omega) cj
      obtain ⟨l, j3, g3, ev, hl, cj3⟩ := l5Body_ev b j2 g2 cj2
      refine ⟨wrap64 (1 + x), l, 0, 0, 0, j3, g3, ?_, hl, cj3⟩
      refine Ev.now_bind e ?_
      refine Ev.neg h0 ?_
      refine Ev.neg h1 ?_
      refine Ev.now_bind e2 ?_
      refine Ev.bind ev ?_
      exact Ev.now _
def DrawnV (y : S98) : Prop := FitimplVersion y ∧ 0 ≤ y.f1 ∧ y.f1 ≤ 11
theorem l9Draw_ev (b : List Int) (i h : Int) (c : Cur b i) : ∃ l j g, Ev (fun k => spec_l9Draw.f k b i h) (l, j, g) ∧ l.length ≤ 8 ∧ (∀ y ∈ l, DrawnV y) ∧ Cur b j := by
  obtain ⟨n, j, g, e, hn, cj⟩ := l1Below_lt b i h 9 (by omega) c
  have key : ∀ (d : Nat) (l : List S98) (i h : Int), Cur b i → l.length + d ≤ 8 → (∀ y ∈ l, DrawnV y) → ∃ l' j g, Ev (fun k => spec_l9Draw.l0 k l (d : Int) b i h) (l', j, g) ∧ l'.length ≤ 8 ∧ (∀ y ∈ l', DrawnV y) ∧ Cur b j := by
    intro d
    induction d with
    | zero =>
      intro l i h c hl hd
      refine ⟨l, i, h, ?_, by omega, hd, c⟩
      refine Ev.round (fun _ => by rw [spec_l9Draw.l0]) ?_
      exact Ev.neg (by omega) (Ev.now _)
    | succ d ih =>
      intro l i h c hl hd
      obtain ⟨a, p, q, j, g, e, _, cj⟩ := l4Draw_some b i h c
      obtain ⟨t, j2, g2, e2, ht, cj2⟩ := l1Below_lt b j g 12 (by omega) cj
      obtain ⟨k0, bd, x, y, z, j3, g3, ev, hbd, cj3⟩ := l5Draw_ev b j2 g2 cj2
      have e1 : wrap64 (((d + 1 : Nat) : Int) - 1) = (d : Int) := by rw [w64 (by omega) (by omega)]; omega
      obtain ⟨l', j', g', ev', hl', hd', cj'⟩ := ih (l ++ [⟨⟨a, p, q⟩, t, ⟨k0, bd, ⟨x, y, z⟩⟩⟩]) j3 g3 cj3 (by rw [List.length_append, List.length_singleton]; omega) (by
        intro y hy
        rcases List.mem_append.1 hy with hy | hy
        · exact hd y hy
        · rw [List.mem_singleton] at hy
          rw [hy]
          refine ⟨?_, ht.1, ?_⟩
          · show bd.length ≤ 1048576
            omega
          · show t ≤ 11
            omega)
      refine ⟨l', j', g', ?_, hl', hd', cj'⟩
      refine Ev.round (fun _ => by rw [spec_l9Draw.l0]) ?_
      refine Ev.pos (by omega) ?_
      refine Ev.now_bind e ?_
      refine Ev.now_bind e2 ?_
      refine Ev.bind ev ?_
      refine Ev.pos (by omega) ?_
      simp only [e1]
      exact ev'
  obtain ⟨l, j', g', ev, hl, hd, cj'⟩ := key n.toNat [] j g cj (by simp; omega) (by simp)
  refine ⟨l, j', g', ?_, hl, hd, cj'⟩
  unfold spec_l9Draw.f
  refine Ev.now_bind e ?_
  have en : ((n.toNat : Nat) : Int) = n := by omega
  rw [en] at ev
  exact ev
theorem l1Once_some (b : List Int) (i h n : Int) (c : Cur b i) : ∃ x j g, spec_l1Once.f b i h n = some (x, j, g) ∧ Cur b j := by
  obtain ⟨x, j, g, e, _, _, cj⟩ := l1Below_some b i h n c
  unfold spec_l1Once.f
  rw [e]
  exact ⟨_, _, _, rfl, cj⟩
theorem l9Ask_ev (b : List Int) (i h : Int) (l : List S98) (c : Cur b i) : ∃ x y z j g, Ev (fun k => spec_l9Ask.f k b i h l) (x, y, z, j, g) ∧ Cur b j := by
  have no : ∀ i h : Int, Cur b i → ∃ x y z j g, Ev (fun k => spec_l9Ask.j0 k l false b i h) (x, y, z, j, g) ∧ Cur b j := by
    intro i h c
    obtain ⟨x, y, z, j, g, e, _, cj⟩ := l4Draw_some b i h c
    refine ⟨x, y, z, j, g, ?_, cj⟩
    refine Ev.round (fun _ => by rw [spec_l9Ask.j0]) ?_
    refine Ev.neg (by simp) ?_
    refine Ev.now_bind e ?_
    exact Ev.now _
  unfold spec_l9Ask.f
  by_cases h0 : (l.length : Int) > 0
  · obtain ⟨s, j, g, e, cj⟩ := l1Once_some b i h 2 c
    cases s with
    | false =>
      obtain ⟨x, y, z, j', g', ev, cj'⟩ := no j g cj
      exact ⟨x, y, z, j', g', Ev.pos h0 (Ev.now_bind e ev), cj'⟩
    | true =>
      obtain ⟨n, j2, g2, e2, hn, cj2⟩ := l1Below_lt b j g (l.length : Int) h0 cj
      refine ⟨(rd_T98 l n).f0.f0, (rd_T98 l n).f0.f1, (rd_T98 l n).f0.f2, j2, g2, ?_, cj2⟩
      refine Ev.pos h0 ?_
      refine Ev.now_bind e ?_
      refine Ev.round (fun _ => by rw [spec_l9Ask.j0]) ?_
      refine Ev.pos rfl ?_
      refine Ev.now_bind e2 ?_
      refine Ev.pos hn.1 ?_
      refine Ev.pos hn.2 ?_
      exact Ev.now _
  · obtain ⟨x, y, z, j', g', ev, cj'⟩ := no i h c
    exact ⟨x, y, z, j', g', Ev.neg h0 ev, cj'⟩
theorem drawAnswerAt_ev (b : List Int) (hb : b.length ≤ 1048576) : ∃ l a p q t, Ev (fun k => spec_DrawAnswerAt.f k b) (l, a, p, q, t) ∧ l.length ≤ 8 ∧ (∀ y ∈ l, DrawnV y) ∧ 0 ≤ t ∧ t ≤ 13 := by
  obtain ⟨h, eh⟩ := l1New_ev b hb
  obtain ⟨l, j, g, el, hl, hd, cj⟩ := l9Draw_ev b 0 h (cur0 b hb)
  obtain ⟨x, y, z, j2, g2, ea, cj2⟩ := l9Ask_ev b j g l cj
  obtain ⟨t, j3, g3, et, ht, cj3⟩ := l1Below_lt b j2 g2 14 (by omega) cj2
  refine ⟨l, x, y, z, t, ?_, hl, hd, ht.1, by omega⟩
  unfold spec_DrawAnswerAt.f
  exact Ev.bind eh (Ev.bind el (Ev.bind ea (Ev.now_bind et (Ev.now _))))
theorem drawFollowAt_ev (b : List Int) (hb : b.length ≤ 1048576) : ∃ l a p q t, Ev (fun k => spec_DrawFollowAt.f k b) (l, a, p, q, t) ∧ l.length ≤ 1048576 ∧ (∀ y ∈ l, FitimplVersion y) := by
  obtain ⟨l, a, p, q, t, ed, hl, hd, _⟩ := drawAnswerAt_ev b hb
  obtain ⟨h, eh⟩ := l1New_ev b hb
  obtain ⟨n, j, g, en, hn, cj⟩ := l1Below_lt b 0 h 4 (by omega) (cur0 b hb)
  have key : ∀ (d : Nat) (l : List S98) (i h : Int), Cur b i → l.length + d ≤ 1000 → (∀ y ∈ l, FitimplVersion y) → ∃ l', Ev (fun k => spec_DrawFollowAt.l0 k l t (d : Int) a p q b i h) (l', a, p, q, t) ∧ l'.length ≤ 1000 ∧ (∀ y ∈ l', FitimplVersion y) := by
    intro d
    induction d with
    | zero =>
      intro l i h c hl hd
      refine ⟨l, ?_, by omega, hd⟩
      refine Ev.round (fun _ => by rw [spec_DrawFollowAt.l0]) ?_
      exact Ev.neg (by omega) (Ev.now _)
    | succ d ih =>
      intro l i h c hl hd
      obtain ⟨a1, p1, q1, j, g, e, _, cj⟩ := l4Draw_some b i h c
      obtain ⟨a2, p2, q2, j2, g2, e2, _, cj2⟩ := l4Draw_some b j g cj
      have e1 : wrap64 (((d + 1 : Nat) : Int) - 1) = (d : Int) := by rw [w64 (by omega) (by omega)]; omega
      obtain ⟨l', ev', hl', hd'⟩ := ih (l ++ [⟨⟨a1, p1, q1⟩, 0, ⟨3, [], ⟨a2, p2, q2⟩⟩⟩]) j2 g2 cj2 (by rw [List.length_append, List.length_singleton]; omega) (by
        intro y hy
        rcases List.mem_append.1 hy with hy | hy
        · exact hd y hy
        · rw [List.mem_singleton] at hy
          rw [hy]
          show (([] : List Int)).length ≤ 1048576
          simp)
      refine ⟨l', ?_, hl', hd'⟩
      refine Ev.round (fun _ => by rw [spec_DrawFollowAt.l0]) ?_
      refine Ev.pos (by omega) ?_
      refine Ev.now_bind e ?_
      refine Ev.now_bind e2 ?_
      refine Ev.pos (by omega) ?_
      simp only [e1]
      exact ev'
  obtain ⟨l', ev, hl', hd'⟩ := key n.toNat l j g cj (by omega) (fun y hy => (hd y hy).1)
  have en2 : ((n.toNat : Nat) : Int) = n := by omega
  rw [en2] at ev
  refine ⟨l', a, p, q, t, ?_, by omega, hd'⟩
  unfold spec_DrawFollowAt.f
  exact Ev.bind ed (Ev.bind eh (Ev.now_bind en ev))
theorem sorted_eq (l : List Int) (h : l.length ≤ 4194304) : impl_sorted.f l = some (Lib.compact (l.mergeSort fun x y => decide (x ≤ y))) := by
  unfold impl_sorted.f slices_Clone_int_int.f
  rw [Option.bind_some, List.nil_append, if_pos (by simp only [List.length_nil]; omega), Option.bind_some, if_pos (by omega)]
def pPut : List Int → Int → List Int
  | [], n => [n]
  | y :: l, n => if y < n then y :: pPut l n else if y = n then y :: l else n :: y :: l
theorem pPut_mem (l : List Int) (n x : Int) : x ∈ pPut l n ↔ x = n ∨ x ∈ l := by
  induction l with
  | nil => simp [pPut]
  | cons y l ih =>
    unfold pPut
    split
    · rw [List.mem_cons, ih, List.mem_cons]
      constructor
      · rintro (h | h | h)
        · exact Or.inr (Or.inl h)
        · exact Or.inl h
        · exact Or.inr (Or.inr h)
      · rintro (h | h | h)
        · exact Or.inr (Or.inl h)
        · exact Or.inl h
        · exact Or.inr (Or.inr h)
    · split
      · rename_i h
        subst h
        simp
      · simp
theorem pPut_length (l : List Int) (n : Int) : (pPut l n).length ≤ l.length + 1 := by
  induction l with
  | nil => simp [pPut]
  | cons y l ih =>
    unfold pPut
    split
    · simp only [List.length_cons]
      omega
    · split
      · simp
      · simp
theorem asc_unique : ∀ (a b : List Int), a.Pairwise (· < ·) → b.Pairwise (· < ·) → (∀ x, x ∈ a ↔ x ∈ b) → a = b
  | [], [], _, _, _ => rfl
  | [], y :: b, _, _, h => absurd ((h y).2 (List.mem_cons_self ..)) (by simp)
  | x :: a, [], _, _, h => absurd ((h x).1 (List.mem_cons_self ..)) (by simp)
  | x :: a, y :: b, ha, hb, h => by
    obtain ⟨ha1, ha2⟩ := List.pairwise_cons.1 ha
    obtain ⟨hb1, hb2⟩ := List.pairwise_cons.1 hb
    have e : x = y := by
      rcases List.mem_cons.1 ((h x).1 (List.mem_cons_self ..)) with e | e
      · exact e
      · rcases List.mem_cons.1 ((h y).2 (List.mem_cons_self ..)) with e2 | e2
        · exact e2.symm
        · have h1 := hb1 x e
          have h2 := ha1 y e2
          omega
    subst e
    rw [asc_unique a b ha2 hb2 (fun z => by
      constructor
      · intro hz
        have h1 := ha1 z hz
        rcases List.mem_cons.1 ((h z).1 (List.mem_cons_of_mem _ hz)) with e | e
        · omega
        · exact e
      · intro hz
        have h1 := hb1 z hz
        rcases List.mem_cons.1 ((h z).2 (List.mem_cons_of_mem _ hz)) with e | e
        · omega
        · exact e)]
theorem pPut_asc (l : List Int) (n : Int) (h : l.Pairwise (· < ·)) : (pPut l n).Pairwise (· < ·) := by
  induction l with
  | nil => simp [pPut]
  | cons y l ih =>
    obtain ⟨h1, h2⟩ := List.pairwise_cons.1 h
    unfold pPut
    split
    · rename_i c
      refine List.pairwise_cons.2 ⟨fun z hz => ?_, ih h2⟩
      rcases (pPut_mem l n z).1 hz with e | e
      · omega
      · exact h1 z e
    · split
      · exact h
      · refine List.pairwise_cons.2 ⟨fun z hz => ?_, h⟩
        rcases List.mem_cons.1 hz with e | e
        · omega
        · have := h1 z e
          omega
theorem compact_asc (d : Array Int) (hs : ∀ i j, i < j → j < d.size → d[i]! ≤ d[j]!) : ∀ m, m ≤ d.size → (Lib.compactUpTo d m).Pairwise (· < ·) ∧ (∀ x ∈ Lib.compactUpTo d m, ∃ j, j < m ∧ x = d[j]!) ∧ ∀ j, j < m → d[j]! ∈ Lib.compactUpTo d m := by
  intro m
  induction m with
  | zero => intro _; exact ⟨by simp [Lib.compactUpTo], by simp [Lib.compactUpTo], fun j hj => by omega⟩
  | succ m ih =>
    intro hm
    obtain ⟨h1, h2, h3⟩ := ih (by omega)
    rw [Lib.compactUpTo_succ]
    by_cases hk : m = 0 ∨ d[m]! ≠ d[m - 1]!
    · have hk2 : Lib.keeps d m = true := by unfold Lib.keeps; exact decide_eq_true hk
      rw [hk2, if_pos rfl]
      refine ⟨List.pairwise_append.2 ⟨h1, List.pairwise_singleton _ _, ?_⟩, ?_, ?_⟩
      · intro x hx y hy
        rw [List.mem_singleton] at hy
        subst hy
        obtain ⟨j, hj, rfl⟩ := h2 x hx
        have ha : d[m - 1]! ≤ d[m]! := hs (m - 1) m (by omega) (by omega)
        have hb : d[j]! ≤ d[m - 1]! := by
          by_cases e : j = m - 1
          · subst e; exact Int.le_refl _
          · exact hs j (m - 1) (by omega) (by omega)
        rcases hk with hk | hk
        · omega
        · omega
      · intro x hx
        rcases List.mem_append.1 hx with hx | hx
        · obtain ⟨j, hj, e⟩ := h2 x hx
          exact ⟨j, by omega, e⟩
        · rw [List.mem_singleton] at hx
          exact ⟨m, by omega, hx⟩
      · intro j hj
        by_cases e : j = m
        · subst e; exact List.mem_append.2 (Or.inr (List.mem_singleton.2 rfl))
        · exact List.mem_append.2 (Or.inl (h3 j (by omega)))
    · have hk2 : Lib.keeps d m = false := by unfold Lib.keeps; exact decide_eq_false hk
      rw [hk2, if_neg (by simp), List.append_nil]
      refine ⟨h1, fun x hx => ?_, fun j hj => ?_⟩
      · obtain ⟨j, hj, e⟩ := h2 x hx
        exact ⟨j, by omega, e⟩
      · by_cases e : j = m
        · subst e
          have e2 : d[j]! = d[j - 1]! := Classical.byContradiction fun c => hk (Or.inr c)
          rw [e2]
          exact h3 (j - 1) (by omega)
        · exact h3 j (by omega)
/-- Sorted and each once: whatever the way, the same list. -/
theorem sorted_asc (zs : List Int) : (Lib.compact (zs.mergeSort fun x y => decide (x ≤ y))).Pairwise (· < ·) ∧ ∀ x, x ∈ Lib.compact (zs.mergeSort fun x y => decide (x ≤ y)) ↔ x ∈ zs := by
  have hp := List.mergeSort_perm zs fun x y => decide (x ≤ y)
  have hs := List.pairwise_mergeSort (le := fun x y : Int => decide (x ≤ y)) (fun a b c h1 h2 => by simp only [decide_eq_true_eq] at *; omega) (fun a b => by simp only [Bool.or_eq_true, decide_eq_true_eq]; omega) zs
  generalize (zs.mergeSort fun x y => decide (x ≤ y)) = ys at hp hs
  have hd : ∀ i j, i < j → j < ys.toArray.size → ys.toArray[i]! ≤ ys.toArray[j]! := by
    intro i j hij hj
    have hj' : j < ys.length := by simpa using hj
    have := List.pairwise_iff_getElem.1 hs i j (by omega) hj' hij
    simp only [decide_eq_true_eq] at this
    simpa [getElem!_pos, hj', show i < ys.length by omega] using this
  obtain ⟨h1, h2, h3⟩ := compact_asc ys.toArray hd ys.length (by simp)
  refine ⟨h1, fun x => ?_⟩
  rw [← hp.mem_iff]
  constructor
  · intro hx
    obtain ⟨j, hj, rfl⟩ := h2 x hx
    simp [getElem!_pos, hj]
  · intro hx
    obtain ⟨j, hj, rfl⟩ := List.mem_iff_getElem.1 hx
    have := h3 j hj
    have e : ys.toArray[j]! = ys[j] := by simp [getElem!_pos, hj]
    rw [e] at this
    exact this
theorem put_fold {α : Type} (p : α → Bool) (g : α → Int) : ∀ (l : List α) (s : List Int), (s.Pairwise (· < ·) → (l.foldl (fun s y => if p y = true then pPut s (g y) else s) s).Pairwise (· < ·)) ∧ (∀ x, x ∈ l.foldl (fun s y => if p y = true then pPut s (g y) else s) s ↔ x ∈ s ∨ ∃ y ∈ l, p y = true ∧ g y = x) := by
  intro l
  induction l with
  | nil => intro s; exact ⟨fun h => h, fun x => by simp⟩
  | cons y l ih =>
    intro s
    rw [List.foldl_cons]
    by_cases c : p y = true
    · rw [if_pos c]
      obtain ⟨h1, h2⟩ := ih (pPut s (g y))
      refine ⟨fun h => h1 (pPut_asc s _ h), fun x => ?_⟩
      rw [h2, pPut_mem]
      constructor
      · rintro ((h | h) | ⟨z, hz, hp, hg⟩)
        · exact Or.inr ⟨y, List.mem_cons_self .., c, h.symm⟩
        · exact Or.inl h
        · exact Or.inr ⟨z, List.mem_cons_of_mem _ hz, hp, hg⟩
      · rintro (h | ⟨z, hz, hp, hg⟩)
        · exact Or.inl (Or.inr h)
        · rcases List.mem_cons.1 hz with e | e
          · subst e; exact Or.inl (Or.inl hg.symm)
          · exact Or.inr ⟨z, e, hp, hg⟩
    · rw [if_neg c]
      obtain ⟨h1, h2⟩ := ih s
      refine ⟨h1, fun x => ?_⟩
      rw [h2]
      constructor
      · rintro (h | ⟨z, hz, hp, hg⟩)
        · exact Or.inl h
        · exact Or.inr ⟨z, List.mem_cons_of_mem _ hz, hp, hg⟩
      · rintro (h | ⟨z, hz, hp, hg⟩)
        · exact Or.inl h
        · rcases List.mem_cons.1 hz with e | e
          · subst e; exact absurd hp c
          · exact Or.inr ⟨z, e, hp, hg⟩
theorem app_fold {α : Type} (p : α → Bool) (g : α → Int) : ∀ (l : List α) (s : List Int), (l.foldl (fun s y => if p y = true then s ++ [g y] else s) s).length ≤ s.length + l.length ∧ (∀ x, x ∈ l.foldl (fun s y => if p y = true then s ++ [g y] else s) s ↔ x ∈ s ∨ ∃ y ∈ l, p y = true ∧ g y = x) := by
  intro l
  induction l with
  | nil => intro s; exact ⟨Nat.le_refl _, fun x => by simp⟩
  | cons y l ih =>
    intro s
    rw [List.foldl_cons, List.length_cons]
    by_cases c : p y = true
    · rw [if_pos c]
      obtain ⟨h1, h2⟩ := ih (s ++ [g y])
      rw [List.length_append, List.length_singleton] at h1
      refine ⟨by omega, fun x => ?_⟩
      rw [h2, List.mem_append, List.mem_singleton]
      constructor
      · rintro ((h | h) | ⟨z, hz, hp, hg⟩)
        · exact Or.inl h
        · exact Or.inr ⟨y, List.mem_cons_self .., c, h.symm⟩
        · exact Or.inr ⟨z, List.mem_cons_of_mem _ hz, hp, hg⟩
      · rintro (h | ⟨z, hz, hp, hg⟩)
        · exact Or.inl (Or.inl h)
        · rcases List.mem_cons.1 hz with e | e
          · subst e; exact Or.inl (Or.inr hg.symm)
          · exact Or.inr ⟨z, e, hp, hg⟩
    · rw [if_neg c]
      obtain ⟨h1, h2⟩ := ih s
      refine ⟨by omega, fun x => ?_⟩
      rw [h2]
      constructor
      · rintro (h | ⟨z, hz, hp, hg⟩)
        · exact Or.inl h
        · exact Or.inr ⟨z, List.mem_cons_of_mem _ hz, hp, hg⟩
      · rintro (h | ⟨z, hz, hp, hg⟩)
        · exact Or.inl h
        · rcases List.mem_cons.1 hz with e | e
          · subst e; exact absurd hp c
          · exact Or.inr ⟨z, e, hp, hg⟩
theorem put_sorted {α : Type} (p : α → Bool) (g : α → Int) (l : List α) : l.foldl (fun s y => if p y = true then pPut s (g y) else s) [] = Lib.compact ((l.foldl (fun s y => if p y = true then s ++ [g y] else s) []).mergeSort fun x y => decide (x ≤ y)) := by
  obtain ⟨a1, a2⟩ := put_fold p g l []
  obtain ⟨_, b2⟩ := app_fold p g l []
  obtain ⟨c1, c2⟩ := sorted_asc (l.foldl (fun s y => if p y = true then s ++ [g y] else s) [])
  exact asc_unique _ _ (a1 List.Pairwise.nil) c1 (fun x => by rw [a2, c2, b2])
def chHereVersion (a p q : Int) (y : S98) : Bool := (y.f0.f0 == a && (y.f0.f1 == p && (y.f0.f2 == q)))
def pChangesVersion (l : List S98) (a p q : Int) : List Int := l.foldl (fun s y => if chHereVersion a p q y = true then pPut s y.f1 else s) []
theorem pChangesVersion_length (l : List S98) (a p q : Int) : (pChangesVersion l a p q).length ≤ l.length := by
  unfold pChangesVersion
  have key : ∀ (l : List S98) (s : List Int), (l.foldl (fun s y => if chHereVersion a p q y = true then pPut s y.f1 else s) s).length ≤ s.length + l.length := by
    intro l
    induction l with
    | nil => intro s; exact Nat.le_refl _
    | cons y l ih =>
      intro s
      rw [List.foldl_cons, List.length_cons]
      refine Nat.le_trans (ih _) ?_
      split
      · have := pPut_length s y.f1
        omega
      · omega
  simpa using key l []
theorem iChanges_ev (l : List S98) (a p q : Int) (h : l.length ≤ 1048576) : Ev (fun k => impl_ChangesOf.f k l a p q) (pChangesVersion l a p q) := by
  have e0 : pChangesVersion l a p q = Lib.compact ((l.foldl (fun s y => if chHereVersion a p q y = true then s ++ [y.f1] else s) []).mergeSort fun x y => decide (x ≤ y)) := put_sorted (chHereVersion a p q) (fun y => y.f1) l
  rw [e0]
  unfold impl_ChangesOf.f
  refine ev_foldl (fun k (s : List Int) i => impl_ChangesOf.l0 k s l (l.length : Int) i a p q) l z98 (fun s y => if chHereVersion a p q y = true then s ++ [y.f1] else s) (fun s => Lib.compact (s.mergeSort fun x y => decide (x ≤ y))) (fun i s => s.length ≤ i) [] (by simp) ?_ ?_
  · intro s hs
    refine Ev.round (fun _ => by rw [impl_ChangesOf.l0]) ?_
    exact Ev.neg (by omega) (Ev.now_bind (sorted_eq s (by omega)) (Ev.now _))
  · intro i s hi hs
    have e1 : wrap64 ((i : Int) + 1) = ((i + 1 : Nat) : Int) := by rw [w64 (by omega) (by omega)]; omega
    refine ⟨?_, fun r hr => ?_⟩
    · show (if chHereVersion a p q (rd_T98 l (i : Int)) = true then s ++ [(rd_T98 l (i : Int)).f1] else s).length ≤ i + 1
      split
      · rw [List.length_append, List.length_singleton]
        omega
      · omega
    have hr' : Ev (fun k => impl_ChangesOf.l0 k (if chHereVersion a p q (rd_T98 l (i : Int)) = true then s ++ [(rd_T98 l (i : Int)).f1] else s) l (l.length : Int) ((i + 1 : Nat) : Int) a p q) r := hr
    refine Ev.round (fun _ => by rw [impl_ChangesOf.l0]) ?_
    refine Ev.pos (by omega) ?_
    refine Ev.pos (by omega) ?_
    refine Ev.pos (by omega) ?_
    generalize hy : rd_T98 l (i : Int) = y at hr'
    simp only [e1]
    unfold chHereVersion at hr'
    cases c1 : (y.f0.f0 == a && (y.f0.f1 == p && (y.f0.f2 == q))) with
    | false =>
      rw [c1] at hr'
      exact Ev.neg (by simp) hr'
    | true =>
      rw [c1] at hr'
      refine Ev.pos rfl ?_
      refine Ev.pos (by omega) ?_
      exact hr'
/-- A resource, as the printed functions hand it on. -/
abbrev Rsc := Int × List Int × Int × Int × Int
def pHere (a p q t : Int) (y : S98) : Bool := (y.f0.f0 == a && (y.f0.f1 == p && (y.f0.f2 == q))) && decide (y.f1 ≤ t)
def ansStep (a p q t : Int) (r : Rsc) (y : S98) : Rsc := if pHere a p q t y = true then (y.f2.f0, y.f2.f1, y.f2.f2.f0, y.f2.f2.f1, y.f2.f2.f2) else r
def pAnswer (l : List S98) (a p q t : Int) : Rsc := l.foldl (ansStep a p q t) (4, [], 0, 0, 0)
theorem pAnswer_fit (l : List S98) (a p q t : Int) (hf : ∀ y ∈ l, FitimplVersion y) : (pAnswer l a p q t).2.1.length ≤ 1048576 := by
  have key : ∀ (l : List S98) (r : Rsc), (∀ y ∈ l, FitimplVersion y) → r.2.1.length ≤ 1048576 → (l.foldl (ansStep a p q t) r).2.1.length ≤ 1048576 := by
    intro l
    induction l with
    | nil => intro r _ h; exact h
    | cons y l ih =>
      intro r hf h
      rw [List.foldl_cons]
      refine ih _ (fun z hz => hf z (List.mem_cons_of_mem _ hz)) ?_
      unfold ansStep
      split
      · exact hf y (by simp)
      · exact h
  exact key l _ hf (by simp)
theorem copyResource_eq (k : Int) (b : List Int) (h p q : Int) (hb : b.length ≤ 1048576) : impl_copyResource.f k b h p q = some (k, b, h, p, q) := by
  simp only [impl_copyResource.f, slices_Clone_int_int.f, Option.bind_some, List.nil_append, List.length_nil]
  rw [if_pos (by omega)]
  rfl
theorem iAnswer_ev (l : List S98) (a p q t : Int) (h : l.length ≤ 1048576) (hf : ∀ y ∈ l, FitimplVersion y) : Ev (fun k => impl_AnswerAt.f k l a p q t) (pAnswer l a p q t) := by
  unfold impl_AnswerAt.f pAnswer
  have key : ∀ i : Nat, i ≤ l.length → Ev (fun k => impl_AnswerAt.l0 k l t ((i : Int) - 1) a p q) ((l.take i).foldl (ansStep a p q t) (4, [], 0, 0, 0)) := by
    intro i
    induction i with
    | zero =>
      intro _
      refine Ev.round (fun _ => by rw [impl_AnswerAt.l0]) ?_
      exact Ev.neg (by omega) (Ev.now _)
    | succ i ih =>
      intro hi
      have h0 := ih (by omega)
      have e0 : ((i + 1 : Nat) : Int) - 1 = (i : Int) := by omega
      have e1 : wrap64 ((i : Int) - 1) = (i : Int) - 1 := w64 (by omega) (by omega)
      have hfy : FitimplVersion (rd_T98 l (i : Int)) := hf _ (getD_mem l i (by omega) z98)
      have e2 : (l.take (i + 1)).foldl (ansStep a p q t) (4, [], 0, 0, 0) = ansStep a p q t ((l.take i).foldl (ansStep a p q t) (4, [], 0, 0, 0)) (rd_T98 l (i : Int)) := by
        rw [List.take_succ_eq_append_getElem (by omega), List.foldl_append]
        have e3 : rd_T98 l (i : Int) = l[i]'(by omega) := getD_in l i (by omega) z98
        rw [e3]
        rfl
      rw [e2, e0]
      generalize (l.take i).foldl (ansStep a p q t) (4, [], 0, 0, 0) = x at h0
      refine Ev.round (fun _ => by rw [impl_AnswerAt.l0]) ?_
      refine Ev.pos (by omega) ?_
      refine Ev.pos (by omega) ?_
      refine Ev.pos (by omega) ?_
      generalize hy : rd_T98 l (i : Int) = y at hfy
      simp only [e1]
      unfold ansStep pHere
      cases c1 : (y.f0.f0 == a && (y.f0.f1 == p && (y.f0.f2 == q))) with
      | false => exact Ev.neg (by simp) h0
      | true =>
        refine Ev.pos rfl ?_
        by_cases c2 : y.f1 ≤ t
        · rw [decide_eq_true c2]
          exact Ev.pos c2 (Ev.now_bind (copyResource_eq _ _ _ _ _ hfy) (Ev.now _))
        · rw [decide_eq_false c2]
          exact Ev.neg c2 h0
  have h1 := key l.length (by omega)
  rw [List.take_length] at h1
  rw [w64 (by omega) (by omega)]
  exact h1
theorem ev_any {α : Type} (F : Nat → Int → Option Bool) (l : List α) (d : α) (p : α → Bool)
    (hend : ∀ k, F (k + 1) (l.length : Int) = some false)
    (hyes : ∀ i : Nat, i < l.length → p (l.getD i d) = true → Ev (fun k => F k (i : Int)) true)
    (hno : ∀ i : Nat, i < l.length → p (l.getD i d) = false → ∀ r, Ev (fun k => F k ((i + 1 : Nat) : Int)) r → Ev (fun k => F k (i : Int)) r) :
    Ev (fun k => F k 0) (l.any p) := by
  have h := ev_down (fun k i => F k (i : Int)) l.length (fun i => (l.drop i).any p) (Ev.round hend (Ev.const fun _ => by simp))
    (fun i hi h => by
      rw [drop_cons l i hi d, List.any_cons]
      cases hp : p (l.getD i d) with
      | true => simpa using hyes i hi hp
      | false => simpa using hno i hi hp _ h)
  simpa using h
abbrev Trail := Int × List Int × Int × Int × Int × List S26
def pHasA (c : List S26) (a p q : Int) : Bool := c.any fun y => y.f0 == a && (y.f1 == p && (y.f2 == q))
def pTrail (l : List S98) (t : Int) : Nat → List S26 → Rsc → Trail
  | 0, c, r => (r.1, r.2.1, r.2.2.1, r.2.2.2.1, r.2.2.2.2, c)
  | n + 1, c, r => if r.1 = 3 ∧ pHasA c r.2.2.1 r.2.2.2.1 r.2.2.2.2 = false then pTrail l t n (c ++ [⟨r.2.2.1, r.2.2.2.1, r.2.2.2.2⟩]) (pAnswer l r.2.2.1 r.2.2.2.1 r.2.2.2.2 t) else (r.1, r.2.1, r.2.2.1, r.2.2.2.1, r.2.2.2.2, c)
def pFollow (l : List S98) (a p q t : Int) : Trail := pTrail l t 4 [⟨a, p, q⟩] (pAnswer l a p q t)
theorem pTrail_fit (l : List S98) (t : Int) (hf : ∀ y ∈ l, FitimplVersion y) : ∀ (n : Nat) (c : List S26) (r : Rsc), r.2.1.length ≤ 1048576 → (pTrail l t n c r).2.1.length ≤ 1048576 ∧ (pTrail l t n c r).2.2.2.2.2.length ≤ c.length + n := by
  intro n
  induction n with
  | zero => intro c r h; exact ⟨h, Nat.le_refl _⟩
  | succ n ih =>
    intro c r h
    unfold pTrail
    split
    · have := ih (c ++ [⟨r.2.2.1, r.2.2.2.1, r.2.2.2.2⟩]) _ (pAnswer_fit l r.2.2.1 r.2.2.2.1 r.2.2.2.2 t hf)
      refine ⟨this.1, ?_⟩
      have h2 := this.2
      rw [List.length_append, List.length_singleton] at h2
      omega
    · exact ⟨h, Nat.le_add_right _ _⟩
theorem pFollow_fit (l : List S98) (a p q t : Int) (hf : ∀ y ∈ l, FitimplVersion y) : (pFollow l a p q t).2.1.length ≤ 1048576 := (pTrail_fit l t hf 4 _ _ (pAnswer_fit l a p q t hf)).1
theorem iHas_ev (c : List S26) (a p q : Int) (h : c.length ≤ 1048576) : Ev (fun k => impl_Address_63.f k c a p q) (pHasA c a p q) := by
  unfold impl_Address_63.f pHasA
  have hx : ∃ r : Int, Ev (fun k => impl_Address_111.f k c a p q) r ∧ decide (r ≥ 0) = c.any fun y => y.f0 == a && (y.f1 == p && (y.f2 == q)) := by
    unfold impl_Address_111.f
    refine ev_find (fun k i => impl_Address_111.l0 k c (c.length : Int) i a p q) c z26 (fun y => y.f0 == a && (y.f1 == p && (y.f2 == q))) (fun k => by rw [impl_Address_111.l0, if_neg (by omega)]) ?_ ?_
    · intro i hi hp
      have hp' : (a == (rd_T26 c (i : Int)).f0 && (p == (rd_T26 c (i : Int)).f1 && (q == (rd_T26 c (i : Int)).f2))) = true := by
        rw [Bool.beq_comm (a := a), Bool.beq_comm (a := p), Bool.beq_comm (a := q)]
        exact hp
      refine Ev.round (fun _ => by rw [impl_Address_111.l0]) ?_
      exact Ev.pos (by omega) (Ev.pos (by omega) (Ev.pos (by omega) (Ev.pos hp' (Ev.now _))))
    · intro i hi hp r hr
      have e1 : wrap64 ((i : Int) + 1) = ((i + 1 : Nat) : Int) := by rw [w64 (by omega) (by omega)]; omega
      have hp' : (a == (rd_T26 c (i : Int)).f0 && (p == (rd_T26 c (i : Int)).f1 && (q == (rd_T26 c (i : Int)).f2))) = false := by
        rw [Bool.beq_comm (a := a), Bool.beq_comm (a := p), Bool.beq_comm (a := q)]
        exact hp
      refine Ev.round (fun _ => by rw [impl_Address_111.l0]) ?_
      refine Ev.pos (by omega) ?_
      refine Ev.pos (by omega) ?_
      refine Ev.pos (by omega) ?_
      refine Ev.neg (ne_true_of_eq_false hp') ?_
      simp only [e1]
      exact hr
  obtain ⟨r, hr, hd⟩ := hx
  rw [← hd]
  exact Ev.bind hr (Ev.now _)
theorem iTrail_ev (l : List S98) (t : Int) (h : l.length ≤ 1048576) (hf : ∀ y ∈ l, FitimplVersion y) : ∀ (n : Nat) (c : List S26) (r : Rsc), c.length + n = 5 → Ev (fun k => impl_FollowAt.l0 k l t c r.1 r.2.1 r.2.2.1 r.2.2.2.1 r.2.2.2.2) (pTrail l t n c r) := by
  intro n
  induction n with
  | zero =>
    intro c r hn
    refine Ev.round (fun _ => by rw [impl_FollowAt.l0]) ?_
    by_cases c1 : r.1 = 3
    · exact Ev.pos c1 (Ev.neg (by omega) (Ev.now _))
    · exact Ev.neg c1 (Ev.now _)
  | succ n ih =>
    intro c r hn
    unfold pTrail
    refine Ev.round (fun _ => by rw [impl_FollowAt.l0]) ?_
    by_cases c1 : r.1 = 3
    · refine Ev.pos c1 ?_
      refine Ev.pos (by omega) ?_
      refine Ev.bind (iHas_ev c r.2.2.1 r.2.2.2.1 r.2.2.2.2 (by omega)) ?_
      cases c2 : pHasA c r.2.2.1 r.2.2.2.1 r.2.2.2.2 with
      | true =>
        rw [if_neg (by simp)]
        exact Ev.pos rfl (Ev.now _)
      | false =>
        rw [if_pos ⟨c1, rfl⟩]
        refine Ev.neg (by simp) ?_
        refine Ev.pos (by omega) ?_
        refine Ev.bind (iAnswer_ev l _ _ _ t h hf) ?_
        exact ih _ _ (by simp only [List.length_append, List.length_singleton]; omega)
    · rw [if_neg (fun z => c1 z.1)]
      exact Ev.neg c1 (Ev.now _)
theorem iFollow_ev (l : List S98) (a p q t : Int) (h : l.length ≤ 1048576) (hf : ∀ y ∈ l, FitimplVersion y) : Ev (fun k => impl_FollowAt.f k l a p q t) (pFollow l a p q t) := by
  unfold impl_FollowAt.f pFollow
  exact Ev.bind (iAnswer_ev l a p q t h hf) (iTrail_ev l t h hf 4 _ _ rfl)
theorem iEqualInts_ev (a b : List Int) (h : a.length ≤ 1048576) : Ev (fun k => slices_Equal_int_int.f k a b) (decide (a = b)) := by
  unfold slices_Equal_int_int.f
  by_cases hl : a.length = b.length
  · refine Ev.pos (by omega) ?_
    rw [← zip_all_eq a b hl]
    refine ev_all2 (fun k i => slices_Equal_int_int.l0 k a b (a.length : Int) i) a b 0 (fun x y => decide (x = y)) hl (fun k => by rw [slices_Equal_int_int.l0, if_neg (by omega)]) ?_ ?_
    · intro i hi hp r hr
      have e1 : wrap64 ((i : Int) + 1) = ((i + 1 : Nat) : Int) := by rw [w64 (by omega) (by omega)]; omega
      refine Ev.round (fun _ => by rw [slices_Equal_int_int.l0]) ?_
      refine Ev.pos (by omega) ?_
      refine Ev.pos (by omega) ?_
      refine Ev.pos (by omega) ?_
      refine Ev.pos (by omega) ?_
      refine Ev.pos ?_ ?_
      · rw [rd_nat, rd_nat]; exact of_decide_eq_true hp
      · simp only [e1]; exact hr
    · intro i hi hp
      refine Ev.round (fun _ => by rw [slices_Equal_int_int.l0]) ?_
      refine Ev.pos (by omega) ?_
      refine Ev.pos (by omega) ?_
      refine Ev.pos (by omega) ?_
      refine Ev.pos (by omega) ?_
      refine Ev.neg ?_ (Ev.now _)
      rw [rd_nat, rd_nat]; exact of_decide_eq_false hp
  · have hne : a ≠ b := fun e => hl (by rw [e])
    rw [decide_eq_false hne]
    exact Ev.neg (by omega) (Ev.now _)
abbrev pEqAddr (h p q h' p' q' : Int) : Bool := h == h' && (p == p' && (q == q'))
def pEqRes (k : Int) (b : List Int) (h p q : Int) (k' : Int) (b' : List Int) (h' p' q' : Int) : Bool := decide (k = k') && (pEqAddr h p q h' p' q' && decide (b = b'))
theorem iEqualResources_ev (k : Int) (b : List Int) (h p q : Int) (k' : Int) (b' : List Int) (h' p' q' : Int) (hb : b.length ≤ 1048576) : Ev (fun n => impl_EqualResources.f n k b h p q k' b' h' p' q') (pEqRes k b h p q k' b' h' p' q') := by
  unfold impl_EqualResources.f pEqRes
  exact Ev.if_and fun _ => Ev.ifb_and fun _ => Ev.id (iEqualInts_ev b b' hb)
theorem InRange_eq (a b c : Int) : impl_InRange.f a b c = some (decide (b ≤ a) && decide (a ≤ c)) := by
  unfold impl_InRange.f
  by_cases h : b ≤ a <;> simp [h]
theorem answer_congr (l : List S98) (a p q t u : Int) (h : ∀ y ∈ l, pHere a p q t y = pHere a p q u y) : pAnswer l a p q t = pAnswer l a p q u := by
  unfold pAnswer
  have key : ∀ (l : List S98) (r : Rsc), (∀ y ∈ l, pHere a p q t y = pHere a p q u y) → l.foldl (ansStep a p q t) r = l.foldl (ansStep a p q u) r := by
    intro l
    induction l with
    | nil => intro r _; rfl
    | cons y l ih =>
      intro r h
      rw [List.foldl_cons, List.foldl_cons]
      have e : ansStep a p q t r y = ansStep a p q u r y := by
        unfold ansStep
        rw [h y (List.mem_cons_self ..)]
      rw [e]
      exact ih _ (fun z hz => h z (List.mem_cons_of_mem _ hz))
  exact key l _ h
theorem answer_none (l : List S98) (a p q t : Int) (h : ∀ y ∈ l, pHere a p q t y = false) : pAnswer l a p q t = (4, [], 0, 0, 0) := by
  unfold pAnswer
  have key : ∀ (l : List S98), (∀ y ∈ l, pHere a p q t y = false) → ∀ r : Rsc, l.foldl (ansStep a p q t) r = r := by
    intro l
    induction l with
    | nil => intro _ r; rfl
    | cons y l ih =>
      intro h r
      rw [List.foldl_cons]
      have e : ansStep a p q t r y = r := by
        unfold ansStep
        rw [h y (List.mem_cons_self ..)]
        simp
      rw [e]
      exact ih (fun z hz => h z (List.mem_cons_of_mem _ hz)) r
  exact key l h _
theorem pEqRes_refl (r : Rsc) : pEqRes r.1 r.2.1 r.2.2.1 r.2.2.2.1 r.2.2.2.2 r.1 r.2.1 r.2.2.1 r.2.2.2.1 r.2.2.2.2 = true := by
  unfold pEqRes pEqAddr
  simp
theorem iSteady_ev (l : List S98) (a p q u t : Int) (h : l.length ≤ 1048576) (hf : ∀ y ∈ l, FitimplVersion y) (h0 : 0 ≤ u) (h1 : u ≤ t) (h2 : t ≤ 1000) (hs : ∀ n, u ≤ n → n ≤ t → pAnswer l a p q n = pAnswer l a p q u) : Ev (fun k => impl_IsSteady.f k l a p q u t) true := by
  unfold impl_IsSteady.f
  have c1 : (decide (0 ≤ u) && decide (u ≤ 1000)) = true := by simp; omega
  have c2 : (decide (u ≤ t) && decide (t ≤ 1000)) = true := by simp; omega
  refine Ev.now_bind (InRange_eq _ _ _) ?_
  refine Ev.pos c1 ?_
  refine Ev.now_bind (InRange_eq _ _ _) ?_
  rw [c2]
  have hfit := pAnswer_fit l a p q u hf
  refine Ev.round (fun _ => by rw [impl_IsSteady.j0]) ?_
  refine Ev.neg (by simp) ?_
  refine Ev.bind (iAnswer_ev l a p q u h hf) ?_
  have key : ∀ (d : Nat) (n : Int), u ≤ n → n + (d : Int) = t + 1 → Ev (fun k => impl_IsSteady.l0 k l t n a p q (pAnswer l a p q u).1 (pAnswer l a p q u).2.1 (pAnswer l a p q u).2.2.1 (pAnswer l a p q u).2.2.2.1 (pAnswer l a p q u).2.2.2.2) true := by
    intro d
    induction d with
    | zero =>
      intro n hn hd
      refine Ev.round (fun _ => by rw [impl_IsSteady.l0]) ?_
      exact Ev.neg (by omega) (Ev.now _)
    | succ d ih =>
      intro n hn hd
      have e1 : wrap64 (n + 1) = n + 1 := w64 (by omega) (by omega)
      refine Ev.round (fun _ => by rw [impl_IsSteady.l0]) ?_
      refine Ev.pos (by omega) ?_
      refine Ev.bind (iAnswer_ev l a p q n h hf) ?_
      rw [hs n hn (by omega)]
      refine Ev.bind (iEqualResources_ev _ _ _ _ _ _ _ _ _ _ hfit) ?_
      refine Ev.pos (pEqRes_refl _) ?_
      simp only [e1]
      exact ih (n + 1) (by omega) (by omega)
  exact key (t + 1 - u).toNat u (by omega) (by omega)
/-- The latest change that is not behind t; -1 where there is none. -/
def lastStep (t : Int) (s c : Int) : Int := if c ≤ t then c else s
theorem last_spec (t : Int) : ∀ (cs : List Int) (s : Int), cs.Pairwise (· < ·) → (∀ c ∈ cs, s < c) → (cs.foldl (lastStep t) s = s ∧ (∀ c ∈ cs, ¬ c ≤ t)) ∨ (cs.foldl (lastStep t) s ∈ cs ∧ cs.foldl (lastStep t) s ≤ t ∧ ∀ c ∈ cs, c ≤ t → c ≤ cs.foldl (lastStep t) s) := by
  intro cs
  induction cs with
  | nil => intro s _ _; exact Or.inl ⟨rfl, by simp⟩
  | cons c cs ih =>
    intro s hp hs
    obtain ⟨h1, h2⟩ := List.pairwise_cons.1 hp
    rw [List.foldl_cons]
    by_cases hc : c ≤ t
    · have e : lastStep t s c = c := by unfold lastStep; rw [if_pos hc]
      rw [e]
      rcases ih c h2 h1 with ⟨e2, h3⟩ | ⟨h3, h4, h5⟩
      · rw [e2]
        refine Or.inr ⟨List.mem_cons_self .., hc, fun z hz hzt => ?_⟩
        rcases List.mem_cons.1 hz with hz | hz
        · omega
        · exact absurd hzt (h3 z hz)
      · refine Or.inr ⟨List.mem_cons_of_mem _ h3, h4, fun z hz hzt => ?_⟩
        rcases List.mem_cons.1 hz with hz | hz
        · have := h1 _ h3
          omega
        · exact h5 z hz hzt
    · have e : lastStep t s c = s := by unfold lastStep; rw [if_neg hc]
      rw [e]
      have hs' : ∀ z ∈ cs, s < z := fun z hz => by have := h1 z hz; have := hs c (List.mem_cons_self ..); omega
      rcases ih s h2 hs' with ⟨e2, h3⟩ | ⟨h3, h4, h5⟩
      · rw [e2]
        refine Or.inl ⟨rfl, fun z hz => ?_⟩
        rcases List.mem_cons.1 hz with hz | hz
        · rw [hz]; exact hc
        · exact h3 z hz
      · refine Or.inr ⟨List.mem_cons_of_mem _ h3, h4, fun z hz hzt => ?_⟩
        rcases List.mem_cons.1 hz with hz | hz
        · rw [hz] at hzt; exact absurd hzt hc
        · exact h5 z hz hzt
theorem changes_spec (l : List S98) (a p q : Int) : (pChangesVersion l a p q).Pairwise (· < ·) ∧ ∀ x, x ∈ pChangesVersion l a p q ↔ ∃ y ∈ l, chHereVersion a p q y = true ∧ y.f1 = x := by
  unfold pChangesVersion
  obtain ⟨h1, h2⟩ := put_fold (chHereVersion a p q) (fun y : S98 => y.f1) l []
  refine ⟨h1 List.Pairwise.nil, fun x => ?_⟩
  rw [h2 x]
  simp
def ansOf (s : List S98) (u : Int) (y : S26) : Rsc := pAnswer s y.f0 y.f1 y.f2 u
def Links (s : List S98) (u : Int) (c : List S26) : Prop := ∀ i, i + 1 < c.length → (ansOf s u (c.getD i z26)).1 = 3 ∧ (⟨(ansOf s u (c.getD i z26)).2.2.1, (ansOf s u (c.getD i z26)).2.2.2.1, (ansOf s u (c.getD i z26)).2.2.2.2⟩ : S26) = c.getD (i + 1) z26
def Apart (c : List S26) : Prop := ∀ i k, k < i → i < c.length → c.getD i z26 ≠ c.getD k z26
theorem getD_app {α : Type} (c e : List α) (i : Nat) (d : α) (h : i < c.length) : (c ++ e).getD i d = c.getD i d := by
  simp [List.getD_eq_getElem?_getD, List.getElem?_append, h]
theorem getD_last {α : Type} (c : List α) (z d : α) : (c ++ [z]).getD c.length d = z := by
  simp [List.getD_eq_getElem?_getD]
theorem trail_ok (s : List S98) (u : Int) (z0 : S26) : ∀ (n : Nat) (c : List S26) (r : Rsc), 0 < c.length → c.length + n = 5 → c.getD 0 z26 = z0 → r = ansOf s u (c.getD (c.length - 1) z26) → Links s u c → Apart c →
    ∃ C : List S26, ∃ f : Rsc, pTrail s u n c r = (f.1, f.2.1, f.2.2.1, f.2.2.2.1, f.2.2.2.2, C) ∧ 0 < C.length ∧ C.length ≤ 5 ∧ C.getD 0 z26 = z0 ∧ f = ansOf s u (C.getD (C.length - 1) z26) ∧ Links s u C ∧ Apart C := by
  intro n
  induction n with
  | zero =>
    intro c r h0 h5 hz hr hl ha
    exact ⟨c, r, rfl, h0, by omega, hz, hr, hl, ha⟩
  | succ n ih =>
    intro c r h0 h5 hz hr hl ha
    unfold pTrail
    by_cases hc : r.1 = 3 ∧ pHasA c r.2.2.1 r.2.2.2.1 r.2.2.2.2 = false
    · rw [if_pos hc]
      have hlen : (c ++ [(⟨r.2.2.1, r.2.2.2.1, r.2.2.2.2⟩ : S26)]).length = c.length + 1 := by rw [List.length_append, List.length_singleton]
      refine ih _ _ (by omega) (by omega) ?_ ?_ ?_ ?_
      · rw [getD_app c _ 0 _ h0]
        exact hz
      · rw [hlen, Nat.add_sub_cancel, getD_last]
        rfl
      · intro i hi
        rw [hlen] at hi
        rw [getD_app c _ i _ (by omega)]
        by_cases he : i + 1 < c.length
        · rw [getD_app c _ (i + 1) _ he]
          exact hl i he
        · have e : i + 1 = c.length := by omega
          have e2 : i = c.length - 1 := by omega
          rw [e, getD_last, e2, ← hr]
          exact ⟨hc.1, rfl⟩
      · intro i k hk hi
        rw [hlen] at hi
        rw [getD_app c _ k _ (by omega)]
        by_cases he : i < c.length
        · rw [getD_app c _ i _ he]
          exact ha i k hk he
        · have e : i = c.length := by omega
          rw [e, getD_last]
          have hh := hc.2
          unfold pHasA at hh
          rw [List.any_eq_false] at hh
          have hm := hh _ (getD_mem c k (by omega) z26)
          intro hq
          apply hm
          rw [← hq]
          simp
    · rw [if_neg hc]
      exact ⟨c, r, rfl, h0, by omega, hz, hr, hl, ha⟩
theorem follow_ok (s : List S98) (a p q u : Int) : ∃ C : List S26, ∃ f : Rsc, pFollow s a p q u = (f.1, f.2.1, f.2.2.1, f.2.2.2.1, f.2.2.2.2, C) ∧ 0 < C.length ∧ C.length ≤ 5 ∧ C.getD 0 z26 = ⟨a, p, q⟩ ∧ f = ansOf s u (C.getD (C.length - 1) z26) ∧ Links s u C ∧ Apart C := by
  unfold pFollow
  refine trail_ok s u ⟨a, p, q⟩ 4 [⟨a, p, q⟩] _ (by simp) rfl rfl rfl ?_ ?_
  · intro i hi
    simp at hi
  · intro i k hk hi
    simp at hi
    omega
theorem sitesChain_ev (b : List Int) (s : List S98) (a p q u : Int) (h : s.length ≤ 1048576) (hf : ∀ y ∈ s, FitimplVersion y) (C : List S26) (f : Rsc) (h0 : 0 < C.length) (h5 : C.length ≤ 5) (hz : C.getD 0 z26 = ⟨a, p, q⟩) (hr : f = ansOf s u (C.getD (C.length - 1) z26)) (hl : Links s u C) (ha : Apart C) : Ev (fun k => laws_FnSites.l1 k s u C 0 a p q f.1 f.2.1 f.2.2.1 f.2.2.2.1 f.2.2.2.2) true := by
  have key : ∀ d i : Nat, i + d = C.length → Ev (fun k => laws_FnSites.l1 k s u C (i : Int) a p q f.1 f.2.1 f.2.2.1 f.2.2.2.1 f.2.2.2.2) true := by
    intro d
    induction d with
    | zero =>
      intro i hi
      obtain rfl : i = C.length := by omega
      refine Ev.round (fun _ => by rw [laws_FnSites.l1]) ?_
      refine Ev.neg (by omega) ?_
      refine Ev.pos (by omega) ?_
      refine Ev.pos (by omega) ?_
      refine Ev.pos (by omega) ?_
      refine Ev.cast (Ev.now _) ?_
      have e : rd_T26 C 0 = ⟨a, p, q⟩ := hz
      rw [e]
      simp
    | succ d ih =>
      intro i hi
      have hil : i < C.length := by omega
      have e1 : wrap64 ((i : Int) + 1) = ((i + 1 : Nat) : Int) := by rw [w64 (by omega) (by omega)]; omega
      have hnext := ih (i + 1) (by omega)
      refine Ev.round (fun _ => by rw [laws_FnSites.l1]) ?_
      refine Ev.pos (by omega) ?_
      have inner : ∀ d k : Nat, k + d = i → Ev (fun n => laws_FnSites.l2 n s u C (i : Int) (k : Int) a p q f.1 f.2.1 f.2.2.1 f.2.2.2.1 f.2.2.2.2) true := by
        intro d
        induction d with
        | zero =>
          intro k hk
          obtain rfl : k = i := by omega
          have hfit : (pAnswer s (rd_T26 C (k : Int)).f0 (rd_T26 C (k : Int)).f1 (rd_T26 C (k : Int)).f2 u).2.1.length ≤ 1048576 := pAnswer_fit s _ _ _ u hf
          refine Ev.round (fun _ => by rw [laws_FnSites.l2]) ?_
          refine Ev.neg (by omega) ?_
          refine Ev.pos (by omega) ?_
          refine Ev.pos (by omega) ?_
          refine Ev.bind (iAnswer_ev s _ _ _ u h hf) ?_
          simp only [e1]
          by_cases hlast : k + 1 < C.length
          · obtain ⟨l1, l2⟩ := hl k hlast
            have l1' : (pAnswer s (rd_T26 C (k : Int)).f0 (rd_T26 C (k : Int)).f1 (rd_T26 C (k : Int)).f2 u).1 = 3 := l1
            have l2' : (⟨(pAnswer s (rd_T26 C (k : Int)).f0 (rd_T26 C (k : Int)).f1 (rd_T26 C (k : Int)).f2 u).2.2.1, (pAnswer s (rd_T26 C (k : Int)).f0 (rd_T26 C (k : Int)).f1 (rd_T26 C (k : Int)).f2 u).2.2.2.1, (pAnswer s (rd_T26 C (k : Int)).f0 (rd_T26 C (k : Int)).f1 (rd_T26 C (k : Int)).f2 u).2.2.2.2⟩ : S26) = rd_T26 C ((k + 1 : Nat) : Int) := l2
            refine Ev.pos (by omega) ?_
            refine Ev.pos l1' ?_
            refine Ev.pos (by omega) ?_
            refine Ev.neg ?_ (Ev.neg (by omega) hnext)
            rw [← l2']
            simp
          · refine Ev.neg (by omega) ?_
            refine Ev.pos (by omega) ?_
            refine Ev.bind (iEqualResources_ev _ _ _ _ _ _ _ _ _ _ hfit) ?_
            refine Ev.pos ?_ hnext
            have ek : C.length - 1 = k := by omega
            rw [ek] at hr
            have hr' : f = pAnswer s (rd_T26 C (k : Int)).f0 (rd_T26 C (k : Int)).f1 (rd_T26 C (k : Int)).f2 u := hr
            rw [← hr']
            exact pEqRes_refl f
        | succ d ih2 =>
          intro k hk
          have hne := ha i k (by omega) hil
          have hne' : rd_T26 C (i : Int) ≠ rd_T26 C (k : Int) := hne
          have e2 : wrap64 ((k : Int) + 1) = ((k + 1 : Nat) : Int) := by rw [w64 (by omega) (by omega)]; omega
          refine Ev.round (fun _ => by rw [laws_FnSites.l2]) ?_
          refine Ev.pos (by omega) ?_
          refine Ev.pos (by omega) ?_
          refine Ev.pos (by omega) ?_
          refine Ev.pos (by omega) ?_
          refine Ev.pos (by omega) ?_
          refine Ev.neg ?_ ?_
          · intro hc
            simp only [Bool.and_eq_true, beq_iff_eq] at hc
            apply hne'
            generalize rd_T26 C (i : Int) = x at hc
            generalize rd_T26 C (k : Int) = y at hc
            cases x
            cases y
            simp_all
          · simp only [e2]
            exact ih2 (k + 1) (by omega)
      exact inner i 0 (by omega)
  exact key C.length 0 (by omega)
theorem FnSites (l0 : List Int) (h0 : (l0.length ≤ maxLen ∧ ∀ e_ ∈ l0, (Lit.int .u8 e_).wf = true)) : ∃ k, laws_FnSites.f k l0 = some true := by
  refine Ev.rounds ?_
  unfold laws_FnSites.f laws_big.f
  refine Ev.now_bind rfl ?_
  by_cases hb : (l0.length : Int) > 1048576
  · exact Ev.pos (by simpa using hb) (Ev.now _)
  have hlen : l0.length ≤ 1048576 := by omega
  obtain ⟨l, a, p, q, t, el, hl, hd, ht0, ht1⟩ := drawAnswerAt_ev l0 hlen
  obtain ⟨s, a2, p2, q2, u, es, hs, hsf⟩ := drawFollowAt_ev l0 hlen
  have hf : ∀ y ∈ l, FitimplVersion y := fun y hy => (hd y hy).1
  have hj1 : Ev (fun k => laws_FnSites.j1 k l0 false) true := by
    obtain ⟨C, f, e, h0, h5, hz, hr, hk, ha⟩ := follow_ok s a2 p2 q2 u
    have iF := iFollow_ev s a2 p2 q2 u hs hsf
    rw [e] at iF
    refine Ev.round (fun _ => by rw [laws_FnSites.j1]) ?_
    refine Ev.neg (by simp) ?_
    refine Ev.bind es ?_
    refine Ev.bind iF ?_
    exact sitesChain_ev l0 s a2 p2 q2 u hs hsf C f h0 h5 hz hr hk ha
  refine Ev.neg (by simpa using hb) ?_
  refine Ev.bind el ?_
  refine Ev.bind (iAnswer_ev l a p q t (by omega) hf) ?_
  refine Ev.bind (iChanges_ev l a p q (by omega)) ?_
  obtain ⟨asc, mem⟩ := changes_spec l a p q
  have hlenc := pChangesVersion_length l a p q
  have hpos : ∀ c ∈ pChangesVersion l a p q, (-1 : Int) < c := by
    intro c hc
    obtain ⟨y, hy, _, e⟩ := (mem c).1 hc
    have h1 : 0 ≤ y.f1 := (hd y hy).2.1
    omega
  have hsp := last_spec t (pChangesVersion l a p q) (-1) asc hpos
  have hmem : ∀ y ∈ l, chHereVersion a p q y = true → y.f1 ∈ pChangesVersion l a p q := fun y hy hc => (mem y.f1).2 ⟨y, hy, hc, rfl⟩
  have hfit := pAnswer_fit l a p q t hf
  generalize hcs : pChangesVersion l a p q = cs at asc mem hlenc hpos hsp hmem
  have hend : Ev (fun k => laws_FnSites.l0 k l0 l t cs (cs.foldl (lastStep t) (-1)) (cs.length : Int) a p q (pAnswer l a p q t).1 (pAnswer l a p q t).2.1 (pAnswer l a p q t).2.2.1 (pAnswer l a p q t).2.2.2.1 (pAnswer l a p q t).2.2.2.2) true := by
    refine Ev.round (fun _ => by rw [laws_FnSites.l0]) ?_
    refine Ev.neg (by omega) ?_
    rcases hsp with ⟨e, hno⟩ | ⟨hin, hle, hmax⟩
    · rw [e]
      have hn : pAnswer l a p q t = (4, [], 0, 0, 0) := by
        refine answer_none l a p q t (fun y hy => ?_)
        unfold pHere
        cases hc : (y.f0.f0 == a && (y.f0.f1 == p && (y.f0.f2 == q))) with
        | false => rfl
        | true =>
          have := hno _ (hmem y hy hc)
          rw [Bool.true_and]
          exact decide_eq_false this
      rw [hn]
      exact Ev.neg (by omega) (Ev.pos (by omega) hj1)
    · have hge := hpos _ hin
      generalize cs.foldl (lastStep t) (-1) = m at hin hle hmax hge
      have hsame : ∀ n, m ≤ n → n ≤ t → pAnswer l a p q n = pAnswer l a p q t := by
        intro n h1 h2
        refine answer_congr l a p q n t (fun y hy => ?_)
        unfold pHere
        cases hc : (y.f0.f0 == a && (y.f0.f1 == p && (y.f0.f2 == q))) with
        | false => rfl
        | true =>
          rw [Bool.true_and, Bool.true_and]
          refine decide_eq_decide.2 ⟨fun h => by omega, fun h => ?_⟩
          have := hmax _ (hmem y hy hc) h
          omega
      have em := hsame m (Int.le_refl _) hle
      have hst := iSteady_ev l a p q m t (by omega) hf (by omega) hle (by omega) (fun n h1 h2 => (hsame n h1 h2).trans em.symm)
      refine Ev.pos (by omega) ?_
      refine Ev.bind (iAnswer_ev l a p q m (by omega) hf) ?_
      rw [em]
      refine Ev.bind (iEqualResources_ev _ _ _ _ _ _ _ _ _ _ hfit) ?_
      refine Ev.pos (pEqRes_refl _) ?_
      refine Ev.bind hst ?_
      refine Ev.pos rfl ?_
      exact Ev.neg (by omega) hj1
  have key : ∀ d i : Nat, i + d = cs.length → Ev (fun k => laws_FnSites.l0 k l0 l t cs ((cs.take i).foldl (lastStep t) (-1)) (i : Int) a p q (pAnswer l a p q t).1 (pAnswer l a p q t).2.1 (pAnswer l a p q t).2.2.1 (pAnswer l a p q t).2.2.2.1 (pAnswer l a p q t).2.2.2.2) true := by
    intro d
    induction d with
    | zero =>
      intro i hi
      obtain rfl : i = cs.length := by omega
      rw [List.take_length]
      exact hend
    | succ d ih =>
      intro i hi
      have hil : i < cs.length := by omega
      have e1 : wrap64 ((i : Int) + 1) = ((i + 1 : Nat) : Int) := by rw [w64 (by omega) (by omega)]; omega
      have h := ih (i + 1) (by omega)
      have e2 : (cs.take (i + 1)).foldl (lastStep t) (-1) = lastStep t ((cs.take i).foldl (lastStep t) (-1)) (rd cs (i : Int)) := by
        rw [List.take_succ_eq_append_getElem hil, List.foldl_append, rd_nat, getD_in cs i hil]
        rfl
      rw [e2] at h
      generalize (cs.take i).foldl (lastStep t) (-1) = m at h
      unfold lastStep at h
      refine Ev.round (fun _ => by rw [laws_FnSites.l0]) ?_
      refine Ev.pos (by omega) ?_
      refine Ev.pos (by omega) ?_
      simp only [e1]
      by_cases hc : rd cs (i : Int) ≤ t
      · rw [if_pos hc] at h
        exact Ev.pos hc h
      · rw [if_neg hc] at h
        exact Ev.neg hc h
  have h0 := key cs.length 0 (by omega)
  exact h0
end Go.Proofs.Ytdpkidjddlnafaa.Pure
