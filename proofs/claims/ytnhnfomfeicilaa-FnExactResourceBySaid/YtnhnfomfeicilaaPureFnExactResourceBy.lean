/- The program's ResourceBy and the reference's return the same resource; it is new memory with each call: what is written into the captures or into the answer is not seen elsewhere. No condition. -/
import Derived.Test.YtnhnfomfeicilaaStdFnExactResourceBy
namespace Go.Proofs.Ytnhnfomfeicilaa.Pure
open Go.RowKit Go.Proofs.Ytnhnfomfeicilaa.MFnExactResourceBy Go.Proofs.YtnhnfomfeicilaaW.PrintWords Go.Proofs.YtnhnfomfeicilaaW.PrintLast Go.Proofs.YtnhnfomfeicilaaW.PrintMore Go.Proofs.Ytnhnfomfeicilaa.Gen
set_option linter.unusedVariables false
set_option linter.unusedSimpArgs false

def W36 (y : S36) : Prop := (Lit.int .i64 y.f0).wf = true ∧ (Lit.int .i64 y.f1).wf = true ∧ (Lit.int .i64 y.f2).wf = true
def W39 (y : S39) : Prop := (Lit.int .i64 y.f0).wf = true ∧ (y.f1.length ≤ maxLen ∧ ∀ e_ ∈ y.f1, (Lit.int .i64 e_).wf = true) ∧ W36 y.f2
def W41 (y : S41) : Prop := W36 y.f0 ∧ (Lit.int .i64 y.f1).wf = true ∧ W39 y.f2
theorem l1In_eq (a b c : Int) : spec_l1In.f a b c = some (decide (b ≤ a) && decide (a ≤ c)) := by
  unfold spec_l1In.f
  by_cases h : b ≤ a <;> simp [h]
def pResBy (l : List S50) (a : Int) : Int × List Int × Int × Int × Int := if 0 ≤ a ∧ a < (l.length : Int) then ((rd_T50 l a).f2.f0, (rd_T50 l a).f2.f1, (rd_T50 l a).f2.f2.f0, (rd_T50 l a).f2.f2.f1, (rd_T50 l a).f2.f2.f2) else (4, [], 0, 0, 0)
theorem rdCapture_fit (l : List S50) (hf : ∀ y ∈ l, FitimplCapture y) (a : Int) (h : 0 ≤ a ∧ a < (l.length : Int)) : (rd_T50 l a).f2.f1.length ≤ 1048576 := by
  obtain ⟨n, rfl⟩ := Int.eq_ofNat_of_zero_le h.1
  exact hf _ (getD_mem l n (by omega) z50)
theorem pResBy_fit (l : List S50) (hf : ∀ y ∈ l, FitimplCapture y) (a : Int) : (pResBy l a).2.1.length ≤ 1048576 := by
  unfold pResBy
  split
  · rename_i h
    exact rdCapture_fit l hf a h
  · simp
theorem l5CopyR_eq (k : Int) (b : List Int) (h p q : Int) (hb : b.length ≤ 1048576) : spec_l5Copy.f k b h p q = some (k, b, h, p, q) := by
  simp only [spec_l5Copy.f, Option.bind_some, List.nil_append, List.length_nil]
  rw [if_pos (by omega)]
theorem sResBy_eq (l : List S50) (a0 a : Int) (h : l.length ≤ 1048576) (hf : ∀ y ∈ l, FitimplCapture y) : spec_ResourceBy.f l a0 a = some (pResBy l a) := by
  unfold spec_ResourceBy.f pResBy
  rw [l1In_eq, Option.bind_some, w64 (by omega) (by omega)]
  by_cases c : 0 ≤ a ∧ a < (l.length : Int)
  · rw [if_pos (by simp only [Bool.and_eq_true, decide_eq_true_eq]; omega), if_pos c.1, if_pos c.2, l5CopyR_eq _ _ _ _ _ (rdCapture_fit l hf a c), if_pos c]
    rfl
  · rw [if_neg (by simp only [Bool.and_eq_true, decide_eq_true_eq]; omega), if_neg c]
theorem at_eq (a b : Int) : impl_at.f a b = some (decide (0 ≤ a) && decide (a < b)) := by
  unfold impl_at.f
  by_cases h : 0 ≤ a <;> simp [h]
theorem copyResource_eq (k : Int) (b : List Int) (h p q : Int) (hb : b.length ≤ 1048576) : impl_copyResource.f k b h p q = some (k, b, h, p, q) := by
  simp only [impl_copyResource.f, slices_Clone_int_int.f, Option.bind_some, List.nil_append, List.length_nil]
  rw [if_pos (by omega)]
  rfl
theorem iResBy_eq (l : List S50) (a0 a : Int) (h : l.length ≤ 1048576) (hf : ∀ y ∈ l, FitimplCapture y) : impl_ResourceBy.f l a0 a = some (pResBy l a) := by
  unfold impl_ResourceBy.f pResBy
  rw [at_eq, Option.bind_some]
  by_cases c : 0 ≤ a ∧ a < (l.length : Int)
  · rw [if_pos (by simp only [Bool.and_eq_true, decide_eq_true_eq]; omega), if_pos c.1, if_pos c.2, copyResource_eq _ _ _ _ _ (rdCapture_fit l hf a c), if_pos c]
    rfl
  · rw [if_neg (by simp only [Bool.and_eq_true, decide_eq_true_eq]; omega), if_neg c]
theorem ex_round {α : Type} {g f : Nat → Option α} {Q : α → Prop} (h : ∀ k, g (k + 1) = f k) (e : ∃ r, Ev f r ∧ Q r) : ∃ r, Ev g r ∧ Q r := by
  obtain ⟨r, e, q⟩ := e
  exact ⟨r, Ev.round h e, q⟩
theorem ex_pos {α : Type} {c : Prop} [Decidable c] {f g : Nat → Option α} {Q : α → Prop} (hc : c) (e : ∃ r, Ev f r ∧ Q r) : ∃ r, Ev (fun k => if c then f k else g k) r ∧ Q r := by
  obtain ⟨r, e, q⟩ := e
  exact ⟨r, Ev.pos hc e, q⟩
theorem ex_neg {α : Type} {c : Prop} [Decidable c] {f g : Nat → Option α} {Q : α → Prop} (hc : ¬ c) (e : ∃ r, Ev g r ∧ Q r) : ∃ r, Ev (fun k => if c then f k else g k) r ∧ Q r := by
  obtain ⟨r, e, q⟩ := e
  exact ⟨r, Ev.neg hc e, q⟩
theorem ex_bind {α β : Type} {f : Nat → Option β} {g : Nat → β → Option α} {v : β} {Q : α → Prop} (h : Ev f v) (e : ∃ r, Ev (fun k => g k v) r ∧ Q r) : ∃ r, Ev (fun k => (f k).bind (g k)) r ∧ Q r := by
  obtain ⟨r, e, q⟩ := e
  exact ⟨r, Ev.bind h e, q⟩
/-- What is handed on is told by one of its properties alone. -/
theorem ex_some {α β : Type} {v : β} {g : Nat → β → Option α} {P : β → Prop} {Q : α → Prop} (hP : P v) (h : ∀ y, P y → ∃ r, Ev (fun k => g k y) r ∧ Q r) : ∃ r, Ev (fun k => (some v).bind (g k)) r ∧ Q r := by
  obtain ⟨r, e, q⟩ := h v hP
  exact ⟨r, Ev.bind (Ev.now v) e, q⟩
theorem wraps5 (a : Int) (h0 : 0 ≤ a) (h1 : a ≤ 1152921504606846976) : wrap64 ((wrap64 ((wrap64 ((wrap64 ((wrap64 (a + 1)) + 1)) + 1)) + 1)) + 1) = a + 5 := by
  rw [w64 (n := a + 1) (by omega) (by omega), w64 (n := a + 1 + 1) (by omega) (by omega), w64 (n := a + 1 + 1 + 1) (by omega) (by omega), w64 (n := a + 1 + 1 + 1 + 1) (by omega) (by omega), w64 (n := a + 1 + 1 + 1 + 1 + 1) (by omega) (by omega)]
  omega
theorem wraps3 (a : Int) (h0 : 0 ≤ a) (h1 : a ≤ 1152921504606846976) : wrap64 ((wrap64 ((wrap64 (a + 1)) + 1)) + 1) = a + 3 := by
  rw [w64 (n := a + 1) (by omega) (by omega), w64 (n := a + 1 + 1) (by omega) (by omega), w64 (n := a + 1 + 1 + 1) (by omega) (by omega)]
  omega
def GoodCapture (n : Nat) (y : List S50) : Prop := y.length = n ∧ ∀ z ∈ y, z.f2.f1.length ≤ 1048576
theorem goodCapture_set {n : Nat} {y : List S50} (h : GoodCapture n y) (j : Nat) (e : S50) (he : e.f2.f1.length ≤ 1048576) : GoodCapture n (y.set j e) := by
  refine ⟨by rw [List.length_set]; exact h.1, fun z hz => ?_⟩
  rcases List.mem_or_eq_of_mem_set hz with hz | hz
  · exact h.2 z hz
  · rw [hz]; exact he
theorem goodCapture_rd {n : Nat} {y : List S50} (h : GoodCapture n y) (i : Nat) (hi : i < n) : (rd_T50 y (i : Int)).f2.f1.length ≤ 1048576 := h.2 _ (getD_mem y i (by rw [h.1]; exact hi) z50)
theorem markCaptureS_some (l : List S50) (h : l.length ≤ 1048576) (hf : ∀ y ∈ l, FitimplCapture y) : ∃ r, Ev (fun k => laws_markCaptureS.f k l 1) r ∧ 0 ≤ r.1 := by
  unfold laws_markCaptureS.f
  have key : ∀ (d i : Nat) (y : List S50) (a : Int), i + d = l.length → GoodCapture l.length y → 0 ≤ a → a ≤ 1 + 1048584 * (i : Int) → ∃ r, Ev (fun k => laws_markCaptureS.l0 k y a (i : Int)) r ∧ 0 ≤ r.1 := by
    intro d
    induction d with
    | zero =>
      intro i y a hi hy h0 h1
      have hl := hy.1
      refine ex_round (fun _ => by rw [laws_markCaptureS.l0]) ?_
      refine ex_neg (by omega) ?_
      exact ⟨(a, y), Ev.now _, h0⟩
    | succ d ih =>
      intro i y a hi hy h0 h1
      have hl := hy.1
      have hin : i < l.length := by omega
      have e1 : wrap64 ((i : Int) + 1) = ((i + 1 : Nat) : Int) := by rw [w64 (by omega) (by omega)]; omega
      refine ex_round (fun _ => by rw [laws_markCaptureS.l0]) ?_
      refine ex_pos (by omega) ?_
      refine ex_pos (by omega) ?_
      refine ex_some (P := GoodCapture l.length) (goodCapture_set hy _ _ (goodCapture_rd hy i hin)) (fun y hy => ?_)
      refine ex_some (P := GoodCapture l.length) (goodCapture_set hy _ _ (goodCapture_rd hy i hin)) (fun y hy => ?_)
      refine ex_some (P := GoodCapture l.length) (goodCapture_set hy _ _ (goodCapture_rd hy i hin)) (fun y hy => ?_)
      refine ex_some (P := GoodCapture l.length) (goodCapture_set hy _ _ (goodCapture_rd hy i hin)) (fun y hy => ?_)
      refine ex_some (P := GoodCapture l.length) (goodCapture_set hy _ _ (goodCapture_rd hy i hin)) (fun y hy => ?_)
      have hb := goodCapture_rd hy i hin
      rw [wraps5 a h0 (by omega)]
      refine ex_bind (markIntS_ev _ (a + 5) hb (by omega) (by omega)) ?_
      dsimp only
      refine ex_some (P := GoodCapture l.length) (goodCapture_set hy _ _ (by simpa using hb)) (fun y2 hy2 => ?_)
      refine ex_some (P := GoodCapture l.length) (goodCapture_set hy2 _ _ (goodCapture_rd hy2 i hin)) (fun y3 hy3 => ?_)
      refine ex_some (P := GoodCapture l.length) (goodCapture_set hy3 _ _ (goodCapture_rd hy3 i hin)) (fun y4 hy4 => ?_)
      rw [wraps3 _ (by omega) (by omega), e1]
      exact ih (i + 1) _ _ (by omega) (goodCapture_set hy4 _ _ (goodCapture_rd hy4 i hin)) (by omega) (by omega)
  exact key l.length 0 l 1 (by omega) ⟨rfl, hf⟩ (by omega) (by omega)
theorem FnExactResourceBy (l0 : List S41) (a1_0 : Int) (a1_1 : Int) (h0 : (l0.length ≤ maxLen ∧ ∀ e_ ∈ l0, W41 e_)) (h1 : (Lit.int .i64 a1_0).wf = true) (h2 : (Lit.int .i64 a1_1).wf = true) : ∃ k, laws_FnExactResourceBy.f k l0 a1_0 a1_1 = some true := by
  obtain ⟨r, e, b, g⟩ := szCaptureS_some l0 1048576 ⟨h0.1, fun y hy => (h0.2 y hy).2.2.2.1.1⟩ (by omega) (by omega)
  refine Ev.rounds ?_
  unfold laws_FnExactResourceBy.f
  refine Ev.bind e ?_
  by_cases c : r < 0
  · exact Ev.pos c (Ev.now _)
  obtain ⟨hl, hy⟩ := g (by omega)
  have hm : (l0.map cvCapture).length ≤ 1048576 := by simpa using hl
  have hf : ∀ y ∈ l0.map cvCapture, FitimplCapture y := by
    intro y h
    obtain ⟨z, hz, rfl⟩ := List.mem_map.1 h
    exact hy z hz
  have t := toCaptureS_ev l0 hl hy
  have fit := pResBy_fit (l0.map cvCapture) hf a1_1
  have sE := sResBy_eq (l0.map cvCapture) a1_0 a1_1 hm hf
  have iE := iResBy_eq (l0.map cvCapture) a1_0 a1_1 hm hf
  generalize pResBy (l0.map cvCapture) a1_1 = p at fit sE iE
  refine Ev.neg c ?_
  refine Ev.bind t ?_
  refine Ev.now_bind (toChoice_eq _ _) ?_
  refine Ev.now_bind sE ?_
  refine Ev.bind t ?_
  refine Ev.now_bind (toChoice_eq _ _) ?_
  refine Ev.now_bind iE ?_
  refine Ev.bind (eqResource_refl _ _ _ _ _ fit) ?_
  refine Ev.pos rfl ?_
  refine Ev.bind t ?_
  refine Ev.bind (eqCaptureS_refl _ hm hf) ?_
  refine Ev.pos rfl ?_
  obtain ⟨mr, me, mp⟩ := markCaptureS_some (l0.map cvCapture) hm hf
  refine Ev.bind me ?_
  refine Ev.neg (by omega) ?_
  refine Ev.bind (eqResource_refl _ _ _ _ _ fit) ?_
  have m1 := markResource_ev p.1 p.2.1 p.2.2.1 p.2.2.2.1 p.2.2.2.2 1 fit (by omega) (by omega)
  have k1 := heldResource_ev p.1 p.2.1.length fit p.2.2.1 p.2.2.2.1 p.2.2.2.2 1 (by omega) (by omega)
  refine Ev.round (fun _ => by rw [laws_FnExactResourceBy.j0]) ?_
  refine Ev.neg (by simp) ?_
  refine Ev.bind m1 ?_
  refine Ev.bind k1 ?_
  refine Ev.neg (by omega) ?_
  refine Ev.pos rfl ?_
  refine Ev.bind t ?_
  refine Ev.now_bind (toChoice_eq _ _) ?_
  refine Ev.now_bind iE ?_
  refine Ev.bind (eqResource_refl _ _ _ _ _ fit) ?_
  refine Ev.pos rfl ?_
  refine Ev.bind k1 ?_
  refine Ev.neg (by omega) ?_
  refine Ev.pos rfl ?_
  exact Ev.now _
end Go.Proofs.Ytnhnfomfeicilaa.Pure
