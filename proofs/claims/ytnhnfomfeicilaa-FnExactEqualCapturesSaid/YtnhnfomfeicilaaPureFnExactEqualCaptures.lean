/- The program's EqualCaptures and the reference's return the same: length by length and field by field; the arguments are as they were. No condition. -/
import Derived.Test.YtnhnfomfeicilaaStdFnExactEqualCaptures
namespace Go.Proofs.Ytnhnfomfeicilaa.Pure
open Go.RowKit Go.Proofs.Ytnhnfomfeicilaa.MFnExactEqualCaptures Go.Proofs.YtnhnfomfeicilaaW.PrintWords Go.Proofs.YtnhnfomfeicilaaW.PrintLast Go.Proofs.YtnhnfomfeicilaaW.PrintMore Go.Proofs.Ytnhnfomfeicilaa.Gen
set_option linter.unusedVariables false
set_option linter.unusedSimpArgs false

def W36 (y : S36) : Prop := (Lit.int .i64 y.f0).wf = true ∧ (Lit.int .i64 y.f1).wf = true ∧ (Lit.int .i64 y.f2).wf = true
def W39 (y : S39) : Prop := (Lit.int .i64 y.f0).wf = true ∧ (y.f1.length ≤ maxLen ∧ ∀ e_ ∈ y.f1, (Lit.int .i64 e_).wf = true) ∧ W36 y.f2
def W41 (y : S41) : Prop := W36 y.f0 ∧ (Lit.int .i64 y.f1).wf = true ∧ W39 y.f2
theorem sEqualInts_ev (a b : List Int) (h : a.length ≤ 1048576) : Ev (fun k => spec_EqualInts.f k a b) (decide (a = b)) := by
  unfold spec_EqualInts.f
  by_cases hl : a.length = b.length
  · refine Ev.pos (by omega) ?_
    rw [← zip_all_eq a b hl]
    refine ev_all2 (fun k i => spec_EqualInts.l0 k a b i) a b 0 (fun x y => decide (x = y)) hl (fun k => by rw [spec_EqualInts.l0, if_neg (by omega)]) ?_ ?_
    · intro i hi hp r hr
      have e1 : wrap64 ((i : Int) + 1) = ((i + 1 : Nat) : Int) := by rw [w64 (by omega) (by omega)]; omega
      refine Ev.round (fun _ => by rw [spec_EqualInts.l0]) ?_
      refine Ev.pos (by omega) ?_
      refine Ev.pos (by omega) ?_
      refine Ev.pos (by omega) ?_
      refine Ev.pos ?_ ?_
      · rw [rd_nat, rd_nat]; exact of_decide_eq_true hp
      · simp only [e1]; exact hr
    · intro i hi hp
      refine Ev.round (fun _ => by rw [spec_EqualInts.l0]) ?_
      refine Ev.pos (by omega) ?_
      refine Ev.pos (by omega) ?_
      refine Ev.pos (by omega) ?_
      refine Ev.neg ?_ (Ev.now _)
      rw [rd_nat, rd_nat]; exact of_decide_eq_false hp
  · have hne : a ≠ b := fun e => hl (by rw [e])
    rw [decide_eq_false hne]
    exact Ev.neg (by omega) (Ev.now _)
abbrev pEqAddr (h p q h' p' q' : Int) : Bool := h == h' && (p == p' && (q == q'))
def pEqRes (k : Int) (b : List Int) (h p q : Int) (k' : Int) (b' : List Int) (h' p' q' : Int) : Bool := decide (k = k') && (pEqAddr h p q h' p' q' && decide (b = b'))
theorem sEqualResources_ev (k : Int) (b : List Int) (h p q : Int) (k' : Int) (b' : List Int) (h' p' q' : Int) (hb : b.length ≤ 1048576) : Ev (fun n => spec_EqualResources.f n k b h p q k' b' h' p' q') (pEqRes k b h p q k' b' h' p' q') := by
  unfold spec_EqualResources.f pEqRes
  exact Ev.if_and fun _ => Ev.ifb_and fun _ => Ev.id (sEqualInts_ev b b' hb)
def pSame (x y : S50) : Bool := pEqAddr x.f0.f0 x.f0.f1 x.f0.f2 y.f0.f0 y.f0.f1 y.f0.f2 && (decide (x.f1 = y.f1) && pEqRes x.f2.f0 x.f2.f1 x.f2.f2.f0 x.f2.f2.f1 x.f2.f2.f2 y.f2.f0 y.f2.f1 y.f2.f2.f0 y.f2.f2.f1 y.f2.f2.f2)
def pEqCaptures (a b : List S50) : Bool := decide ((a.length : Int) = (b.length : Int)) && (a.zip b).all fun q => pSame q.1 q.2
theorem sSame_ev (x y : S50) (hf : FitimplCapture x) : Ev (fun n => spec_l15Same.f n x.f0.f0 x.f0.f1 x.f0.f2 x.f1 x.f2.f0 x.f2.f1 x.f2.f2.f0 x.f2.f2.f1 x.f2.f2.f2 y.f0.f0 y.f0.f1 y.f0.f2 y.f1 y.f2.f0 y.f2.f1 y.f2.f2.f0 y.f2.f2.f1 y.f2.f2.f2) (pSame x y) := by
  unfold spec_l15Same.f pSame
  exact Ev.ifb_and fun _ => Ev.if_and fun _ => Ev.id (sEqualResources_ev _ _ _ _ _ _ _ _ _ _ hf)
theorem sEqualCaptures_ev (a b : List S50) (h : a.length ≤ 1048576) (hf : ∀ y ∈ a, FitimplCapture y) : Ev (fun k => spec_EqualCaptures.f k a b) (pEqCaptures a b) := by
  unfold spec_EqualCaptures.f pEqCaptures
  refine Ev.if_and fun hl => ?_
  refine ev_all2 (fun k i => spec_EqualCaptures.l0 k a b i) a b z50 pSame (by omega) (fun k => by rw [spec_EqualCaptures.l0, if_neg (by omega)]) ?_ ?_
  · intro i hi hp r hr
    have e1 : wrap64 ((i : Int) + 1) = ((i + 1 : Nat) : Int) := by rw [w64 (by omega) (by omega)]; omega
    refine Ev.round (fun _ => by rw [spec_EqualCaptures.l0]) ?_
    refine Ev.pos (by omega) ?_
    refine Ev.pos (by omega) ?_
    refine Ev.pos (by omega) ?_
    refine Ev.bind (sSame_ev (rd_T50 a (i : Int)) (rd_T50 b (i : Int)) (hf _ (getD_mem a i hi z50))) ?_
    refine Ev.pos hp ?_
    simp only [e1]; exact hr
  · intro i hi hp
    refine Ev.round (fun _ => by rw [spec_EqualCaptures.l0]) ?_
    refine Ev.pos (by omega) ?_
    refine Ev.pos (by omega) ?_
    refine Ev.pos (by omega) ?_
    refine Ev.bind (sSame_ev (rd_T50 a (i : Int)) (rd_T50 b (i : Int)) (hf _ (getD_mem a i hi z50))) ?_
    refine Ev.neg (ne_true_of_eq_false hp) ?_
    exact Ev.now _
theorem iEqualInts_ev (a b : List Int) (h : a.length ≤ 1048576) : Ev (fun k => slices_Equal_int_int.f k a b) (decide (a = b)) := by
  unfold slices_Equal_int_int.f
  by_cases hl : a.length = b.length
  · refine Ev.pos (by omega) ?_
    rw [← zip_all_eq a b hl]
    refine ev_all2 (fun k i => slices_Equal_int_int.l0 k a b (a.length : Int) i) a b 0 (fun x y => decide (x = y)) hl (fun k => by rw [slices_Equal_int_int.l0, if_neg (by omega)]) ?_ ?_
    · intro i hi hp r hr
      have e1 : wrap64 ((i : Int) + 1) = ((i + 1 : Nat) : Int) := by rw [w64 (by omega) (by omega)]; omega
      refine Ev.round (fun _ => by rw [slices_Equal_int_int.l0]) ?_
      refine Ev.pos (by omega) ?_
      refine Ev.pos (by omega) ?_
      refine Ev.pos (by omega) ?_
      refine Ev.pos (by omega) ?_
      refine Ev.pos ?_ ?_
      · rw [rd_nat, rd_nat]; exact of_decide_eq_true hp
      · simp only [e1]; exact hr
    · intro i hi hp
      refine Ev.round (fun _ => by rw [slices_Equal_int_int.l0]) ?_
      refine Ev.pos (by omega) ?_
      refine Ev.pos (by omega) ?_
      refine Ev.pos (by omega) ?_
      refine Ev.pos (by omega) ?_
      refine Ev.neg ?_ (Ev.now _)
      rw [rd_nat, rd_nat]; exact of_decide_eq_false hp
  · have hne : a ≠ b := fun e => hl (by rw [e])
    rw [decide_eq_false hne]
    exact Ev.neg (by omega) (Ev.now _)
theorem iEqualResources_ev (k : Int) (b : List Int) (h p q : Int) (k' : Int) (b' : List Int) (h' p' q' : Int) (hb : b.length ≤ 1048576) : Ev (fun n => impl_EqualResources.f n k b h p q k' b' h' p' q') (pEqRes k b h p q k' b' h' p' q') := by
  unfold impl_EqualResources.f pEqRes
  exact Ev.if_and fun _ => Ev.ifb_and fun _ => Ev.id (iEqualInts_ev b b' hb)
theorem iSame_ev (x y : S50) (hf : FitimplCapture x) : Ev (fun n => impl_sameCapture.f n x.f0.f0 x.f0.f1 x.f0.f2 x.f1 x.f2.f0 x.f2.f1 x.f2.f2.f0 x.f2.f2.f1 x.f2.f2.f2 y.f0.f0 y.f0.f1 y.f0.f2 y.f1 y.f2.f0 y.f2.f1 y.f2.f2.f0 y.f2.f2.f1 y.f2.f2.f2) (pSame x y) := by
  unfold impl_sameCapture.f pSame
  exact Ev.ifb_and fun _ => Ev.if_and fun _ => Ev.id (iEqualResources_ev _ _ _ _ _ _ _ _ _ _ hf)
theorem iEqualCaptures_ev (a b : List S50) (h : a.length ≤ 1048576) (hf : ∀ y ∈ a, FitimplCapture y) : Ev (fun k => impl_EqualCaptures.f k a b) (pEqCaptures a b) := by
  unfold impl_EqualCaptures.f
  refine Ev.id ?_
  unfold slices_EqualFunc_79.f pEqCaptures
  refine Ev.if_and fun hl => ?_
  refine ev_all2 (fun k i => slices_EqualFunc_79.l0 k b a (a.length : Int) i) a b z50 pSame (by omega) (fun k => by rw [slices_EqualFunc_79.l0, if_neg (by omega)]) ?_ ?_
  · intro i hi hp r hr
    have e1 : wrap64 ((i : Int) + 1) = ((i + 1 : Nat) : Int) := by rw [w64 (by omega) (by omega)]; omega
    refine Ev.round (fun _ => by rw [slices_EqualFunc_79.l0]) ?_
    refine Ev.pos (by omega) ?_
    refine Ev.pos (by omega) ?_
    refine Ev.pos (by omega) ?_
    refine Ev.pos (by omega) ?_
    refine Ev.bind (iSame_ev (rd_T50 a (i : Int)) (rd_T50 b (i : Int)) (hf _ (getD_mem a i hi z50))) ?_
    refine Ev.pos hp ?_
    simp only [e1]; exact hr
  · intro i hi hp
    refine Ev.round (fun _ => by rw [slices_EqualFunc_79.l0]) ?_
    refine Ev.pos (by omega) ?_
    refine Ev.pos (by omega) ?_
    refine Ev.pos (by omega) ?_
    refine Ev.pos (by omega) ?_
    refine Ev.bind (iSame_ev (rd_T50 a (i : Int)) (rd_T50 b (i : Int)) (hf _ (getD_mem a i hi z50))) ?_
    refine Ev.neg (ne_true_of_eq_false hp) ?_
    exact Ev.now _
theorem FnExactEqualCaptures (l0 : List S41) (l1 : List S41) (h0 : (l0.length ≤ maxLen ∧ ∀ e_ ∈ l0, W41 e_)) (h1 : (l1.length ≤ maxLen ∧ ∀ e_ ∈ l1, W41 e_)) : ∃ k, laws_FnExactEqualCaptures.f k l0 l1 = some true := by
  obtain ⟨r, e, b, g⟩ := szCaptureS_some l0 1048576 ⟨h0.1, fun y hy => (h0.2 y hy).2.2.2.1.1⟩ (by omega) (by omega)
  refine Ev.rounds ?_
  unfold laws_FnExactEqualCaptures.f
  refine Ev.bind e ?_
  by_cases c : r < 0
  · exact Ev.pos c (Ev.now _)
  obtain ⟨hl, hy⟩ := g (by omega)
  have hm : (l0.map cvCapture).length ≤ 1048576 := by simpa using hl
  have hf : ∀ y ∈ l0.map cvCapture, FitimplCapture y := by
    intro y h
    obtain ⟨z, hz, rfl⟩ := List.mem_map.1 h
    exact hy z hz
  obtain ⟨r2, e2, b2, g2⟩ := szCaptureS_some l1 r ⟨h1.1, fun y hy => (h1.2 y hy).2.2.2.1.1⟩ (by omega) (by omega)
  refine Ev.neg c ?_
  refine Ev.bind e2 ?_
  by_cases c2 : r2 < 0
  · exact Ev.pos c2 (Ev.now _)
  obtain ⟨hl2, hy2⟩ := g2 (by omega)
  have hm2 : (l1.map cvCapture).length ≤ 1048576 := by simpa using hl2
  have hf2 : ∀ y ∈ l1.map cvCapture, FitimplCapture y := by
    intro y h
    obtain ⟨z, hz, rfl⟩ := List.mem_map.1 h
    exact hy2 z hz
  have t := toCaptureS_ev l0 hl hy
  have t2 := toCaptureS_ev l1 hl2 hy2
  refine Ev.neg c2 ?_
  refine Ev.bind t ?_
  refine Ev.bind t2 ?_
  refine Ev.bind (sEqualCaptures_ev _ _ hm hf) ?_
  refine Ev.bind t ?_
  refine Ev.bind t2 ?_
  refine Ev.bind (iEqualCaptures_ev _ _ hm hf) ?_
  refine Ev.neg (by simp) ?_
  refine Ev.bind t ?_
  refine Ev.bind (eqCaptureS_refl _ hm hf) ?_
  refine Ev.pos rfl ?_
  refine Ev.bind t2 ?_
  refine Ev.bind (eqCaptureS_refl _ hm2 hf2) ?_
  refine Ev.pos rfl ?_
  exact Ev.now _
end Go.Proofs.Ytnhnfomfeicilaa.Pure
