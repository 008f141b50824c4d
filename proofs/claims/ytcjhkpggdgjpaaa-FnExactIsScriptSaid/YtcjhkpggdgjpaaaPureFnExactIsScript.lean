/- The program's IsScript and the reference's return the same: each step is asked in the same way; the argument is as it was. No condition. -/
import Derived.Test.YtcjhkpggdgjpaaaStdFnExactIsScript
namespace Go.Proofs.Ytcjhkpggdgjpaaa.Pure
open Go.RowKit Go.Proofs.Ytcjhkpggdgjpaaa.MFnExactIsScript Go.Proofs.YtcjhkpggdgjpaaaW.PrintWords Go.Proofs.YtcjhkpggdgjpaaaW.PrintLast Go.Proofs.YtcjhkpggdgjpaaaW.PrintMore Go.Proofs.Ytcjhkpggdgjpaaa.Gen
set_option linter.unusedVariables false
set_option linter.unusedSimpArgs false

def W127 (y : S127) : Prop := (Lit.int .i64 y.f0).wf = true ∧ (Lit.int .i64 y.f1).wf = true ∧ (Lit.int .i64 y.f2).wf = true ∧ (Lit.int .i64 y.f3).wf = true
theorem l1In_eq (a b c : Int) : spec_l1In.f a b c = some (decide (b ≤ a) && decide (a ≤ c)) := by
  unfold spec_l1In.f
  by_cases h : b ≤ a <;> simp [h]
def pOp (y : S87) : Bool :=
  pIn y.f1 0 3 && (
    if y.f0 = 1 then pIn y.f2 1 9 && pIn y.f3 0 99
    else if y.f0 = 2 ∨ y.f0 = 3 ∨ y.f0 = 4 then decide (y.f2 = 0) && (y.f3 == 0)
    else if y.f0 = 5 then pIn y.f2 0 3 && pIn y.f3 0 3
    else if y.f0 = 6 then pIn y.f2 0 3 && (y.f3 == 0)
    else if y.f0 = 7 then pIn y.f2 1 3 && (y.f3 == 0)
    else if y.f0 = 8 then pIn y.f2 0 2 && (y.f3 == 0)
    else if y.f0 = 9 then pIn y.f2 0 2 && (y.f3 == 0)
    else false)
theorem sOp_ev (y : S87) : Ev (fun k => spec_l10Ok.f k y.f0 y.f1 y.f2 y.f3) (pOp y) := by
  unfold spec_l10Ok.f pOp
  refine Ev.now_and (l1In_eq _ _ _) fun _ => ?_
  by_cases h1 : y.f0 = 1
  · rw [if_pos h1]
    refine Ev.pos h1 ?_
    exact Ev.now_and (l1In_eq _ _ _) fun _ => Ev.now_bind (l1In_eq _ _ _) (Ev.now _)
  rw [if_neg h1]
  refine Ev.neg h1 ?_
  have hj : ∀ x : Bool, (x = true ↔ y.f0 = 2 ∨ y.f0 = 3 ∨ y.f0 = 4) → Ev (fun k => spec_l10Ok.j0 k 3 y.f0 x y.f0 y.f1 y.f2 y.f3) (if y.f0 = 2 ∨ y.f0 = 3 ∨ y.f0 = 4 then decide (y.f2 = 0) && (y.f3 == 0)
    else if y.f0 = 5 then pIn y.f2 0 3 && pIn y.f3 0 3
    else if y.f0 = 6 then pIn y.f2 0 3 && (y.f3 == 0)
    else if y.f0 = 7 then pIn y.f2 1 3 && (y.f3 == 0)
    else if y.f0 = 8 then pIn y.f2 0 2 && (y.f3 == 0)
    else if y.f0 = 9 then pIn y.f2 0 2 && (y.f3 == 0)
    else false) := by
    intro x hx
    refine Ev.round (fun _ => by rw [spec_l10Ok.j0]) ?_
    cases x with
    | true =>
      rw [if_pos (hx.1 rfl)]
      refine Ev.pos rfl ?_
      exact Ev.if_and fun _ => Ev.now _
    | false =>
      have hno : ¬ (y.f0 = 2 ∨ y.f0 = 3 ∨ y.f0 = 4) := fun c => by simpa using hx.2 c
      rw [if_neg hno]
      refine Ev.neg (by simp) ?_
      refine Ev.ite (fun _ => ?_) (fun _ => ?_)
      · exact Ev.now_and (l1In_eq _ _ _) fun _ => Ev.now_bind (l1In_eq _ _ _) (Ev.now _)
      refine Ev.ite (fun _ => ?_) (fun _ => ?_)
      · exact Ev.now_and (l1In_eq _ _ _) fun _ => Ev.now _
      refine Ev.ite (fun _ => ?_) (fun _ => ?_)
      · exact Ev.now_and (l1In_eq _ _ _) fun _ => Ev.now _
      refine Ev.ite (fun _ => ?_) (fun _ => ?_)
      · exact Ev.now_and (l1In_eq _ _ _) fun _ => Ev.now _
      refine Ev.ite (fun _ => ?_) (fun _ => ?_)
      · exact Ev.now_and (l1In_eq _ _ _) fun _ => Ev.now _
      · exact Ev.now _
  by_cases h2 : y.f0 = 2
  · refine Ev.pos h2 (hj _ ?_)
    simp [h2]
  refine Ev.neg h2 ?_
  by_cases h3 : y.f0 = 3
  · refine Ev.pos h3 (hj _ ?_)
    simp [h3]
  refine Ev.neg h3 (hj _ ?_)
  simp [h2, h3]
def pScript (l : List S87) : Bool := l.all pOp && decide ((l.length : Int) ≤ 16)
theorem not_any {α : Type} (l : List α) (p : α → Bool) : (!(l.any fun y => !p y)) = l.all p := by
  rw [List.all_eq_not_any_not]
theorem sIsScript_ev (l : List S87) (h : l.length ≤ 1048576) : Ev (fun k => spec_IsScript.f k l) (pScript l) := by
  unfold spec_IsScript.f pScript
  refine ev_all (fun k i => spec_IsScript.l0 k l i) l z87 pOp _ (fun k => by rw [spec_IsScript.l0, if_neg (by omega)]) ?_ ?_
  · intro i hi hp r hr
    have e1 : wrap64 ((i : Int) + 1) = ((i + 1 : Nat) : Int) := by rw [w64 (by omega) (by omega)]; omega
    refine Ev.round (fun _ => by rw [spec_IsScript.l0]) ?_
    refine Ev.pos (by omega) ?_
    refine Ev.pos (by omega) ?_
    refine Ev.bind (sOp_ev (rd_T87 l (i : Int))) ?_
    refine Ev.pos hp ?_
    simp only [e1]
    exact hr
  · intro i hi hp
    refine Ev.round (fun _ => by rw [spec_IsScript.l0]) ?_
    refine Ev.pos (by omega) ?_
    refine Ev.pos (by omega) ?_
    refine Ev.bind (sOp_ev (rd_T87 l (i : Int))) ?_
    refine Ev.neg (ne_true_of_eq_false hp) ?_
    exact Ev.now _
theorem at_eq (a b : Int) : impl_at.f a b = some (decide (0 ≤ a) && decide (a < b)) := by
  unfold impl_at.f
  by_cases h : 0 ≤ a <;> simp [h]
theorem InRange_eq (a b c : Int) : impl_InRange.f a b c = some (decide (b ≤ a) && decide (a ≤ c)) := by
  unfold impl_InRange.f
  by_cases h : b ≤ a <;> simp [h]
theorem pIn_at (a : Int) : (decide (0 ≤ a) && decide (a < 4)) = pIn a 0 3 := by
  have : (a < 4) = (a ≤ 3) := by apply propext; omega
  simp only [this]
theorem pIn_at3 (a : Int) : (decide (0 ≤ a) && decide (a < 3)) = pIn a 0 2 := by
  have : (a < 3) = (a ≤ 2) := by apply propext; omega
  simp only [this]
theorem iOp_ev (y : S87) : Ev (fun k => impl_isOp.f k y.f0 y.f1 y.f2 y.f3) (pOp y) := by
  unfold impl_isOp.f pOp
  refine Ev.now_and ((at_eq _ _).trans (congrArg some (pIn_at _))) fun _ => ?_
  by_cases h1 : y.f0 = 1
  · rw [if_pos h1]
    refine Ev.pos h1 ?_
    exact Ev.now_and (InRange_eq _ _ _) fun _ => Ev.now_bind (InRange_eq _ _ _) (Ev.now _)
  rw [if_neg h1]
  refine Ev.neg h1 ?_
  have hj : ∀ x : Bool, (x = true ↔ y.f0 = 2 ∨ y.f0 = 3 ∨ y.f0 = 4) → Ev (fun k => impl_isOp.j0 k y.f0 x y.f0 y.f1 y.f2 y.f3) (if y.f0 = 2 ∨ y.f0 = 3 ∨ y.f0 = 4 then decide (y.f2 = 0) && (y.f3 == 0)
    else if y.f0 = 5 then pIn y.f2 0 3 && pIn y.f3 0 3
    else if y.f0 = 6 then pIn y.f2 0 3 && (y.f3 == 0)
    else if y.f0 = 7 then pIn y.f2 1 3 && (y.f3 == 0)
    else if y.f0 = 8 then pIn y.f2 0 2 && (y.f3 == 0)
    else if y.f0 = 9 then pIn y.f2 0 2 && (y.f3 == 0)
    else false) := by
    intro x hx
    refine Ev.round (fun _ => by rw [impl_isOp.j0]) ?_
    cases x with
    | true =>
      rw [if_pos (hx.1 rfl)]
      refine Ev.pos rfl ?_
      exact Ev.if_and fun _ => Ev.now _
    | false =>
      have hno : ¬ (y.f0 = 2 ∨ y.f0 = 3 ∨ y.f0 = 4) := fun c => by simpa using hx.2 c
      rw [if_neg hno]
      refine Ev.neg (by simp) ?_
      refine Ev.ite (fun _ => ?_) (fun _ => ?_)
      · exact Ev.now_and ((at_eq _ _).trans (congrArg some (pIn_at _))) fun _ => Ev.now_bind ((at_eq _ _).trans (congrArg some (pIn_at _))) (Ev.now _)
      refine Ev.ite (fun _ => ?_) (fun _ => ?_)
      · exact Ev.now_and ((at_eq _ _).trans (congrArg some (pIn_at _))) fun _ => Ev.now _
      refine Ev.ite (fun _ => ?_) (fun _ => ?_)
      · exact Ev.now_and (InRange_eq _ _ _) fun _ => Ev.now _
      refine Ev.ite (fun _ => ?_) (fun _ => ?_)
      · exact Ev.now_and ((at_eq _ _).trans (congrArg some (pIn_at3 _))) fun _ => Ev.now _
      refine Ev.ite (fun _ => ?_) (fun _ => ?_)
      · exact Ev.now_and ((at_eq _ _).trans (congrArg some (pIn_at3 _))) fun _ => Ev.now _
      · exact Ev.now _
  by_cases h2 : y.f0 = 2
  · refine Ev.pos h2 (hj _ ?_)
    simp [h2]
  refine Ev.neg h2 ?_
  by_cases h3 : y.f0 = 3
  · refine Ev.pos h3 (hj _ ?_)
    simp [h3]
  refine Ev.neg h3 (hj _ ?_)
  simp [h2, h3]
theorem iIsScript_ev (l : List S87) (h : l.length ≤ 1048576) : Ev (fun k => impl_IsScript.f k l) (pScript l) := by
  unfold impl_IsScript.f pScript
  rw [Bool.and_comm]
  refine Ev.if_and fun _ => ?_
  rw [← not_any]
  refine Ev.no ?_
  unfold slices_ContainsFunc_95.f
  have hf : ∃ r : Int, Ev (fun k => slices_IndexFunc_95.l0 k l (l.length : Int) 0) r ∧ decide (r ≥ 0) = l.any (fun y => !pOp y) := by
    refine ev_find (fun k i => slices_IndexFunc_95.l0 k l (l.length : Int) i) l z87 (fun y => !pOp y) (fun k => by rw [slices_IndexFunc_95.l0, if_neg (by omega)]) ?_ ?_
    · intro i hi hp
      refine Ev.round (fun _ => by rw [slices_IndexFunc_95.l0]) ?_
      refine Ev.pos (by omega) ?_
      refine Ev.pos (by omega) ?_
      refine Ev.pos (by omega) ?_
      refine Ev.bind (Ev.no (iOp_ev (rd_T87 l (i : Int)))) ?_
      refine Ev.pos hp ?_
      exact Ev.now _
    · intro i hi hp r hr
      have e1 : wrap64 ((i : Int) + 1) = ((i + 1 : Nat) : Int) := by rw [w64 (by omega) (by omega)]; omega
      refine Ev.round (fun _ => by rw [slices_IndexFunc_95.l0]) ?_
      refine Ev.pos (by omega) ?_
      refine Ev.pos (by omega) ?_
      refine Ev.pos (by omega) ?_
      refine Ev.bind (Ev.no (iOp_ev (rd_T87 l (i : Int)))) ?_
      refine Ev.neg (ne_true_of_eq_false hp) ?_
      simp only [e1]
      exact hr
  obtain ⟨r, hr, hd⟩ := hf
  rw [← hd]
  exact Ev.bind hr (Ev.now _)
theorem FnExactIsScript (l0 : List S127) (h0 : (l0.length ≤ maxLen ∧ ∀ y ∈ l0, W127 y)) : ∃ k, laws_FnExactIsScript.f k l0 = some true := by
  obtain ⟨r, e, b, g⟩ := szOpS_some l0 1048576 h0.1 (by omega) (by omega)
  refine Ev.rounds ?_
  unfold laws_FnExactIsScript.f
  refine Ev.now_bind e ?_
  by_cases c : r < 0
  · exact Ev.pos c (Ev.now _)
  have hl := g (by omega)
  have hm : (l0.map cvOp).length ≤ 1048576 := by simpa using hl
  refine Ev.neg c ?_
  refine Ev.bind (toOpS_ev l0 hl) ?_
  refine Ev.bind (sIsScript_ev _ hm) ?_
  refine Ev.bind (toOpS_ev l0 hl) ?_
  refine Ev.bind (iIsScript_ev _ hm) ?_
  refine Ev.neg (by simp) ?_
  refine Ev.bind (toOpS_ev l0 hl) ?_
  refine Ev.bind (eqOpS_refl _ hm) ?_
  refine Ev.pos rfl ?_
  exact Ev.now _
end Go.Proofs.Ytcjhkpggdgjpaaa.Pure
