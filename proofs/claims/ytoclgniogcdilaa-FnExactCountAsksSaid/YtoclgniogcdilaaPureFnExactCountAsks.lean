/- The program's CountAsks and the reference's return the same number: both count the steps whose kind lies from 1 to 4; the argument is as it was. No condition. -/
import Derived.Test.YtoclgniogcdilaaStdFnExactCountAsks
namespace Go.Proofs.Ytoclgniogcdilaa.Pure
open Go.RowKit Go.Proofs.Ytoclgniogcdilaa.PFnExactCountAsks Go.Proofs.YtoclgniogcdilaaW.PrintWords Go.Proofs.YtoclgniogcdilaaW.PrintLast Go.Proofs.YtoclgniogcdilaaW.PrintMore Go.Proofs.Ytoclgniogcdilaa.Gen
set_option linter.unusedVariables false
set_option linter.unusedSimpArgs false

def W75 (y : S75) : Prop := (Lit.int .i64 y.f0).wf = true ∧ (Lit.int .i64 y.f1).wf = true ∧ (Lit.int .i64 y.f2).wf = true ∧ (Lit.int .i64 y.f3).wf = true
theorem l1In_eq (a b c : Int) : spec_l1In.f a b c = some (decide (b ≤ a) && decide (a ≤ c)) := by
  unfold spec_l1In.f
  by_cases h : b ≤ a <;> simp [h]
def pAsks (k : Int) : Bool := decide (1 ≤ k) && decide (k ≤ 4)
theorem sAsks_eq (k : Int) : spec_Asks.f k = some (pAsks k) := by
  unfold spec_Asks.f pAsks
  rw [l1In_eq]
  rfl
def stepAsks (n : Int) (y : S73) : Int := if pAsks y.f0 = true then n + 1 else n
def pCountAsks (l : List S73) : Int := l.foldl stepAsks 0
theorem sCountAsks_ev (l : List S73) (h : l.length ≤ 1048576) : Ev (fun k => spec_CountAsks.f k l) (pCountAsks l) := by
  unfold spec_CountAsks.f
  refine ev_foldl (fun k x i => spec_CountAsks.l0 k l x i) l z73 stepAsks id (fun i x => 0 ≤ x ∧ x ≤ (i : Int)) 0 ⟨by omega, by omega⟩ ?_ ?_
  · intro x hx
    refine Ev.round (fun _ => by rw [spec_CountAsks.l0]) ?_
    refine Ev.neg (by omega) ?_
    exact Ev.now _
  intro i x hi hx
  have e1 : wrap64 ((i : Int) + 1) = ((i + 1 : Nat) : Int) := by rw [w64 (by omega) (by omega)]; omega
  unfold stepAsks
  cases c : pAsks (l.getD i z73).f0 with
  | true =>
    refine ⟨by simp; omega, fun r h => ?_⟩
    refine Ev.round (fun _ => by rw [spec_CountAsks.l0]) ?_
    refine Ev.pos (by omega) ?_
    refine Ev.pos (by omega) ?_
    refine Ev.now_bind (sAsks_eq _) ?_
    refine Ev.pos c ?_
    rw [w64 (n := x + 1) (by omega) (by omega)]
    simp only [e1]
    exact h
  | false =>
    refine ⟨by simp; omega, fun r h => ?_⟩
    refine Ev.round (fun _ => by rw [spec_CountAsks.l0]) ?_
    refine Ev.pos (by omega) ?_
    refine Ev.pos (by omega) ?_
    refine Ev.now_bind (sAsks_eq _) ?_
    refine Ev.neg (ne_true_of_eq_false c) ?_
    simp only [e1]
    exact h
theorem InRange_eq (a b c : Int) : impl_InRange.f a b c = some (decide (b ≤ a) && decide (a ≤ c)) := by
  unfold impl_InRange.f
  by_cases h : b ≤ a <;> simp [h]
theorem iAsks_eq (k : Int) : impl_Asks.f k = some (pAsks k) := by
  unfold impl_Asks.f pAsks
  rw [InRange_eq]
  rfl
theorem iCountAsks_ev (l : List S73) (h : l.length ≤ 1048576) : Ev (fun k => impl_CountAsks.f k l) (pCountAsks l) := by
  unfold impl_CountAsks.f
  refine ev_foldl (fun k x i => impl_CountAsks.l0 k x l (l.length : Int) i) l z73 stepAsks id (fun i x => 0 ≤ x ∧ x ≤ (i : Int)) 0 ⟨by omega, by omega⟩ ?_ ?_
  · intro x hx
    refine Ev.round (fun _ => by rw [impl_CountAsks.l0]) ?_
    refine Ev.neg (by omega) ?_
    exact Ev.now _
  intro i x hi hx
  have e1 : wrap64 ((i : Int) + 1) = ((i + 1 : Nat) : Int) := by rw [w64 (by omega) (by omega)]; omega
  unfold stepAsks
  cases c : pAsks (l.getD i z73).f0 with
  | true =>
    refine ⟨by simp; omega, fun r h => ?_⟩
    refine Ev.round (fun _ => by rw [impl_CountAsks.l0]) ?_
    refine Ev.pos (by omega) ?_
    refine Ev.pos (by omega) ?_
    refine Ev.pos (by omega) ?_
    refine Ev.now_bind (iAsks_eq _) ?_
    refine Ev.pos c ?_
    rw [w64 (n := x + 1) (by omega) (by omega)]
    simp only [e1]
    exact h
  | false =>
    refine ⟨by simp; omega, fun r h => ?_⟩
    refine Ev.round (fun _ => by rw [impl_CountAsks.l0]) ?_
    refine Ev.pos (by omega) ?_
    refine Ev.pos (by omega) ?_
    refine Ev.pos (by omega) ?_
    refine Ev.now_bind (iAsks_eq _) ?_
    refine Ev.neg (ne_true_of_eq_false c) ?_
    simp only [e1]
    exact h
theorem FnExactCountAsks (l0 : List S75) (h0 : (l0.length ≤ maxLen ∧ ∀ y ∈ l0, W75 y)) : ∃ k, laws_FnExactCountAsks.f k l0 = some true := by
  obtain ⟨r, e, b, g⟩ := szOpS_some l0 1048576 h0.1 (by omega) (by omega)
  refine Ev.rounds ?_
  unfold laws_FnExactCountAsks.f
  refine Ev.now_bind e ?_
  by_cases c : r < 0
  · exact Ev.pos c (Ev.now _)
  have hl := g (by omega)
  have hm : (l0.map cvOp).length ≤ 1048576 := by simpa using hl
  refine Ev.neg c ?_
  refine Ev.bind (toOpS_ev l0 hl) ?_
  refine Ev.bind (sCountAsks_ev _ hm) ?_
  refine Ev.bind (toOpS_ev l0 hl) ?_
  refine Ev.bind (iCountAsks_ev _ hm) ?_
  refine Ev.pos rfl ?_
  refine Ev.bind (toOpS_ev l0 hl) ?_
  refine Ev.bind (eqOpS_refl _ hm) ?_
  refine Ev.pos rfl ?_
  exact Ev.now _
end Go.Proofs.Ytoclgniogcdilaa.Pure
