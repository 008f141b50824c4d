/- The program's EqualEntries and the reference's return the same: the same lengths and the same fields; the arguments are as they were. No condition. -/
import Derived.Test.YtoclgniogcdilaaStdFnExactEqualEntries
namespace Go.Proofs.Ytoclgniogcdilaa.Pure
open Go.RowKit Go.Proofs.Ytoclgniogcdilaa.MFnExactEqualEntries Go.Proofs.YtoclgniogcdilaaW.PrintWords Go.Proofs.YtoclgniogcdilaaW.PrintLast Go.Proofs.YtoclgniogcdilaaW.PrintMore Go.Proofs.Ytoclgniogcdilaa.Gen
set_option linter.unusedVariables false
set_option linter.unusedSimpArgs false

def W83 (y : S83) : Prop := (Lit.int .i64 y.f0).wf = true ∧ (Lit.int .i64 y.f1).wf = true ∧ (Lit.int .i64 y.f2).wf = true
def W85 (y : S85) : Prop := (Lit.int .i64 y.f0).wf = true ∧ W83 y.f1 ∧ (Lit.int .i64 y.f2).wf = true
def pNe (x y : S81) : Bool := (!((x.f0) == (y.f0)) || ((!((x.f1.f0) == (y.f1.f0)) || (!((x.f1.f1) == (y.f1.f1)) || (!((x.f1.f2) == (y.f1.f2))))) || (!((x.f2) == (y.f2)))))
def pEqEntries (a b : List S81) : Bool := decide ((a.length : Int) = (b.length : Int)) && (a.zip b).all fun q => !pNe q.1 q.2
theorem sEqualEntries_ev (a b : List S81) (h : a.length ≤ 1048576) : Ev (fun k => spec_EqualEntries.f k a b) (pEqEntries a b) := by
  unfold spec_EqualEntries.f pEqEntries
  refine Ev.if_and fun hl => ?_
  refine ev_all2 (fun k i => spec_EqualEntries.l0 k a b i) a b z81 (fun x y => !pNe x y) (by omega) (fun k => by rw [spec_EqualEntries.l0, if_neg (by omega)]) ?_ ?_
  · intro i hi hp r hr
    have e1 : wrap64 ((i : Int) + 1) = ((i + 1 : Nat) : Int) := by rw [w64 (by omega) (by omega)]; omega
    have hp' : pNe (rd_T81 a (i : Int)) (rd_T81 b (i : Int)) = false := (Bool.not_eq_true' _).mp hp
    refine Ev.round (fun _ => by rw [spec_EqualEntries.l0]) ?_
    refine Ev.pos (by omega) ?_
    refine Ev.pos (by omega) ?_
    refine Ev.pos (by omega) ?_
    refine Ev.neg (ne_true_of_eq_false hp') ?_
    simp only [e1]; exact hr
  · intro i hi hp
    have hp' : pNe (rd_T81 a (i : Int)) (rd_T81 b (i : Int)) = true := (Bool.not_eq_false' _).mp hp
    refine Ev.round (fun _ => by rw [spec_EqualEntries.l0]) ?_
    refine Ev.pos (by omega) ?_
    refine Ev.pos (by omega) ?_
    refine Ev.pos (by omega) ?_
    refine Ev.pos hp' ?_
    exact Ev.now _
theorem iEqualEntries_ev (a b : List S81) (h : a.length ≤ 1048576) : Ev (fun k => impl_EqualEntries.f k a b) (pEqEntries a b) := by
  unfold impl_EqualEntries.f
  refine Ev.id ?_
  unfold impl_Entry.f pEqEntries
  refine Ev.if_and fun hl => ?_
  refine ev_all2 (fun k i => impl_Entry.l0 k a b (a.length : Int) i) a b z81 (fun x y => !pNe x y) (by omega) (fun k => by rw [impl_Entry.l0, if_neg (by omega)]) ?_ ?_
  · intro i hi hp r hr
    have e1 : wrap64 ((i : Int) + 1) = ((i + 1 : Nat) : Int) := by rw [w64 (by omega) (by omega)]; omega
    have hp' : pNe (rd_T81 a (i : Int)) (rd_T81 b (i : Int)) = false := (Bool.not_eq_true' _).mp hp
    refine Ev.round (fun _ => by rw [impl_Entry.l0]) ?_
    refine Ev.pos (by omega) ?_
    refine Ev.pos (by omega) ?_
    refine Ev.pos (by omega) ?_
    refine Ev.pos (by omega) ?_
    refine Ev.neg (ne_true_of_eq_false hp') ?_
    simp only [e1]; exact hr
  · intro i hi hp
    have hp' : pNe (rd_T81 a (i : Int)) (rd_T81 b (i : Int)) = true := (Bool.not_eq_false' _).mp hp
    refine Ev.round (fun _ => by rw [impl_Entry.l0]) ?_
    refine Ev.pos (by omega) ?_
    refine Ev.pos (by omega) ?_
    refine Ev.pos (by omega) ?_
    refine Ev.pos (by omega) ?_
    refine Ev.pos hp' ?_
    exact Ev.now _
theorem FnExactEqualEntries (l0 : List S85) (l1 : List S85) (h0 : (l0.length ≤ maxLen ∧ ∀ e_ ∈ l0, W85 e_)) (h1 : (l1.length ≤ maxLen ∧ ∀ e_ ∈ l1, W85 e_)) : ∃ k, laws_FnExactEqualEntries.f k l0 l1 = some true := by
  obtain ⟨r, e, b, g⟩ := szEntryS_some l0 1048576 h0.1 (by omega) (by omega)
  refine Ev.rounds ?_
  unfold laws_FnExactEqualEntries.f
  refine Ev.now_bind e ?_
  by_cases c : r < 0
  · exact Ev.pos c (Ev.now _)
  have hl := g (by omega)
  have hm : (l0.map cvEntry).length ≤ 1048576 := by simpa using hl
  obtain ⟨r2, e2, b2, g2⟩ := szEntryS_some l1 r h1.1 (by omega) (by omega)
  refine Ev.neg c ?_
  refine Ev.now_bind e2 ?_
  by_cases c2 : r2 < 0
  · exact Ev.pos c2 (Ev.now _)
  have hl2 := g2 (by omega)
  have hm2 : (l1.map cvEntry).length ≤ 1048576 := by simpa using hl2
  have t1 := toEntryS_ev l0 hl
  have t2 := toEntryS_ev l1 hl2
  refine Ev.neg c2 ?_
  refine Ev.bind t1 ?_
  refine Ev.bind t2 ?_
  refine Ev.bind (sEqualEntries_ev _ _ hm) ?_
  refine Ev.bind t1 ?_
  refine Ev.bind t2 ?_
  refine Ev.bind (iEqualEntries_ev _ _ hm) ?_
  refine Ev.neg (by simp) ?_
  refine Ev.bind t1 ?_
  refine Ev.bind (eqEntryS_refl _ hm) ?_
  refine Ev.pos rfl ?_
  refine Ev.bind t2 ?_
  refine Ev.bind (eqEntryS_refl _ hm2) ?_
  refine Ev.pos rfl ?_
  exact Ev.now _
end Go.Proofs.Ytoclgniogcdilaa.Pure
