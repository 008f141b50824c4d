/- The program's ScriptInts and the reference's return the same numbers, four for each step; what is returned is new memory, and the argument is as it was. No condition. -/
import Derived.Test.YtcjhkpggdgjpaaaStdFnExactScriptInts
namespace Go.Proofs.Ytcjhkpggdgjpaaa.Pure
open Go.RowKit Go.Proofs.Ytcjhkpggdgjpaaa.MFnExactScriptInts Go.Proofs.YtcjhkpggdgjpaaaW.PrintWords Go.Proofs.YtcjhkpggdgjpaaaW.PrintLast Go.Proofs.YtcjhkpggdgjpaaaW.PrintMore Go.Proofs.Ytcjhkpggdgjpaaa.Gen
set_option linter.unusedVariables false
set_option linter.unusedSimpArgs false

def W127 (y : S127) : Prop := (Lit.int .i64 y.f0).wf = true ∧ (Lit.int .i64 y.f1).wf = true ∧ (Lit.int .i64 y.f2).wf = true ∧ (Lit.int .i64 y.f3).wf = true
def pScriptInts (l : List S87) : List Int := l.foldl (fun acc y => acc ++ [y.f0, y.f1, y.f2, y.f3]) []
theorem fold_ints_length (l : List S87) : ∀ acc : List Int, (l.foldl (fun acc y => acc ++ [y.f0, y.f1, y.f2, y.f3]) acc).length = acc.length + 4 * l.length := by
  induction l with
  | nil => intro acc; simp
  | cons y l ih => intro acc; rw [List.foldl_cons, ih]; simp; omega
theorem pScriptInts_length (l : List S87) : (pScriptInts l).length = 4 * l.length := by
  unfold pScriptInts
  rw [fold_ints_length]
  simp
theorem sScriptInts_ev (l : List S87) (h : l.length ≤ 1048576) : Ev (fun k => spec_ScriptInts.f k l) (pScriptInts l) := by
  unfold spec_ScriptInts.f
  refine ev_foldl (fun k x i => spec_ScriptInts.l0 k l x i) l z87 (fun acc y => acc ++ [y.f0, y.f1, y.f2, y.f3]) (fun x => x) (fun i x => x.length = 4 * i) [] (by simp) ?_ ?_
  · intro x hx
    refine Ev.round (fun _ => by rw [spec_ScriptInts.l0]) ?_
    refine Ev.neg (by omega) ?_
    exact Ev.now _
  · intro i x hi hx
    have e1 : wrap64 ((i : Int) + 1) = ((i + 1 : Nat) : Int) := by rw [w64 (by omega) (by omega)]; omega
    refine ⟨by simp [hx]; omega, fun r hr => ?_⟩
    refine Ev.round (fun _ => by rw [spec_ScriptInts.l0]) ?_
    refine Ev.pos (by omega) ?_
    refine Ev.pos (by omega) ?_
    refine Ev.now_bind rfl ?_
    refine Ev.pos ?_ ?_
    · simp [hx]; omega
    · simp only [e1]; exact hr
theorem iScriptInts_ev (l : List S87) (h : l.length ≤ 1048576) : Ev (fun k => impl_ScriptInts.f k l) (pScriptInts l) := by
  unfold impl_ScriptInts.f
  refine ev_foldl (fun k x i => impl_ScriptInts.l0 k x l (l.length : Int) i) l z87 (fun acc y => acc ++ [y.f0, y.f1, y.f2, y.f3]) (fun x => x) (fun i x => x.length = 4 * i) [] (by simp) ?_ ?_
  · intro x hx
    refine Ev.round (fun _ => by rw [impl_ScriptInts.l0]) ?_
    refine Ev.neg (by omega) ?_
    exact Ev.now _
  · intro i x hi hx
    have e1 : wrap64 ((i : Int) + 1) = ((i + 1 : Nat) : Int) := by rw [w64 (by omega) (by omega)]; omega
    refine ⟨by simp [hx]; omega, fun r hr => ?_⟩
    refine Ev.round (fun _ => by rw [impl_ScriptInts.l0]) ?_
    refine Ev.pos (by omega) ?_
    refine Ev.pos (by omega) ?_
    refine Ev.pos (by omega) ?_
    refine Ev.now_bind rfl ?_
    refine Ev.pos ?_ ?_
    · simp [hx]; omega
    · simp only [e1]; exact hr
theorem FnExactScriptInts (l0 : List S127) (h0 : (l0.length ≤ maxLen ∧ ∀ y ∈ l0, W127 y)) : ∃ k, laws_FnExactScriptInts.f k l0 = some true := by
  obtain ⟨r, e, b, g⟩ := szOpS_some l0 1048576 h0.1 (by omega) (by omega)
  refine Ev.rounds ?_
  unfold laws_FnExactScriptInts.f
  refine Ev.now_bind e ?_
  by_cases c : r < 0
  · exact Ev.pos c (Ev.now _)
  have hl := g (by omega)
  have hm : (l0.map cvOp).length ≤ 1048576 := by simpa using hl
  have hn : (pScriptInts (l0.map cvOp)).length ≤ 4194304 := by rw [pScriptInts_length]; omega
  refine Ev.neg c ?_
  refine Ev.bind (toOpS_ev l0 hl) ?_
  refine Ev.bind (sScriptInts_ev _ hm) ?_
  refine Ev.bind (toOpS_ev l0 hl) ?_
  refine Ev.bind (iScriptInts_ev _ hm) ?_
  refine Ev.bind (eqIntSb_refl _ (by omega)) ?_
  refine Ev.pos rfl ?_
  refine Ev.bind (toOpS_ev l0 hl) ?_
  refine Ev.bind (eqOpS_refl _ hm) ?_
  refine Ev.pos rfl ?_
  refine Ev.bind (markOpS_ev _ 1 hm (by omega) (by omega)) ?_
  refine Ev.neg (by omega) ?_
  refine Ev.bind (eqIntSb_refl _ (by omega)) ?_
  refine Ev.round (fun _ => by rw [laws_FnExactScriptInts.j0]) ?_
  refine Ev.neg (by simp) ?_
  refine Ev.bind (markIntSb_ev _ 1 (by omega) (by omega) (by omega)) ?_
  refine Ev.bind (heldIntSb_ev _ 1 (by omega) (by omega) (by omega)) ?_
  refine Ev.neg (by omega) ?_
  refine Ev.pos rfl ?_
  refine Ev.bind (toOpS_ev l0 hl) ?_
  refine Ev.bind (iScriptInts_ev _ hm) ?_
  refine Ev.bind (eqIntSb_refl _ (by omega)) ?_
  refine Ev.pos rfl ?_
  refine Ev.bind (heldIntSb_ev _ 1 (by omega) (by omega) (by omega)) ?_
  refine Ev.neg (by omega) ?_
  refine Ev.pos rfl ?_
  exact Ev.now _
end Go.Proofs.Ytcjhkpggdgjpaaa.Pure
