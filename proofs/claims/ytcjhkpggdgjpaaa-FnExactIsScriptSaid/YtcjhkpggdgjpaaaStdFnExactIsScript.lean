/- Plain lemmas on the helpers of the law FnExactIsScript: sizes, copies, equality with itself, marks and what holds them. Written by a program of this session. -/
import Derived.Test.YtcjhkpggdgjpaaaGen
import Derived.Test.YtcjhkpggdgjpaaaMFnExactIsScriptx0
import Derived.Test.YtcjhkpggdgjpaaaMFnExactIsScriptx1
import Derived.Test.YtcjhkpggdgjpaaaMFnExactIsScriptx2
import Derived.Test.YtcjhkpggdgjpaaaMFnExactIsScriptx3
namespace Go.Proofs.Ytcjhkpggdgjpaaa.MFnExactIsScript
open Go.RowKit Go.Proofs.YtcjhkpggdgjpaaaW.PrintWords Go.Proofs.YtcjhkpggdgjpaaaW.PrintLast Go.Proofs.YtcjhkpggdgjpaaaW.PrintMore Go.Proofs.Ytcjhkpggdgjpaaa.Gen
set_option linter.unusedVariables false
set_option linter.unusedSimpArgs false

def FitlawsOp (y : S127) : Prop := True
def cvOp (y : S127) : S87 := (⟨y.f0, y.f1, y.f2, y.f3⟩ : S87)
def FitimplOp (y : S87) : Prop := True
theorem toOp_eq (a0 : Int) (a1 : Int) (a2 : Int) (a3 : Int) : laws_toOp.f a0 a1 a2 a3 = some (a0, a1, a2, a3) := by
  simp [laws_toOp.f]
theorem eqOp_refl (a0 : Int) (a1 : Int) (a2 : Int) (a3 : Int) : laws_eqOp.f a0 a1 a2 a3 a0 a1 a2 a3 = some true := by
  simp [laws_eqOp.f]
theorem szOpS_some (l : List S127) (a : Int) (h : l.length ≤ maxLen) (h0 : 0 ≤ a) (h1 : a ≤ 1048576) : ∃ r, laws_szOpS.f l a = some r ∧ r ≤ 1048576 ∧ (0 ≤ r → l.length ≤ 1048576) := by
  unfold maxLen at h
  unfold laws_szOpS.f
  rw [w64 (by omega) (by omega)]
  by_cases c : a - (l.length : Int) < 0
  · rw [if_pos c]; exact ⟨_, rfl, by omega, by omega⟩
  · rw [if_neg c]; exact ⟨_, rfl, by omega, by omega⟩
theorem toOpS_ev (l : List S127) (h : l.length ≤ 1048576) : Ev (fun k => laws_toOpS.f k l) (l.map cvOp) := by
  unfold laws_toOpS.f
  refine Ev.pos (by omega) ?_
  refine Ev.pos (by simp only [Int.toNat_natCast]; omega) ?_
  simp only [Int.toNat_natCast]
  refine ev_fill (fun k x i => laws_toOpS.l0 k l x i) l z127 cvOp z87 (fun k x => by simp [laws_toOpS.l0]) ?_
  intro i x r hi hx h
  have hmem := getD_mem l i hi z127
  refine Ev.round (fun _ => by rw [laws_toOpS.l0]) ?_
  refine Ev.pos (by omega) ?_
  refine Ev.pos (by omega) ?_
  refine Ev.now_bind (toOp_eq _ _ _ _) ?_
  refine Ev.pos (by omega) ?_
  have e1 : wrap64 ((i : Int) + 1) = ((i + 1 : Nat) : Int) := by rw [w64 (by omega) (by omega)]; omega
  simp only [e1]
  exact h
theorem eqOpS_refl (l : List S87) (h : l.length ≤ 1048576) : Ev (fun k => laws_eqOpS.f k l l) true := by
  unfold laws_eqOpS.f
  refine Ev.pos rfl ?_
  refine ev_down (fun k i => laws_eqOpS.l0 k l l (i : Int)) l.length (fun _ => true) (Ev.round (fun _ => by rw [laws_eqOpS.l0]) (Ev.neg (by omega) (Ev.now _))) (fun i hi h => ?_)
  have hmem := getD_mem l i hi z87
  refine Ev.round (fun _ => by rw [laws_eqOpS.l0]) ?_
  refine Ev.pos (by omega) ?_
  refine Ev.pos (by omega) ?_
  refine Ev.pos (by omega) ?_
  refine Ev.now_bind (eqOp_refl _ _ _ _) ?_
  refine Ev.pos rfl ?_
  have e1 : wrap64 ((i : Int) + 1) = ((i + 1 : Nat) : Int) := by rw [w64 (by omega) (by omega)]; omega
  simp only [e1]
  exact h
end Go.Proofs.Ytcjhkpggdgjpaaa.MFnExactIsScript
