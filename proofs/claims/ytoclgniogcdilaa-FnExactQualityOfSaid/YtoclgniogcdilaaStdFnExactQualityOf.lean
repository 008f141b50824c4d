/- Plain lemmas on the helpers of the law FnExactQualityOf: sizes, copies, equality with itself, marks and what holds them. Written by a program of this session. -/
import Derived.Test.YtoclgniogcdilaaGen
import Derived.Test.YtoclgniogcdilaaMFnExactQualityOfx0
import Derived.Test.YtoclgniogcdilaaMFnExactQualityOfx1
import Derived.Test.YtoclgniogcdilaaMFnExactQualityOfx2
namespace Go.Proofs.Ytoclgniogcdilaa.MFnExactQualityOf
open Go.RowKit Go.Proofs.YtoclgniogcdilaaW.PrintWords Go.Proofs.YtoclgniogcdilaaW.PrintLast Go.Proofs.YtoclgniogcdilaaW.PrintMore Go.Proofs.Ytoclgniogcdilaa.Gen
set_option linter.unusedVariables false
set_option linter.unusedSimpArgs false

def FitlawsChoice (y : S24) : Prop := True
def cvChoice (y : S24) : S26 := (⟨y.f0, y.f1⟩ : S26)
def FitimplChoice (y : S26) : Prop := True
theorem toChoice_eq (a0 : Int) (a1 : Int) : laws_toChoice.f a0 a1 = some (a0, a1) := by
  simp [laws_toChoice.f]
theorem eqChoice_refl (a0 : Int) (a1 : Int) : laws_eqChoice.f a0 a1 a0 a1 = some true := by
  simp [laws_eqChoice.f]
theorem szChoiceS_some (l : List S24) (a : Int) (h : l.length ≤ maxLen) (h0 : 0 ≤ a) (h1 : a ≤ 1048576) : ∃ r, laws_szChoiceS.f l a = some r ∧ r ≤ 1048576 ∧ (0 ≤ r → l.length ≤ 1048576) := by
  unfold maxLen at h
  unfold laws_szChoiceS.f
  rw [w64 (by omega) (by omega)]
  by_cases c : a - (l.length : Int) < 0
  · rw [if_pos c]; exact ⟨_, rfl, by omega, by omega⟩
  · rw [if_neg c]; exact ⟨_, rfl, by omega, by omega⟩
theorem toChoiceS_ev (l : List S24) (h : l.length ≤ 1048576) : Ev (fun k => laws_toChoiceS.f k l) (l.map cvChoice) := by
  unfold laws_toChoiceS.f
  refine Ev.pos (by omega) ?_
  refine Ev.pos (by simp only [Int.toNat_natCast]; omega) ?_
  simp only [Int.toNat_natCast]
  refine ev_fill (fun k x i => laws_toChoiceS.l0 k l x i) l z24 cvChoice z26 (fun k x => by simp [laws_toChoiceS.l0]) ?_
  intro i x r hi hx h
  have hmem := getD_mem l i hi z24
  refine Ev.round (fun _ => by rw [laws_toChoiceS.l0]) ?_
  refine Ev.pos (by omega) ?_
  refine Ev.pos (by omega) ?_
  refine Ev.now_bind (toChoice_eq _ _) ?_
  refine Ev.pos (by omega) ?_
  have e1 : wrap64 ((i : Int) + 1) = ((i + 1 : Nat) : Int) := by rw [w64 (by omega) (by omega)]; omega
  simp only [e1]
  exact h
theorem eqChoiceS_refl (l : List S26) (h : l.length ≤ 1048576) : Ev (fun k => laws_eqChoiceS.f k l l) true := by
  unfold laws_eqChoiceS.f
  refine Ev.pos rfl ?_
  refine ev_down (fun k i => laws_eqChoiceS.l0 k l l (i : Int)) l.length (fun _ => true) (Ev.round (fun _ => by rw [laws_eqChoiceS.l0]) (Ev.neg (by omega) (Ev.now _))) (fun i hi h => ?_)
  have hmem := getD_mem l i hi z26
  refine Ev.round (fun _ => by rw [laws_eqChoiceS.l0]) ?_
  refine Ev.pos (by omega) ?_
  refine Ev.pos (by omega) ?_
  refine Ev.pos (by omega) ?_
  refine Ev.now_bind (eqChoice_refl _ _) ?_
  refine Ev.pos rfl ?_
  have e1 : wrap64 ((i : Int) + 1) = ((i + 1 : Nat) : Int) := by rw [w64 (by omega) (by omega)]; omega
  simp only [e1]
  exact h
end Go.Proofs.Ytoclgniogcdilaa.MFnExactQualityOf
