/- Plain lemmas on the helpers of the law FnExactCapturesIn: sizes, copies, equality with itself, marks and what holds them. Written by a program of this session. -/
import Derived.Test.YtoclgniogcdilaaGen
import Derived.Test.YtoclgniogcdilaaPFnExactCapturesInx0
import Derived.Test.YtoclgniogcdilaaPFnExactCapturesInx1
namespace Go.Proofs.Ytoclgniogcdilaa.PFnExactCapturesIn
open Go.RowKit Go.Proofs.YtoclgniogcdilaaW.PrintWords Go.Proofs.YtoclgniogcdilaaW.PrintLast Go.Proofs.YtoclgniogcdilaaW.PrintMore Go.Proofs.Ytoclgniogcdilaa.Gen
set_option linter.unusedVariables false
set_option linter.unusedSimpArgs false

theorem eqIntS_refl (l : List Int) (h : l.length ≤ 1048576) : Ev (fun k => laws_eqIntS.f k l l) true := by
  unfold laws_eqIntS.f
  refine Ev.pos rfl ?_
  refine ev_down (fun k i => laws_eqIntS.l0 k l l (i : Int)) l.length (fun _ => true) (Ev.round (fun _ => by rw [laws_eqIntS.l0]) (Ev.neg (by omega) (Ev.now _))) (fun i hi h => ?_)
  refine Ev.round (fun _ => by rw [laws_eqIntS.l0]) ?_
  refine Ev.pos (by omega) ?_
  refine Ev.pos (by omega) ?_
  refine Ev.pos (by omega) ?_
  refine Ev.pos rfl ?_
  have e1 : wrap64 ((i : Int) + 1) = ((i + 1 : Nat) : Int) := by rw [w64 (by omega) (by omega)]; omega
  simp only [e1]
  exact h
theorem markIntS_ev (l : List Int) (a : Int) (h : l.length ≤ 1048576) (h0 : 0 ≤ a) (h1 : a ≤ 1152921504606846976) : Ev (fun k => laws_markIntS.f k l a) (a + (l.length : Int), (List.range l.length).map fun j : Nat => a + (j : Int)) := by
  unfold laws_markIntS.f
  have main := ev_down (fun k i => laws_markIntS.l0 k ((List.range i).map (fun j : Nat => a + (j : Int)) ++ l.drop i) (a + (i : Int)) (i : Int)) l.length (fun _ => (a + (l.length : Int), (List.range l.length).map fun j : Nat => a + (j : Int)))
    (Ev.round (fun _ => by rw [laws_markIntS.l0]) (Ev.neg (by simp) (Ev.const fun _ => by simp)))
    (fun i hi h => ?_)
  · simpa using main
  refine Ev.round (fun _ => by rw [laws_markIntS.l0]) ?_
  refine Ev.pos (by simp; omega) ?_
  refine Ev.pos (by omega) ?_
  have e1 : wrap64 ((i : Int) + 1) = ((i + 1 : Nat) : Int) := by rw [w64 (by omega) (by omega)]; omega
  have e2 : wrap64 (a + (i : Int) + 1) = a + ((i + 1 : Nat) : Int) := by rw [w64 (by omega) (by omega)]; omega
  have e3 : ((List.range i).map (fun j : Nat => a + (j : Int)) ++ l.drop i).set i (a + (i : Int)) = (List.range (i + 1)).map (fun j : Nat => a + (j : Int)) ++ l.drop (i + 1) := by
    rw [List.set_append_right _ _ (by simp), drop_cons l i hi 0, List.range_succ, List.map_append, List.append_assoc]
    simp
  simp only [e1, e2, Int.toNat_natCast, e3]
  exact h
theorem heldIntS_ev (n : Nat) (a : Int) (h : n ≤ 1048576) (h0 : 0 ≤ a) (h1 : a ≤ 1152921504606846976) : Ev (fun k => laws_heldIntS.f k ((List.range n).map fun j : Nat => a + (j : Int)) a) (a + (n : Int)) := by
  unfold laws_heldIntS.f
  have main := ev_down (fun k i => laws_heldIntS.l0 k ((List.range n).map fun j : Nat => a + (j : Int)) (a + (i : Int)) (i : Int)) n (fun _ => a + (n : Int))
    (Ev.round (fun _ => by rw [laws_heldIntS.l0]) (Ev.neg (by simp) (Ev.now _)))
    (fun i hi h => ?_)
  · simpa using main
  refine Ev.round (fun _ => by rw [laws_heldIntS.l0]) ?_
  refine Ev.pos (by simp; omega) ?_
  refine Ev.pos (by omega) ?_
  refine Ev.pos ?_ ?_
  · rw [rd_nat, getD_in _ _ (by simpa using hi)]
    simp
  have e1 : wrap64 ((i : Int) + 1) = ((i + 1 : Nat) : Int) := by rw [w64 (by omega) (by omega)]; omega
  have e2 : wrap64 (a + (i : Int) + 1) = a + ((i + 1 : Nat) : Int) := by rw [w64 (by omega) (by omega)]; omega
  simp only [e1, e2]
  exact h
end Go.Proofs.Ytoclgniogcdilaa.PFnExactCapturesIn
