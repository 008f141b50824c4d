/- Plain lemmas on the helpers of the law FnExactStartState: sizes, copies, equality with itself, marks and what holds them. Written by a program of this session. -/
import Derived.Test.YtoclgniogcdilaaGen
import Derived.Test.YtoclgniogcdilaaMFnExactStartStatex0
import Derived.Test.YtoclgniogcdilaaMFnExactStartStatex1
import Derived.Test.YtoclgniogcdilaaMFnExactStartStatex2
namespace Go.Proofs.Ytoclgniogcdilaa.MFnExactStartState
open Go.RowKit Go.Proofs.YtoclgniogcdilaaW.PrintWords Go.Proofs.YtoclgniogcdilaaW.PrintLast Go.Proofs.YtoclgniogcdilaaW.PrintMore Go.Proofs.Ytoclgniogcdilaa.Gen
set_option linter.unusedVariables false
set_option linter.unusedSimpArgs false

theorem eqIntS_refl (l : List Int) (h : l.length ≤ 1048576) : Ev (fun k => laws_eqIntS.f k l l) true := by
  unfold laws_eqIntS.f
  refine Ev.pos rfl ?_
  refine ev_down (fun k i => laws_eqIntS.l0 k l l (i : Int)) l.length (fun _ => true) (Ev.round (fun _ => by rw [laws_eqIntS.l0]) (Ev.neg (by omega) (Ev.now _))) (fun i hi h => ?_)
  refine Ev.round (fun _ => by rw [laws_eqIntS.l0]) ?_
  refine Ev.pos (by omega) ?_
  refine Ev.pos (by omega) ?_
  refine Ev.pos (by omega) ?_
  refine Ev.pos rfl ?_
  have e1 : wrap64 ((i : Int) + 1) = ((i + 1 : Nat) : Int) := by rw [w64 (by omega) (by omega)]; omega
  simp only [e1]
  exact h
theorem markIntS_ev (l : List Int) (a : Int) (h : l.length ≤ 1048576) (h0 : 0 ≤ a) (h1 : a ≤ 1152921504606846976) : Ev (fun k => laws_markIntS.f k l a) (a + (l.length : Int), (List.range l.length).map fun j : Nat => a + (j : Int)) := by
  unfold laws_markIntS.f
  have main := ev_down (fun k i => laws_markIntS.l0 k ((List.range i).map (fun j : Nat => a + (j : Int)) ++ l.drop i) (a + (i : Int)) (i : Int)) l.length (fun _ => (a + (l.length : Int), (List.range l.length).map fun j : Nat => a + (j : Int)))
    (Ev.round (fun _ => by rw [laws_markIntS.l0]) (Ev.neg (by simp) (Ev.const fun _ => by simp)))
    (fun i hi h => ?_)
  · simpa using main
  refine Ev.round (fun _ => by rw [laws_markIntS.l0]) ?_
  refine Ev.pos (by simp; omega) ?_
  refine Ev.pos (by omega) ?_
  have e1 : wrap64 ((i : Int) + 1) = ((i + 1 : Nat) : Int) := by rw [w64 (by omega) (by omega)]; omega
  have e2 : wrap64 (a + (i : Int) + 1) = a + ((i + 1 : Nat) : Int) := by rw [w64 (by omega) (by omega)]; omega
  have e3 : ((List.range i).map (fun j : Nat => a + (j : Int)) ++ l.drop i).set i (a + (i : Int)) = (List.range (i + 1)).map (fun j : Nat => a + (j : Int)) ++ l.drop (i + 1) := by
    rw [List.set_append_right _ _ (by simp), drop_cons l i hi 0, List.range_succ, List.map_append, List.append_assoc]
    simp
  simp only [e1, e2, Int.toNat_natCast, e3]
  exact h
theorem heldIntS_ev (n : Nat) (a : Int) (h : n ≤ 1048576) (h0 : 0 ≤ a) (h1 : a ≤ 1152921504606846976) : Ev (fun k => laws_heldIntS.f k ((List.range n).map fun j : Nat => a + (j : Int)) a) (a + (n : Int)) := by
  unfold laws_heldIntS.f
  have main := ev_down (fun k i => laws_heldIntS.l0 k ((List.range n).map fun j : Nat => a + (j : Int)) (a + (i : Int)) (i : Int)) n (fun _ => a + (n : Int))
    (Ev.round (fun _ => by rw [laws_heldIntS.l0]) (Ev.neg (by simp) (Ev.now _)))
    (fun i hi h => ?_)
  · simpa using main
  refine Ev.round (fun _ => by rw [laws_heldIntS.l0]) ?_
  refine Ev.pos (by simp; omega) ?_
  refine Ev.pos (by omega) ?_
  refine Ev.pos ?_ ?_
  · rw [rd_nat, getD_in _ _ (by simpa using hi)]
    simp
  have e1 : wrap64 ((i : Int) + 1) = ((i + 1 : Nat) : Int) := by rw [w64 (by omega) (by omega)]; omega
  have e2 : wrap64 (a + (i : Int) + 1) = a + ((i + 1 : Nat) : Int) := by rw [w64 (by omega) (by omega)]; omega
  simp only [e1, e2]
  exact h
theorem eqState_refl (a0 : Int) (a1 : List Int) (a2 : List Int) (a3 : List Int) (ha1 : a1.length ≤ 1048576) (ha2 : a2.length ≤ 1048576) (ha3 : a3.length ≤ 1048576) : Ev (fun k => laws_eqState.f k a0 a1 a2 a3 a0 a1 a2 a3) true := by
  unfold laws_eqState.f
  refine Ev.pos rfl ?_
  refine Ev.bind (eqIntS_refl a1 ha1) ?_
  refine Ev.pos rfl ?_
  refine Ev.bind (eqIntS_refl a2 ha2) ?_
  refine Ev.pos rfl ?_
  refine Ev.bind (eqIntS_refl a3 ha3) ?_
  refine Ev.pos rfl ?_
  exact Ev.now _
theorem markState_ev (a0 : Int) (a1 : List Int) (a2 : List Int) (a3 : List Int) (n : Int) (ha1 : a1.length ≤ 1048576) (ha2 : a2.length ≤ 1048576) (ha3 : a3.length ≤ 1048576) (h0 : 0 ≤ n) (h1 : n ≤ 1152921504600000000) : Ev (fun k => laws_markState.f k a0 a1 a2 a3 n) (n + (a1.length : Int) + (a2.length : Int) + (a3.length : Int), ((List.range a1.length).map fun j : Nat => n + (j : Int)), ((List.range a2.length).map fun j : Nat => n + (a1.length : Int) + (j : Int)), ((List.range a3.length).map fun j : Nat => n + (a1.length : Int) + (a2.length : Int) + (j : Int))) := by
  unfold laws_markState.f
  refine Ev.bind (markIntS_ev a1 _ ha1 (by omega) (by omega)) ?_
  refine Ev.bind (markIntS_ev a2 _ ha2 (by omega) (by omega)) ?_
  refine Ev.bind (markIntS_ev a3 _ ha3 (by omega) (by omega)) ?_
  exact Ev.now _
theorem heldState_ev (a0 : Int) (m0 : Nat) (hm0 : m0 ≤ 1048576) (m1 : Nat) (hm1 : m1 ≤ 1048576) (m2 : Nat) (hm2 : m2 ≤ 1048576) (n : Int) (h0 : 0 ≤ n) (h1 : n ≤ 1152921504600000000) : Ev (fun k => laws_heldState.f k a0 ((List.range m0).map fun j : Nat => n + (j : Int)) ((List.range m1).map fun j : Nat => n + (m0 : Int) + (j : Int)) ((List.range m2).map fun j : Nat => n + (m0 : Int) + (m1 : Int) + (j : Int)) n) (n + (m0 : Int) + (m1 : Int) + (m2 : Int)) := by
  unfold laws_heldState.f
  refine Ev.bind (heldIntS_ev m0 _ hm0 (by omega) (by omega)) ?_
  refine Ev.neg (by omega) ?_
  refine Ev.bind (heldIntS_ev m1 _ hm1 (by omega) (by omega)) ?_
  refine Ev.neg (by omega) ?_
  refine Ev.bind (heldIntS_ev m2 _ hm2 (by omega) (by omega)) ?_
  refine Ev.neg (by omega) ?_
  exact Ev.now _
end Go.Proofs.Ytoclgniogcdilaa.MFnExactStartState
