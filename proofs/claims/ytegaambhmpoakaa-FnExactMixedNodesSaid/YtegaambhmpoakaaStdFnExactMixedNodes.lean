/- Plain lemmas on the helpers of the law FnExactMixedNodes: sizes, copies, equality with itself, marks and what holds them. Written by a program of this session. -/
import Derived.Test.YtegaambhmpoakaaGen
import Derived.Test.YtegaambhmpoakaaMFnExactMixedNodesx0
import Derived.Test.YtegaambhmpoakaaMFnExactMixedNodesx1
import Derived.Test.YtegaambhmpoakaaMFnExactMixedNodesx2
import Derived.Test.YtegaambhmpoakaaMFnExactMixedNodesx3
import Derived.Test.YtegaambhmpoakaaMFnExactMixedNodesx4
import Derived.Test.YtegaambhmpoakaaMFnExactMixedNodesx5
import Derived.Test.YtegaambhmpoakaaMFnExactMixedNodesx6
import Derived.Test.YtegaambhmpoakaaMFnExactMixedNodesx7
import Derived.Test.YtegaambhmpoakaaMFnExactMixedNodesx8
import Derived.Test.YtegaambhmpoakaaMFnExactMixedNodesx9
namespace Go.Proofs.Ytegaambhmpoakaa.MFnExactMixedNodes
open Go.RowKit Go.Proofs.YtegaambhmpoakaaW.PrintWords Go.Proofs.YtegaambhmpoakaaW.PrintLast Go.Proofs.YtegaambhmpoakaaW.PrintMore Go.Proofs.Ytegaambhmpoakaa.Gen
set_option linter.unusedVariables false
set_option linter.unusedSimpArgs false

theorem szIntS_some (l : List Int) (a : Int) (h : l.length ≤ maxLen) (h0 : 0 ≤ a) (h1 : a ≤ 1048576) : ∃ r, laws_szIntS.f l a = some r ∧ r ≤ 1048576 ∧ (0 ≤ r → l.length ≤ 1048576) := by
  unfold maxLen at h
  unfold laws_szIntS.f
  rw [w64 (by omega) (by omega)]
  by_cases c : a - (l.length : Int) < 0
  · rw [if_pos c]; exact ⟨_, rfl, by omega, by omega⟩
  · rw [if_neg c]; exact ⟨_, rfl, by omega, by omega⟩
theorem toIntS_ev (l : List Int) (h : l.length ≤ 1048576) : Ev (fun k => laws_toIntS.f k l) l := by
  unfold laws_toIntS.f
  refine Ev.pos (by omega) ?_
  refine Ev.pos (by simp only [Int.toNat_natCast]; omega) ?_
  simp only [Int.toNat_natCast]
  refine Ev.cast (ev_fill (fun k x i => laws_toIntS.l0 k l x i) l 0 id 0 (fun k x => by simp [laws_toIntS.l0]) ?_) (List.map_id l)
  intro i x r hi hx h
  refine Ev.round (fun _ => by rw [laws_toIntS.l0]) ?_
  refine Ev.pos (by omega) ?_
  refine Ev.pos (by omega) ?_
  refine Ev.pos (by omega) ?_
  have e1 : wrap64 ((i : Int) + 1) = ((i + 1 : Nat) : Int) := by rw [w64 (by omega) (by omega)]; omega
  simp only [e1]
  exact h
theorem eqIntSb_refl (l : List Int) (h : l.length ≤ 16777216) : Ev (fun k => laws_eqIntS.f k l l) true := by
  unfold laws_eqIntS.f
  refine Ev.pos rfl ?_
  refine ev_down (fun k i => laws_eqIntS.l0 k l l (i : Int)) l.length (fun _ => true) (Ev.round (fun _ => by rw [laws_eqIntS.l0]) (Ev.neg (by omega) (Ev.now _))) (fun i hi h => ?_)
  refine Ev.round (fun _ => by rw [laws_eqIntS.l0]) ?_
  refine Ev.pos (by omega) ?_
  refine Ev.pos (by omega) ?_
  refine Ev.pos (by omega) ?_
  refine Ev.pos rfl ?_
  have e1 : wrap64 ((i : Int) + 1) = ((i + 1 : Nat) : Int) := by rw [w64 (by omega) (by omega)]; omega
  simp only [e1]
  exact h
theorem eqIntS_refl (l : List Int) (h : l.length ≤ 1048576) : Ev (fun k => laws_eqIntS.f k l l) true := eqIntSb_refl l (by omega)
theorem markIntSb_ev (l : List Int) (a : Int) (h : l.length ≤ 16777216) (h0 : 0 ≤ a) (h1 : a ≤ 1152921504606846976) : Ev (fun k => laws_markIntS.f k l a) (a + (l.length : Int), (List.range l.length).map fun j : Nat => a + (j : Int)) := by
  unfold laws_markIntS.f
  have main := ev_down (fun k i => laws_markIntS.l0 k ((List.range i).map (fun j : Nat => a + (j : Int)) ++ l.drop i) (a + (i : Int)) (i : Int)) l.length (fun _ => (a + (l.length : Int), (List.range l.length).map fun j : Nat => a + (j : Int)))
    (Ev.round (fun _ => by rw [laws_markIntS.l0]) (Ev.neg (by simp) (Ev.const fun _ => by simp)))
    (fun i hi h => ?_)
  · simpa using main
  refine Ev.round (fun _ => by rw [laws_markIntS.l0]) ?_
  refine Ev.pos (by simp; omega) ?_
  refine Ev.pos (by omega) ?_
  have e1 : wrap64 ((i : Int) + 1) = ((i + 1 : Nat) : Int) := by rw [w64 (by omega) (by omega)]; omega
  have e2 : wrap64 (a + (i : Int) + 1) = a + ((i + 1 : Nat) : Int) := by rw [w64 (by omega) (by omega)]; omega
  have e3 : ((List.range i).map (fun j : Nat => a + (j : Int)) ++ l.drop i).set i (a + (i : Int)) = (List.range (i + 1)).map (fun j : Nat => a + (j : Int)) ++ l.drop (i + 1) := by
    rw [List.set_append_right _ _ (by simp), drop_cons l i hi 0, List.range_succ, List.map_append, List.append_assoc]
    simp
  simp only [e1, e2, Int.toNat_natCast, e3]
  exact h
theorem markIntS_ev (l : List Int) (a : Int) (h : l.length ≤ 1048576) (h0 : 0 ≤ a) (h1 : a ≤ 1152921504606846976) : Ev (fun k => laws_markIntS.f k l a) (a + (l.length : Int), (List.range l.length).map fun j : Nat => a + (j : Int)) := markIntSb_ev l a (by omega) h0 h1
theorem heldIntSb_ev (n : Nat) (a : Int) (h : n ≤ 16777216) (h0 : 0 ≤ a) (h1 : a ≤ 1152921504606846976) : Ev (fun k => laws_heldIntS.f k ((List.range n).map fun j : Nat => a + (j : Int)) a) (a + (n : Int)) := by
  unfold laws_heldIntS.f
  have main := ev_down (fun k i => laws_heldIntS.l0 k ((List.range n).map fun j : Nat => a + (j : Int)) (a + (i : Int)) (i : Int)) n (fun _ => a + (n : Int))
    (Ev.round (fun _ => by rw [laws_heldIntS.l0]) (Ev.neg (by simp) (Ev.now _)))
    (fun i hi h => ?_)
  · simpa using main
  refine Ev.round (fun _ => by rw [laws_heldIntS.l0]) ?_
  refine Ev.pos (by simp; omega) ?_
  refine Ev.pos (by omega) ?_
  refine Ev.pos ?_ ?_
  · rw [rd_nat, getD_in _ _ (by simpa using hi)]
    simp
  have e1 : wrap64 ((i : Int) + 1) = ((i + 1 : Nat) : Int) := by rw [w64 (by omega) (by omega)]; omega
  have e2 : wrap64 (a + (i : Int) + 1) = a + ((i + 1 : Nat) : Int) := by rw [w64 (by omega) (by omega)]; omega
  simp only [e1, e2]
  exact h
theorem heldIntS_ev (n : Nat) (a : Int) (h : n ≤ 1048576) (h0 : 0 ≤ a) (h1 : a ≤ 1152921504606846976) : Ev (fun k => laws_heldIntS.f k ((List.range n).map fun j : Nat => a + (j : Int)) a) (a + (n : Int)) := heldIntSb_ev n a (by omega) h0 h1
def FitlawsCapture (y : S131) : Prop := y.f2.f1.length ≤ 1048576
def cvCapture (y : S131) : S93 := (⟨(⟨y.f0.f0, y.f0.f1, y.f0.f2⟩ : S31), y.f1, (⟨y.f2.f0, y.f2.f1, (⟨y.f2.f2.f0, y.f2.f2.f1, y.f2.f2.f2⟩ : S31)⟩ : S51)⟩ : S93)
def FitimplCapture (y : S93) : Prop := y.f2.f1.length ≤ 1048576
def FitlawsChoice (y : S209) : Prop := True
def cvChoice (y : S209) : S27 := (⟨y.f0, y.f1⟩ : S27)
def FitimplChoice (y : S27) : Prop := True
theorem toAddress_eq (a0 : Int) (a1 : Int) (a2 : Int) : laws_toAddress.f a0 a1 a2 = some (a0, a1, a2) := by
  simp [laws_toAddress.f]
theorem eqAddress_refl (a0 : Int) (a1 : Int) (a2 : Int) : laws_eqAddress.f a0 a1 a2 a0 a1 a2 = some true := by
  simp [laws_eqAddress.f]
theorem toResource_ev (a0 : Int) (a1 : List Int) (a2 : Int) (a3 : Int) (a4 : Int) (ha1 : a1.length ≤ 1048576) : Ev (fun k => laws_toResource.f k a0 a1 a2 a3 a4) (a0, a1, a2, a3, a4) := by
  unfold laws_toResource.f
  refine Ev.bind (toIntS_ev a1 ha1) ?_
  refine Ev.now_bind (toAddress_eq a2 a3 a4) ?_
  exact Ev.now _
theorem eqResource_refl (a0 : Int) (a1 : List Int) (a2 : Int) (a3 : Int) (a4 : Int) (ha1 : a1.length ≤ 1048576) : Ev (fun k => laws_eqResource.f k a0 a1 a2 a3 a4 a0 a1 a2 a3 a4) true := by
  unfold laws_eqResource.f
  refine Ev.pos rfl ?_
  refine Ev.bind (eqIntS_refl a1 ha1) ?_
  refine Ev.pos rfl ?_
  refine Ev.now_bind (eqAddress_refl a2 a3 a4) ?_
  refine Ev.pos rfl ?_
  exact Ev.now _
theorem szResource_some (a0 : Int) (a1 : List Int) (a2 : Int) (a3 : Int) (a4 : Int) (n : Int) (ma1 : a1.length ≤ maxLen) (h0 : 0 ≤ n) (h1 : n ≤ 1048576) : ∃ r, laws_szResource.f a0 a1 a2 a3 a4 n = some r ∧ r ≤ 1048576 ∧ (0 ≤ r → a1.length ≤ 1048576) := by
  unfold laws_szResource.f
  obtain ⟨r0, e0, b0, g0⟩ := szIntS_some a1 n ma1 (by omega) (by omega)
  rw [e0]
  simp only [Option.bind_some]
  by_cases c0 : r0 < 0
  · rw [if_pos c0]; exact ⟨_, rfl, by omega, fun h => by omega⟩
  rw [if_neg c0]
  exact ⟨_, rfl, by omega, fun _ => (g0 (by omega))⟩
theorem toState_ev (a0 : Int) (a1 : List Int) (a2 : List Int) (a3 : List Int) (ha1 : a1.length ≤ 1048576) (ha2 : a2.length ≤ 1048576) (ha3 : a3.length ≤ 1048576) : Ev (fun k => laws_toState.f k a0 a1 a2 a3) (a0, a1, a2, a3) := by
  unfold laws_toState.f
  refine Ev.bind (toIntS_ev a1 ha1) ?_
  refine Ev.bind (toIntS_ev a2 ha2) ?_
  refine Ev.bind (toIntS_ev a3 ha3) ?_
  exact Ev.now _
theorem eqState_refl (a0 : Int) (a1 : List Int) (a2 : List Int) (a3 : List Int) (ha1 : a1.length ≤ 1048576) (ha2 : a2.length ≤ 1048576) (ha3 : a3.length ≤ 1048576) : Ev (fun k => laws_eqState.f k a0 a1 a2 a3 a0 a1 a2 a3) true := by
  unfold laws_eqState.f
  refine Ev.pos rfl ?_
  refine Ev.bind (eqIntS_refl a1 ha1) ?_
  refine Ev.pos rfl ?_
  refine Ev.bind (eqIntS_refl a2 ha2) ?_
  refine Ev.pos rfl ?_
  refine Ev.bind (eqIntS_refl a3 ha3) ?_
  refine Ev.pos rfl ?_
  exact Ev.now _
theorem szState_some (a0 : Int) (a1 : List Int) (a2 : List Int) (a3 : List Int) (n : Int) (ma1 : a1.length ≤ maxLen) (ma2 : a2.length ≤ maxLen) (ma3 : a3.length ≤ maxLen) (h0 : 0 ≤ n) (h1 : n ≤ 1048576) : ∃ r, laws_szState.f a0 a1 a2 a3 n = some r ∧ r ≤ 1048576 ∧ (0 ≤ r → a1.length ≤ 1048576 ∧ a2.length ≤ 1048576 ∧ a3.length ≤ 1048576) := by
  unfold laws_szState.f
  obtain ⟨r0, e0, b0, g0⟩ := szIntS_some a1 n ma1 (by omega) (by omega)
  rw [e0]
  simp only [Option.bind_some]
  by_cases c0 : r0 < 0
  · rw [if_pos c0]; exact ⟨_, rfl, by omega, fun h => by omega⟩
  rw [if_neg c0]
  obtain ⟨r1, e1, b1, g1⟩ := szIntS_some a2 r0 ma2 (by omega) (by omega)
  rw [e1]
  simp only [Option.bind_some]
  by_cases c1 : r1 < 0
  · rw [if_pos c1]; exact ⟨_, rfl, by omega, fun h => by omega⟩
  rw [if_neg c1]
  obtain ⟨r2, e2, b2, g2⟩ := szIntS_some a3 r1 ma3 (by omega) (by omega)
  rw [e2]
  simp only [Option.bind_some]
  by_cases c2 : r2 < 0
  · rw [if_pos c2]; exact ⟨_, rfl, by omega, fun h => by omega⟩
  rw [if_neg c2]
  exact ⟨_, rfl, by omega, fun _ => ⟨(g0 (by omega)), (g1 (by omega)), (g2 (by omega))⟩⟩
theorem markState_ev (a0 : Int) (a1 : List Int) (a2 : List Int) (a3 : List Int) (n : Int) (ha1 : a1.length ≤ 1048576) (ha2 : a2.length ≤ 1048576) (ha3 : a3.length ≤ 1048576) (h0 : 0 ≤ n) (h1 : n ≤ 1152921504600000000) : Ev (fun k => laws_markState.f k a0 a1 a2 a3 n) (n + (a1.length : Int) + (a2.length : Int) + (a3.length : Int), ((List.range a1.length).map fun j : Nat => n + (j : Int)), ((List.range a2.length).map fun j : Nat => n + (a1.length : Int) + (j : Int)), ((List.range a3.length).map fun j : Nat => n + (a1.length : Int) + (a2.length : Int) + (j : Int))) := by
  unfold laws_markState.f
  refine Ev.bind (markIntS_ev a1 _ ha1 (by omega) (by omega)) ?_
  refine Ev.bind (markIntS_ev a2 _ ha2 (by omega) (by omega)) ?_
  refine Ev.bind (markIntS_ev a3 _ ha3 (by omega) (by omega)) ?_
  exact Ev.now _
theorem toCapture_ev (a0 : Int) (a1 : Int) (a2 : Int) (a3 : Int) (a4 : Int) (a5 : List Int) (a6 : Int) (a7 : Int) (a8 : Int) (ha5 : a5.length ≤ 1048576) : Ev (fun k => laws_toCapture.f k a0 a1 a2 a3 a4 a5 a6 a7 a8) (a0, a1, a2, a3, a4, a5, a6, a7, a8) := by
  unfold laws_toCapture.f
  refine Ev.now_bind (toAddress_eq a0 a1 a2) ?_
  refine Ev.bind (toResource_ev a4 a5 a6 a7 a8 ha5) ?_
  exact Ev.now _
theorem eqCapture_refl (a0 : Int) (a1 : Int) (a2 : Int) (a3 : Int) (a4 : Int) (a5 : List Int) (a6 : Int) (a7 : Int) (a8 : Int) (ha5 : a5.length ≤ 1048576) : Ev (fun k => laws_eqCapture.f k a0 a1 a2 a3 a4 a5 a6 a7 a8 a0 a1 a2 a3 a4 a5 a6 a7 a8) true := by
  unfold laws_eqCapture.f
  refine Ev.now_bind (eqAddress_refl a0 a1 a2) ?_
  refine Ev.pos rfl ?_
  refine Ev.pos rfl ?_
  refine Ev.bind (eqResource_refl a4 a5 a6 a7 a8 ha5) ?_
  refine Ev.pos rfl ?_
  exact Ev.now _
theorem szCapture_some (a0 : Int) (a1 : Int) (a2 : Int) (a3 : Int) (a4 : Int) (a5 : List Int) (a6 : Int) (a7 : Int) (a8 : Int) (n : Int) (ma5 : a5.length ≤ maxLen) (h0 : 0 ≤ n) (h1 : n ≤ 1048576) : ∃ r, laws_szCapture.f a0 a1 a2 a3 a4 a5 a6 a7 a8 n = some r ∧ r ≤ 1048576 ∧ (0 ≤ r → a5.length ≤ 1048576) := by
  unfold laws_szCapture.f
  obtain ⟨r0, e0, b0, g0⟩ := szResource_some a4 a5 a6 a7 a8 n ma5 (by omega) (by omega)
  rw [e0]
  simp only [Option.bind_some]
  by_cases c0 : r0 < 0
  · rw [if_pos c0]; exact ⟨_, rfl, by omega, fun h => by omega⟩
  rw [if_neg c0]
  exact ⟨_, rfl, by omega, fun _ => (g0 (by omega))⟩
def MaxCapture (y : S131) : Prop := y.f2.f1.length ≤ maxLen
theorem szCaptureS_some (l : List S131) (a : Int) (h : l.length ≤ maxLen ∧ ∀ y ∈ l, MaxCapture y) (h0 : 0 ≤ a) (h1 : a ≤ 1048576) : ∃ r, Ev (fun k => laws_szCaptureS.f k l a) r ∧ r ≤ 1048576 ∧ (0 ≤ r → l.length ≤ 1048576 ∧ ∀ y ∈ l, FitlawsCapture y) := by
  obtain ⟨h, hy⟩ := h
  unfold maxLen at h
  unfold laws_szCaptureS.f
  rw [w64 (by omega) (by omega)]
  by_cases c : a - (l.length : Int) < 0
  · exact ⟨-1, Ev.pos c (Ev.now _), by omega, fun h => by omega⟩
  have key : ∀ d i : Nat, i + d = l.length → ∀ b : Int, 0 ≤ b → b ≤ 1048576 → ∃ r, Ev (fun k => laws_szCaptureS.l0 k l b (i : Int)) r ∧ r ≤ 1048576 ∧ (0 ≤ r → ∀ y ∈ l.drop i, FitlawsCapture y) := by
    intro d
    induction d with
    | zero =>
      intro i hi b hb0 hb1
      obtain rfl : i = l.length := by omega
      exact ⟨b, Ev.round (fun _ => by rw [laws_szCaptureS.l0]) (Ev.neg (by omega) (Ev.now _)), hb1, fun _ => by simp⟩
    | succ d ih =>
      intro i hi b hb0 hb1
      have hil : i < l.length := by omega
      have hmem := getD_mem l i hil z131
      obtain ⟨r0, e0, b0, g0⟩ := szCapture_some (l.getD i z131).f0.f0 (l.getD i z131).f0.f1 (l.getD i z131).f0.f2 (l.getD i z131).f1 (l.getD i z131).f2.f0 (l.getD i z131).f2.f1 (l.getD i z131).f2.f2.f0 (l.getD i z131).f2.f2.f1 (l.getD i z131).f2.f2.f2 b (hy _ hmem) hb0 hb1
      by_cases c0 : r0 < 0
      · refine ⟨-1, ?_, by omega, fun h => by omega⟩
        refine Ev.round (fun _ => by rw [laws_szCaptureS.l0]) ?_
        refine Ev.pos (by omega) ?_
        refine Ev.pos (by omega) ?_
        refine Ev.now_bind e0 ?_
        refine Ev.pos c0 ?_
        exact Ev.now _
      obtain ⟨r, er, br, gr⟩ := ih (i + 1) (by omega) r0 (by omega) b0
      refine ⟨r, ?_, br, fun hr => ?_⟩
      · refine Ev.round (fun _ => by rw [laws_szCaptureS.l0]) ?_
        refine Ev.pos (by omega) ?_
        refine Ev.pos (by omega) ?_
        refine Ev.now_bind e0 ?_
        refine Ev.neg c0 ?_
        have e1 : wrap64 ((i : Int) + 1) = ((i + 1 : Nat) : Int) := by rw [w64 (by omega) (by omega)]; omega
        simp only [e1]
        exact er
      · rw [drop_cons l i hil z131]
        intro y hy2
        rcases List.mem_cons.1 hy2 with rfl | hy2
        · exact g0 (by omega)
        · exact gr hr y hy2
  obtain ⟨r, er, br, gr⟩ := key l.length 0 (by omega) (a - (l.length : Int)) (by omega) (by omega)
  exact ⟨r, Ev.neg c er, br, fun hr => ⟨by omega, by simpa using gr hr⟩⟩
theorem toCaptureS_ev (l : List S131) (h : l.length ≤ 1048576) (hy : ∀ y ∈ l, FitlawsCapture y) : Ev (fun k => laws_toCaptureS.f k l) (l.map cvCapture) := by
  unfold laws_toCaptureS.f
  refine Ev.pos (by omega) ?_
  refine Ev.pos (by simp only [Int.toNat_natCast]; omega) ?_
  simp only [Int.toNat_natCast]
  refine ev_fill (fun k x i => laws_toCaptureS.l0 k l x i) l z131 cvCapture z93 (fun k x => by simp [laws_toCaptureS.l0]) ?_
  intro i x r hi hx h
  have hmem := getD_mem l i hi z131
  refine Ev.round (fun _ => by rw [laws_toCaptureS.l0]) ?_
  refine Ev.pos (by omega) ?_
  refine Ev.pos (by omega) ?_
  refine Ev.bind (toCapture_ev _ _ _ _ _ _ _ _ _ (hy _ hmem)) ?_
  refine Ev.pos (by omega) ?_
  have e1 : wrap64 ((i : Int) + 1) = ((i + 1 : Nat) : Int) := by rw [w64 (by omega) (by omega)]; omega
  simp only [e1]
  exact h
theorem eqCaptureS_refl (l : List S93) (h : l.length ≤ 1048576) (hy : ∀ y ∈ l, FitimplCapture y) : Ev (fun k => laws_eqCaptureS.f k l l) true := by
  unfold laws_eqCaptureS.f
  refine Ev.pos rfl ?_
  refine ev_down (fun k i => laws_eqCaptureS.l0 k l l (i : Int)) l.length (fun _ => true) (Ev.round (fun _ => by rw [laws_eqCaptureS.l0]) (Ev.neg (by omega) (Ev.now _))) (fun i hi h => ?_)
  have hmem := getD_mem l i hi z93
  refine Ev.round (fun _ => by rw [laws_eqCaptureS.l0]) ?_
  refine Ev.pos (by omega) ?_
  refine Ev.pos (by omega) ?_
  refine Ev.pos (by omega) ?_
  refine Ev.bind (eqCapture_refl _ _ _ _ _ _ _ _ _ (hy _ hmem)) ?_
  refine Ev.pos rfl ?_
  have e1 : wrap64 ((i : Int) + 1) = ((i + 1 : Nat) : Int) := by rw [w64 (by omega) (by omega)]; omega
  simp only [e1]
  exact h
theorem toChoice_eq (a0 : Int) (a1 : Int) : laws_toChoice.f a0 a1 = some (a0, a1) := by
  simp [laws_toChoice.f]
theorem eqChoice_refl (a0 : Int) (a1 : Int) : laws_eqChoice.f a0 a1 a0 a1 = some true := by
  simp [laws_eqChoice.f]
theorem szChoiceS_some (l : List S209) (a : Int) (h : l.length ≤ maxLen) (h0 : 0 ≤ a) (h1 : a ≤ 1048576) : ∃ r, laws_szChoiceS.f l a = some r ∧ r ≤ 1048576 ∧ (0 ≤ r → l.length ≤ 1048576) := by
  unfold maxLen at h
  unfold laws_szChoiceS.f
  rw [w64 (by omega) (by omega)]
  by_cases c : a - (l.length : Int) < 0
  · rw [if_pos c]; exact ⟨_, rfl, by omega, by omega⟩
  · rw [if_neg c]; exact ⟨_, rfl, by omega, by omega⟩
theorem toChoiceS_ev (l : List S209) (h : l.length ≤ 1048576) : Ev (fun k => laws_toChoiceS.f k l) (l.map cvChoice) := by
  unfold laws_toChoiceS.f
  refine Ev.pos (by omega) ?_
  refine Ev.pos (by simp only [Int.toNat_natCast]; omega) ?_
  simp only [Int.toNat_natCast]
  refine ev_fill (fun k x i => laws_toChoiceS.l0 k l x i) l z209 cvChoice z27 (fun k x => by simp [laws_toChoiceS.l0]) ?_
  intro i x r hi hx h
  have hmem := getD_mem l i hi z209
  refine Ev.round (fun _ => by rw [laws_toChoiceS.l0]) ?_
  refine Ev.pos (by omega) ?_
  refine Ev.pos (by omega) ?_
  refine Ev.now_bind (toChoice_eq _ _) ?_
  refine Ev.pos (by omega) ?_
  have e1 : wrap64 ((i : Int) + 1) = ((i + 1 : Nat) : Int) := by rw [w64 (by omega) (by omega)]; omega
  simp only [e1]
  exact h
theorem eqChoiceS_refl (l : List S27) (h : l.length ≤ 1048576) : Ev (fun k => laws_eqChoiceS.f k l l) true := by
  unfold laws_eqChoiceS.f
  refine Ev.pos rfl ?_
  refine ev_down (fun k i => laws_eqChoiceS.l0 k l l (i : Int)) l.length (fun _ => true) (Ev.round (fun _ => by rw [laws_eqChoiceS.l0]) (Ev.neg (by omega) (Ev.now _))) (fun i hi h => ?_)
  have hmem := getD_mem l i hi z27
  refine Ev.round (fun _ => by rw [laws_eqChoiceS.l0]) ?_
  refine Ev.pos (by omega) ?_
  refine Ev.pos (by omega) ?_
  refine Ev.pos (by omega) ?_
  refine Ev.now_bind (eqChoice_refl _ _) ?_
  refine Ev.pos rfl ?_
  have e1 : wrap64 ((i : Int) + 1) = ((i + 1 : Nat) : Int) := by rw [w64 (by omega) (by omega)]; omega
  simp only [e1]
  exact h
def mkChoice (c : Int) : S27 := (⟨c, c + 1⟩ : S27)
theorem markChoiceS_ev (l : List S27) (a : Int) (h : l.length ≤ 1048576) (h0 : 0 ≤ a) (h1 : a ≤ 1152921504600000000) : Ev (fun k => laws_markChoiceS.f k l a) (a + 2 * (l.length : Int), (List.range l.length).map fun j : Nat => mkChoice (a + 2 * (j : Int))) := by
  unfold laws_markChoiceS.f
  have main := ev_down (fun k i => laws_markChoiceS.l0 k ((List.range i).map (fun j : Nat => mkChoice (a + 2 * (j : Int))) ++ l.drop i) (a + 2 * (i : Int)) (i : Int)) l.length (fun _ => (a + 2 * (l.length : Int), (List.range l.length).map fun j : Nat => mkChoice (a + 2 * (j : Int))))
    (Ev.round (fun _ => by rw [laws_markChoiceS.l0]) (Ev.neg (by simp) (Ev.const fun _ => by simp)))
    (fun i hi h => ?_)
  · simpa using main
  refine Ev.round (fun _ => by rw [laws_markChoiceS.l0]) ?_
  refine Ev.pos (by simp; omega) ?_
  refine Ev.pos (by omega) ?_
  have e1 : wrap64 ((i : Int) + 1) = ((i + 1 : Nat) : Int) := by rw [w64 (by omega) (by omega)]; omega
  have hlen : ((List.range i).map (fun j : Nat => mkChoice (a + 2 * (j : Int))) ++ l.drop i).length = l.length := by simp; omega
  have e3 : ∀ v, ((List.range i).map (fun j : Nat => mkChoice (a + 2 * (j : Int))) ++ l.drop i).set i v = (List.range i).map (fun j : Nat => mkChoice (a + 2 * (j : Int))) ++ v :: l.drop (i + 1) := by
    intro v
    rw [List.set_append_right _ _ (by simp), drop_cons l i hi z27]
    simp
  have e4 : ∀ v u, ((List.range i).map (fun j : Nat => mkChoice (a + 2 * (j : Int))) ++ u :: l.drop (i + 1)).set i v = (List.range i).map (fun j : Nat => mkChoice (a + 2 * (j : Int))) ++ v :: l.drop (i + 1) := by
    intro v u
    rw [List.set_append_right _ _ (by simp)]
    simp
  have e5 : ∀ u, rd_T27 ((List.range i).map (fun j : Nat => mkChoice (a + 2 * (j : Int))) ++ u :: l.drop (i + 1)) (i : Int) = u := by
    intro u
    unfold rd_T27
    simp [List.getD_eq_getElem?_getD]
  have w0 : wrap64 (a + 2 * (i : Int) + 1) = a + 2 * (i : Int) + 1 := (w64 (by omega) (by omega)).trans (by omega)
  have w1 : wrap64 (a + 2 * (i : Int) + 1 + 1) = a + 2 * (i : Int) + 2 := (w64 (by omega) (by omega)).trans (by omega)
  simp only [e1, w0, w1, Int.toNat_natCast, Option.bind_some, e3, e4, e5]
  have e9 : (List.range (i + 1)).map (fun j : Nat => mkChoice (a + 2 * (j : Int))) ++ l.drop (i + 1) = (List.range i).map (fun j : Nat => mkChoice (a + 2 * (j : Int))) ++ mkChoice (a + 2 * (i : Int)) :: l.drop (i + 1) := by
    rw [List.range_succ, List.map_append, List.append_assoc]
    rfl
  rw [e9, show a + 2 * ((i + 1 : Nat) : Int) = a + 2 * (i : Int) + 2 by omega] at h
  exact h
theorem toWander_ev (a0 : Int) (a1 : List Int) (a2 : List Int) (a3 : List Int) (a4 : List S209) (a5 : List Int) (a6 : Int) (ha1 : a1.length ≤ 1048576) (ha2 : a2.length ≤ 1048576) (ha3 : a3.length ≤ 1048576) (ha4 : a4.length ≤ 1048576) (ha5 : a5.length ≤ 1048576) : Ev (fun k => laws_toWander.f k a0 a1 a2 a3 a4 a5 a6) (a0, a1, a2, a3, a4.map cvChoice, a5, a6) := by
  unfold laws_toWander.f
  refine Ev.bind (toState_ev a0 a1 a2 a3 ha1 ha2 ha3) ?_
  refine Ev.bind (toChoiceS_ev a4 ha4) ?_
  refine Ev.bind (toIntS_ev a5 ha5) ?_
  exact Ev.now _
theorem eqWander_refl (a0 : Int) (a1 : List Int) (a2 : List Int) (a3 : List Int) (a4 : List S27) (a5 : List Int) (a6 : Int) (ha1 : a1.length ≤ 1048576) (ha2 : a2.length ≤ 1048576) (ha3 : a3.length ≤ 1048576) (ha4 : a4.length ≤ 1048576) (ha5 : a5.length ≤ 1048576) : Ev (fun k => laws_eqWander.f k a0 a1 a2 a3 a4 a5 a6 a0 a1 a2 a3 a4 a5 a6) true := by
  unfold laws_eqWander.f
  refine Ev.bind (eqState_refl a0 a1 a2 a3 ha1 ha2 ha3) ?_
  refine Ev.pos rfl ?_
  refine Ev.bind (eqChoiceS_refl a4 ha4) ?_
  refine Ev.pos rfl ?_
  refine Ev.bind (eqIntS_refl a5 ha5) ?_
  refine Ev.pos rfl ?_
  refine Ev.pos rfl ?_
  exact Ev.now _
theorem szWander_some (a0 : Int) (a1 : List Int) (a2 : List Int) (a3 : List Int) (a4 : List S209) (a5 : List Int) (a6 : Int) (n : Int) (ma1 : a1.length ≤ maxLen) (ma2 : a2.length ≤ maxLen) (ma3 : a3.length ≤ maxLen) (ma4 : a4.length ≤ maxLen) (ma5 : a5.length ≤ maxLen) (h0 : 0 ≤ n) (h1 : n ≤ 1048576) : ∃ r, laws_szWander.f a0 a1 a2 a3 a4 a5 a6 n = some r ∧ r ≤ 1048576 ∧ (0 ≤ r → a1.length ≤ 1048576 ∧ a2.length ≤ 1048576 ∧ a3.length ≤ 1048576 ∧ a4.length ≤ 1048576 ∧ a5.length ≤ 1048576) := by
  unfold laws_szWander.f
  obtain ⟨r0, e0, b0, g0⟩ := szState_some a0 a1 a2 a3 n ma1 ma2 ma3 (by omega) (by omega)
  rw [e0]
  simp only [Option.bind_some]
  by_cases c0 : r0 < 0
  · rw [if_pos c0]; exact ⟨_, rfl, by omega, fun h => by omega⟩
  rw [if_neg c0]
  obtain ⟨r1, e1, b1, g1⟩ := szChoiceS_some a4 r0 ma4 (by omega) (by omega)
  rw [e1]
  simp only [Option.bind_some]
  by_cases c1 : r1 < 0
  · rw [if_pos c1]; exact ⟨_, rfl, by omega, fun h => by omega⟩
  rw [if_neg c1]
  obtain ⟨r2, e2, b2, g2⟩ := szIntS_some a5 r1 ma5 (by omega) (by omega)
  rw [e2]
  simp only [Option.bind_some]
  by_cases c2 : r2 < 0
  · rw [if_pos c2]; exact ⟨_, rfl, by omega, fun h => by omega⟩
  rw [if_neg c2]
  exact ⟨_, rfl, by omega, fun _ => ⟨(g0 (by omega)).1, (g0 (by omega)).2.1, (g0 (by omega)).2.2, (g1 (by omega)), (g2 (by omega))⟩⟩
end Go.Proofs.Ytegaambhmpoakaa.MFnExactMixedNodes
