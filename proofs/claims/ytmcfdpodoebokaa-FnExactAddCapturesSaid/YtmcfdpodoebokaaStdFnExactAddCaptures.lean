/- Plain lemmas on the helpers of the law FnExactAddCaptures: sizes, copies, equality with itself, marks and what holds them. Written by a program of this session. -/
import Derived.Test.YtmcfdpodoebokaaGen
import Derived.Test.YtmcfdpodoebokaaMFnExactAddCapturesx0
import Derived.Test.YtmcfdpodoebokaaMFnExactAddCapturesx1
import Derived.Test.YtmcfdpodoebokaaMFnExactAddCapturesx2
import Derived.Test.YtmcfdpodoebokaaMFnExactAddCapturesx3
import Derived.Test.YtmcfdpodoebokaaMFnExactAddCapturesx4
import Derived.Test.YtmcfdpodoebokaaMFnExactAddCapturesx5
import Derived.Test.YtmcfdpodoebokaaMFnExactAddCapturesx6
import Derived.Test.YtmcfdpodoebokaaMFnExactAddCapturesx7
import Derived.Test.YtmcfdpodoebokaaMFnExactAddCapturesx8
import Derived.Test.YtmcfdpodoebokaaMFnExactAddCapturesx9
import Derived.Test.YtmcfdpodoebokaaMFnExactAddCapturesx10
import Derived.Test.YtmcfdpodoebokaaMFnExactAddCapturesx11
namespace Go.Proofs.Ytmcfdpodoebokaa.MFnExactAddCaptures
open Go.RowKit Go.Proofs.YtmcfdpodoebokaaW.PrintWords Go.Proofs.YtmcfdpodoebokaaW.PrintLast Go.Proofs.YtmcfdpodoebokaaW.PrintMore Go.Proofs.Ytmcfdpodoebokaa.Gen
set_option linter.unusedVariables false
set_option linter.unusedSimpArgs false

theorem szIntS_some (l : List Int) (a : Int) (h : l.length ≤ maxLen) (h0 : 0 ≤ a) (h1 : a ≤ 1048576) : ∃ r, laws_szIntS.f l a = some r ∧ r ≤ 1048576 ∧ (0 ≤ r → l.length ≤ 1048576) := by
  unfold maxLen at h
  unfold laws_szIntS.f
  rw [w64 (by omega) (by omega)]
  by_cases c : a - (l.length : Int) < 0
  · rw [if_pos c]; exact ⟨_, rfl, by omega, by omega⟩
  · rw [if_neg c]; exact ⟨_, rfl, by omega, by omega⟩
theorem toIntS_ev (l : List Int) (h : l.length ≤ 1048576) : Ev (fun k => laws_toIntS.f k l) l := by
  unfold laws_toIntS.f
  refine Ev.pos (by omega) ?_
  refine Ev.pos (by simp only [Int.toNat_natCast]; omega) ?_
  simp only [Int.toNat_natCast]
  refine Ev.cast (ev_fill (fun k x i => laws_toIntS.l0 k l x i) l 0 id 0 (fun k x => by simp [laws_toIntS.l0]) ?_) (List.map_id l)
  intro i x r hi hx h
  refine Ev.round (fun _ => by rw [laws_toIntS.l0]) ?_
  refine Ev.pos (by omega) ?_
  refine Ev.pos (by omega) ?_
  refine Ev.pos (by omega) ?_
  have e1 : wrap64 ((i : Int) + 1) = ((i + 1 : Nat) : Int) := by rw [w64 (by omega) (by omega)]; omega
  simp only [e1]
  exact h
theorem eqIntSb_refl (l : List Int) (h : l.length ≤ 16777216) : Ev (fun k => laws_eqIntS.f k l l) true := by
  unfold laws_eqIntS.f
  refine Ev.pos rfl ?_
  refine ev_down (fun k i => laws_eqIntS.l0 k l l (i : Int)) l.length (fun _ => true) (Ev.round (fun _ => by rw [laws_eqIntS.l0]) (Ev.neg (by omega) (Ev.now _))) (fun i hi h => ?_)
  refine Ev.round (fun _ => by rw [laws_eqIntS.l0]) ?_
  refine Ev.pos (by omega) ?_
  refine Ev.pos (by omega) ?_
  refine Ev.pos (by omega) ?_
  refine Ev.pos rfl ?_
  have e1 : wrap64 ((i : Int) + 1) = ((i + 1 : Nat) : Int) := by rw [w64 (by omega) (by omega)]; omega
  simp only [e1]
  exact h
theorem eqIntS_refl (l : List Int) (h : l.length ≤ 1048576) : Ev (fun k => laws_eqIntS.f k l l) true := eqIntSb_refl l (by omega)
theorem markIntSb_ev (l : List Int) (a : Int) (h : l.length ≤ 16777216) (h0 : 0 ≤ a) (h1 : a ≤ 1152921504606846976) : Ev (fun k => laws_markIntS.f k l a) (a + (l.length : Int), (List.range l.length).map fun j : Nat => a + (j : Int)) := by
  unfold laws_markIntS.f
  have main := ev_down (fun k i => laws_markIntS.l0 k ((List.range i).map (fun j : Nat => a + (j : Int)) ++ l.drop i) (a + (i : Int)) (i : Int)) l.length (fun _ => (a + (l.length : Int), (List.range l.length).map fun j : Nat => a + (j : Int)))
    (Ev.round (fun _ => by rw [laws_markIntS.l0]) (Ev.neg (by simp) (Ev.const fun _ => by simp)))
    (fun i hi h => ?_)
  · simpa using main
  refine Ev.round (fun _ => by rw [laws_markIntS.l0]) ?_
  refine Ev.pos (by simp; omega) ?_
  refine Ev.pos (by omega) ?_
  have e1 : wrap64 ((i : Int) + 1) = ((i + 1 : Nat) : Int) := by rw [w64 (by omega) (by omega)]; omega
  have e2 : wrap64 (a + (i : Int) + 1) = a + ((i + 1 : Nat) : Int) := by rw [w64 (by omega) (by omega)]; omega
  have e3 : ((List.range i).map (fun j : Nat => a + (j : Int)) ++ l.drop i).set i (a + (i : Int)) = (List.range (i + 1)).map (fun j : Nat => a + (j : Int)) ++ l.drop (i + 1) := by
    rw [List.set_append_right _ _ (by simp), drop_cons l i hi 0, List.range_succ, List.map_append, List.append_assoc]
    simp
  simp only [e1, e2, Int.toNat_natCast, e3]
  exact h
theorem markIntS_ev (l : List Int) (a : Int) (h : l.length ≤ 1048576) (h0 : 0 ≤ a) (h1 : a ≤ 1152921504606846976) : Ev (fun k => laws_markIntS.f k l a) (a + (l.length : Int), (List.range l.length).map fun j : Nat => a + (j : Int)) := markIntSb_ev l a (by omega) h0 h1
theorem heldIntSb_ev (n : Nat) (a : Int) (h : n ≤ 16777216) (h0 : 0 ≤ a) (h1 : a ≤ 1152921504606846976) : Ev (fun k => laws_heldIntS.f k ((List.range n).map fun j : Nat => a + (j : Int)) a) (a + (n : Int)) := by
  unfold laws_heldIntS.f
  have main := ev_down (fun k i => laws_heldIntS.l0 k ((List.range n).map fun j : Nat => a + (j : Int)) (a + (i : Int)) (i : Int)) n (fun _ => a + (n : Int))
    (Ev.round (fun _ => by rw [laws_heldIntS.l0]) (Ev.neg (by simp) (Ev.now _)))
    (fun i hi h => ?_)
  · simpa using main
  refine Ev.round (fun _ => by rw [laws_heldIntS.l0]) ?_
  refine Ev.pos (by simp; omega) ?_
  refine Ev.pos (by omega) ?_
  refine Ev.pos ?_ ?_
  · rw [rd_nat, getD_in _ _ (by simpa using hi)]
    simp
  have e1 : wrap64 ((i : Int) + 1) = ((i + 1 : Nat) : Int) := by rw [w64 (by omega) (by omega)]; omega
  have e2 : wrap64 (a + (i : Int) + 1) = a + ((i + 1 : Nat) : Int) := by rw [w64 (by omega) (by omega)]; omega
  simp only [e1, e2]
  exact h
theorem heldIntS_ev (n : Nat) (a : Int) (h : n ≤ 1048576) (h0 : 0 ≤ a) (h1 : a ≤ 1152921504606846976) : Ev (fun k => laws_heldIntS.f k ((List.range n).map fun j : Nat => a + (j : Int)) a) (a + (n : Int)) := heldIntSb_ev n a (by omega) h0 h1
def FitlawsCapture (y : S38) : Prop := y.f2.f1.length ≤ 1048576
def cvCapture (y : S38) : S45 := (⟨(⟨y.f0.f0, y.f0.f1, y.f0.f2⟩ : S41), y.f1, (⟨y.f2.f0, y.f2.f1, (⟨y.f2.f2.f0, y.f2.f2.f1, y.f2.f2.f2⟩ : S41)⟩ : S43)⟩ : S45)
def FitimplCapture (y : S45) : Prop := y.f2.f1.length ≤ 1048576
theorem toAddress_eq (a0 : Int) (a1 : Int) (a2 : Int) : laws_toAddress.f a0 a1 a2 = some (a0, a1, a2) := by
  simp [laws_toAddress.f]
theorem eqAddress_refl (a0 : Int) (a1 : Int) (a2 : Int) : laws_eqAddress.f a0 a1 a2 a0 a1 a2 = some true := by
  simp [laws_eqAddress.f]
theorem toResource_ev (a0 : Int) (a1 : List Int) (a2 : Int) (a3 : Int) (a4 : Int) (ha1 : a1.length ≤ 1048576) : Ev (fun k => laws_toResource.f k a0 a1 a2 a3 a4) (a0, a1, a2, a3, a4) := by
  unfold laws_toResource.f
  refine Ev.bind (toIntS_ev a1 ha1) ?_
  refine Ev.now_bind (toAddress_eq a2 a3 a4) ?_
  exact Ev.now _
theorem eqResource_refl (a0 : Int) (a1 : List Int) (a2 : Int) (a3 : Int) (a4 : Int) (ha1 : a1.length ≤ 1048576) : Ev (fun k => laws_eqResource.f k a0 a1 a2 a3 a4 a0 a1 a2 a3 a4) true := by
  unfold laws_eqResource.f
  refine Ev.pos rfl ?_
  refine Ev.bind (eqIntS_refl a1 ha1) ?_
  refine Ev.pos rfl ?_
  refine Ev.now_bind (eqAddress_refl a2 a3 a4) ?_
  refine Ev.pos rfl ?_
  exact Ev.now _
theorem szResource_some (a0 : Int) (a1 : List Int) (a2 : Int) (a3 : Int) (a4 : Int) (n : Int) (ma1 : a1.length ≤ maxLen) (h0 : 0 ≤ n) (h1 : n ≤ 1048576) : ∃ r, laws_szResource.f a0 a1 a2 a3 a4 n = some r ∧ r ≤ 1048576 ∧ (0 ≤ r → a1.length ≤ 1048576) := by
  unfold laws_szResource.f
  obtain ⟨r0, e0, b0, g0⟩ := szIntS_some a1 n ma1 (by omega) (by omega)
  rw [e0]
  simp only [Option.bind_some]
  by_cases c0 : r0 < 0
  · rw [if_pos c0]; exact ⟨_, rfl, by omega, fun h => by omega⟩
  rw [if_neg c0]
  exact ⟨_, rfl, by omega, fun _ => (g0 (by omega))⟩
theorem toCapture_ev (a0 : Int) (a1 : Int) (a2 : Int) (a3 : Int) (a4 : Int) (a5 : List Int) (a6 : Int) (a7 : Int) (a8 : Int) (ha5 : a5.length ≤ 1048576) : Ev (fun k => laws_toCapture.f k a0 a1 a2 a3 a4 a5 a6 a7 a8) (a0, a1, a2, a3, a4, a5, a6, a7, a8) := by
  unfold laws_toCapture.f
  refine Ev.now_bind (toAddress_eq a0 a1 a2) ?_
  refine Ev.bind (toResource_ev a4 a5 a6 a7 a8 ha5) ?_
  exact Ev.now _
theorem eqCapture_refl (a0 : Int) (a1 : Int) (a2 : Int) (a3 : Int) (a4 : Int) (a5 : List Int) (a6 : Int) (a7 : Int) (a8 : Int) (ha5 : a5.length ≤ 1048576) : Ev (fun k => laws_eqCapture.f k a0 a1 a2 a3 a4 a5 a6 a7 a8 a0 a1 a2 a3 a4 a5 a6 a7 a8) true := by
  unfold laws_eqCapture.f
  refine Ev.now_bind (eqAddress_refl a0 a1 a2) ?_
  refine Ev.pos rfl ?_
  refine Ev.pos rfl ?_
  refine Ev.bind (eqResource_refl a4 a5 a6 a7 a8 ha5) ?_
  refine Ev.pos rfl ?_
  exact Ev.now _
theorem szCapture_some (a0 : Int) (a1 : Int) (a2 : Int) (a3 : Int) (a4 : Int) (a5 : List Int) (a6 : Int) (a7 : Int) (a8 : Int) (n : Int) (ma5 : a5.length ≤ maxLen) (h0 : 0 ≤ n) (h1 : n ≤ 1048576) : ∃ r, laws_szCapture.f a0 a1 a2 a3 a4 a5 a6 a7 a8 n = some r ∧ r ≤ 1048576 ∧ (0 ≤ r → a5.length ≤ 1048576) := by
  unfold laws_szCapture.f
  obtain ⟨r0, e0, b0, g0⟩ := szResource_some a4 a5 a6 a7 a8 n ma5 (by omega) (by omega)
  rw [e0]
  simp only [Option.bind_some]
  by_cases c0 : r0 < 0
  · rw [if_pos c0]; exact ⟨_, rfl, by omega, fun h => by omega⟩
  rw [if_neg c0]
  exact ⟨_, rfl, by omega, fun _ => (g0 (by omega))⟩
def MaxCapture (y : S38) : Prop := y.f2.f1.length ≤ maxLen
theorem szCaptureS_some (l : List S38) (a : Int) (h : l.length ≤ maxLen ∧ ∀ y ∈ l, MaxCapture y) (h0 : 0 ≤ a) (h1 : a ≤ 1048576) : ∃ r, Ev (fun k => laws_szCaptureS.f k l a) r ∧ r ≤ 1048576 ∧ (0 ≤ r → l.length ≤ 1048576 ∧ ∀ y ∈ l, FitlawsCapture y) := by
  obtain ⟨h, hy⟩ := h
  unfold maxLen at h
  unfold laws_szCaptureS.f
  rw [w64 (by omega) (by omega)]
  by_cases c : a - (l.length : Int) < 0
  · exact ⟨-1, Ev.pos c (Ev.now _), by omega, fun h => by omega⟩
  have key : ∀ d i : Nat, i + d = l.length → ∀ b : Int, 0 ≤ b → b ≤ 1048576 → ∃ r, Ev (fun k => laws_szCaptureS.l0 k l b (i : Int)) r ∧ r ≤ 1048576 ∧ (0 ≤ r → ∀ y ∈ l.drop i, FitlawsCapture y) := by
    intro d
    induction d with
    | zero =>
      intro i hi b hb0 hb1
      obtain rfl : i = l.length := by omega
      exact ⟨b, Ev.round (fun _ => by rw [laws_szCaptureS.l0]) (Ev.neg (by omega) (Ev.now _)), hb1, fun _ => by simp⟩
    | succ d ih =>
      intro i hi b hb0 hb1
      have hil : i < l.length := by omega
      have hmem := getD_mem l i hil z38
      obtain ⟨r0, e0, b0, g0⟩ := szCapture_some (l.getD i z38).f0.f0 (l.getD i z38).f0.f1 (l.getD i z38).f0.f2 (l.getD i z38).f1 (l.getD i z38).f2.f0 (l.getD i z38).f2.f1 (l.getD i z38).f2.f2.f0 (l.getD i z38).f2.f2.f1 (l.getD i z38).f2.f2.f2 b (hy _ hmem) hb0 hb1
      by_cases c0 : r0 < 0
      · refine ⟨-1, ?_, by omega, fun h => by omega⟩
        refine Ev.round (fun _ => by rw [laws_szCaptureS.l0]) ?_
        refine Ev.pos (by omega) ?_
        refine Ev.pos (by omega) ?_
        refine Ev.now_bind e0 ?_
        refine Ev.pos c0 ?_
        exact Ev.now _
      obtain ⟨r, er, br, gr⟩ := ih (i + 1) (by omega) r0 (by omega) b0
      refine ⟨r, ?_, br, fun hr => ?_⟩
      · refine Ev.round (fun _ => by rw [laws_szCaptureS.l0]) ?_
        refine Ev.pos (by omega) ?_
        refine Ev.pos (by omega) ?_
        refine Ev.now_bind e0 ?_
        refine Ev.neg c0 ?_
        have e1 : wrap64 ((i : Int) + 1) = ((i + 1 : Nat) : Int) := by rw [w64 (by omega) (by omega)]; omega
        simp only [e1]
        exact er
      · rw [drop_cons l i hil z38]
        intro y hy2
        rcases List.mem_cons.1 hy2 with rfl | hy2
        · exact g0 (by omega)
        · exact gr hr y hy2
  obtain ⟨r, er, br, gr⟩ := key l.length 0 (by omega) (a - (l.length : Int)) (by omega) (by omega)
  exact ⟨r, Ev.neg c er, br, fun hr => ⟨by omega, by simpa using gr hr⟩⟩
theorem toCaptureS_ev (l : List S38) (h : l.length ≤ 1048576) (hy : ∀ y ∈ l, FitlawsCapture y) : Ev (fun k => laws_toCaptureS.f k l) (l.map cvCapture) := by
  unfold laws_toCaptureS.f
  refine Ev.pos (by omega) ?_
  refine Ev.pos (by simp only [Int.toNat_natCast]; omega) ?_
  simp only [Int.toNat_natCast]
  refine ev_fill (fun k x i => laws_toCaptureS.l0 k l x i) l z38 cvCapture z45 (fun k x => by simp [laws_toCaptureS.l0]) ?_
  intro i x r hi hx h
  have hmem := getD_mem l i hi z38
  refine Ev.round (fun _ => by rw [laws_toCaptureS.l0]) ?_
  refine Ev.pos (by omega) ?_
  refine Ev.pos (by omega) ?_
  refine Ev.bind (toCapture_ev _ _ _ _ _ _ _ _ _ (hy _ hmem)) ?_
  refine Ev.pos (by omega) ?_
  have e1 : wrap64 ((i : Int) + 1) = ((i + 1 : Nat) : Int) := by rw [w64 (by omega) (by omega)]; omega
  simp only [e1]
  exact h
theorem eqCaptureS_refl (l : List S45) (h : l.length ≤ 1048576) (hy : ∀ y ∈ l, FitimplCapture y) : Ev (fun k => laws_eqCaptureS.f k l l) true := by
  unfold laws_eqCaptureS.f
  refine Ev.pos rfl ?_
  refine ev_down (fun k i => laws_eqCaptureS.l0 k l l (i : Int)) l.length (fun _ => true) (Ev.round (fun _ => by rw [laws_eqCaptureS.l0]) (Ev.neg (by omega) (Ev.now _))) (fun i hi h => ?_)
  have hmem := getD_mem l i hi z45
  refine Ev.round (fun _ => by rw [laws_eqCaptureS.l0]) ?_
  refine Ev.pos (by omega) ?_
  refine Ev.pos (by omega) ?_
  refine Ev.pos (by omega) ?_
  refine Ev.bind (eqCapture_refl _ _ _ _ _ _ _ _ _ (hy _ hmem)) ?_
  refine Ev.pos rfl ?_
  have e1 : wrap64 ((i : Int) + 1) = ((i + 1 : Nat) : Int) := by rw [w64 (by omega) (by omega)]; omega
  simp only [e1]
  exact h
end Go.Proofs.Ytmcfdpodoebokaa.MFnExactAddCaptures
