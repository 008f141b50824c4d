/- Plain lemmas on the helpers of the law FnExactIsMarked: sizes, copies, equality with itself, marks and what holds them. Written by a program of this session. -/
import Derived.Test.YtdpkidjddlnafaaGen
import Derived.Test.YtdpkidjddlnafaaMFnExactIsMarkedx0
import Derived.Test.YtdpkidjddlnafaaMFnExactIsMarkedx1
import Derived.Test.YtdpkidjddlnafaaMFnExactIsMarkedx2
import Derived.Test.YtdpkidjddlnafaaMFnExactIsMarkedx3
import Derived.Test.YtdpkidjddlnafaaMFnExactIsMarkedx4
import Derived.Test.YtdpkidjddlnafaaMFnExactIsMarkedx5
import Derived.Test.YtdpkidjddlnafaaMFnExactIsMarkedx6
import Derived.Test.YtdpkidjddlnafaaMFnExactIsMarkedx7
import Derived.Test.YtdpkidjddlnafaaMFnExactIsMarkedx8
import Derived.Test.YtdpkidjddlnafaaMFnExactIsMarkedx9
import Derived.Test.YtdpkidjddlnafaaMFnExactIsMarkedx10
import Derived.Test.YtdpkidjddlnafaaMFnExactIsMarkedx11
import Derived.Test.YtdpkidjddlnafaaMFnExactIsMarkedx12
import Derived.Test.YtdpkidjddlnafaaMFnExactIsMarkedx13
import Derived.Test.YtdpkidjddlnafaaMFnExactIsMarkedx14
import Derived.Test.YtdpkidjddlnafaaMFnExactIsMarkedx15
import Derived.Test.YtdpkidjddlnafaaMFnExactIsMarkedx16
import Derived.Test.YtdpkidjddlnafaaMFnExactIsMarkedx17
import Derived.Test.YtdpkidjddlnafaaMFnExactIsMarkedx18
import Derived.Test.YtdpkidjddlnafaaMFnExactIsMarkedx19
import Derived.Test.YtdpkidjddlnafaaMFnExactIsMarkedx20
import Derived.Test.YtdpkidjddlnafaaMFnExactIsMarkedx21
import Derived.Test.YtdpkidjddlnafaaMFnExactIsMarkedx22
namespace Go.Proofs.Ytdpkidjddlnafaa.MFnExactIsMarked
open Go.RowKit Go.Proofs.YtdpkidjddlnafaaW.PrintWords Go.Proofs.YtdpkidjddlnafaaW.PrintLast Go.Proofs.YtdpkidjddlnafaaW.PrintMore Go.Proofs.Ytdpkidjddlnafaa.Gen
set_option linter.unusedVariables false
set_option linter.unusedSimpArgs false

theorem szIntS_some (l : List Int) (a : Int) (h : l.length ≤ maxLen) (h0 : 0 ≤ a) (h1 : a ≤ 1048576) : ∃ r, laws_szIntS.f l a = some r ∧ r ≤ 1048576 ∧ (0 ≤ r → l.length ≤ 1048576) := by
  unfold maxLen at h
  unfold laws_szIntS.f
  rw [w64 (by omega) (by omega)]
  by_cases c : a - (l.length : Int) < 0
  · rw [if_pos c]; exact ⟨_, rfl, by omega, by omega⟩
  · rw [if_neg c]; exact ⟨_, rfl, by omega, by omega⟩
theorem toIntS_ev (l : List Int) (h : l.length ≤ 1048576) : Ev (fun k => laws_toIntS.f k l) l := by
  unfold laws_toIntS.f
  refine Ev.pos (by omega) ?_
  refine Ev.pos (by simp only [Int.toNat_natCast]; omega) ?_
  simp only [Int.toNat_natCast]
  refine Ev.cast (ev_fill (fun k x i => laws_toIntS.l0 k l x i) l 0 id 0 (fun k x => by simp [laws_toIntS.l0]) ?_) (List.map_id l)
  intro i x r hi hx h
  refine Ev.round (fun _ => by rw [laws_toIntS.l0]) ?_
  refine Ev.pos (by omega) ?_
  refine Ev.pos (by omega) ?_
  refine Ev.pos (by omega) ?_
  have e1 : wrap64 ((i : Int) + 1) = ((i + 1 : Nat) : Int) := by rw [w64 (by omega) (by omega)]; omega
  simp only [e1]
  exact h
theorem eqIntSb_refl (l : List Int) (h : l.length ≤ 16777216) : Ev (fun k => laws_eqIntS.f k l l) true := by
  unfold laws_eqIntS.f
  refine Ev.pos rfl ?_
  refine ev_down (fun k i => laws_eqIntS.l0 k l l (i : Int)) l.length (fun _ => true) (Ev.round (fun _ => by rw [laws_eqIntS.l0]) (Ev.neg (by omega) (Ev.now _))) (fun i hi h => ?_)
  refine Ev.round (fun _ => by rw [laws_eqIntS.l0]) ?_
  refine Ev.pos (by omega) ?_
  refine Ev.pos (by omega) ?_
  refine Ev.pos (by omega) ?_
  refine Ev.pos rfl ?_
  have e1 : wrap64 ((i : Int) + 1) = ((i + 1 : Nat) : Int) := by rw [w64 (by omega) (by omega)]; omega
  simp only [e1]
  exact h
theorem eqIntS_refl (l : List Int) (h : l.length ≤ 1048576) : Ev (fun k => laws_eqIntS.f k l l) true := eqIntSb_refl l (by omega)
def FitlawsChoice (y : S152) : Prop := True
def cvChoice (y : S152) : S121 := (⟨y.f0, y.f1⟩ : S121)
def FitimplChoice (y : S121) : Prop := True
theorem toState_ev (a0 : Int) (a1 : List Int) (a2 : List Int) (a3 : List Int) (ha1 : a1.length ≤ 1048576) (ha2 : a2.length ≤ 1048576) (ha3 : a3.length ≤ 1048576) : Ev (fun k => laws_toState.f k a0 a1 a2 a3) (a0, a1, a2, a3) := by
  unfold laws_toState.f
  refine Ev.bind (toIntS_ev a1 ha1) ?_
  refine Ev.bind (toIntS_ev a2 ha2) ?_
  refine Ev.bind (toIntS_ev a3 ha3) ?_
  exact Ev.now _
theorem eqState_refl (a0 : Int) (a1 : List Int) (a2 : List Int) (a3 : List Int) (ha1 : a1.length ≤ 1048576) (ha2 : a2.length ≤ 1048576) (ha3 : a3.length ≤ 1048576) : Ev (fun k => laws_eqState.f k a0 a1 a2 a3 a0 a1 a2 a3) true := by
  unfold laws_eqState.f
  refine Ev.pos rfl ?_
  refine Ev.bind (eqIntS_refl a1 ha1) ?_
  refine Ev.pos rfl ?_
  refine Ev.bind (eqIntS_refl a2 ha2) ?_
  refine Ev.pos rfl ?_
  refine Ev.bind (eqIntS_refl a3 ha3) ?_
  refine Ev.pos rfl ?_
  exact Ev.now _
theorem szState_some (a0 : Int) (a1 : List Int) (a2 : List Int) (a3 : List Int) (n : Int) (ma1 : a1.length ≤ maxLen) (ma2 : a2.length ≤ maxLen) (ma3 : a3.length ≤ maxLen) (h0 : 0 ≤ n) (h1 : n ≤ 1048576) : ∃ r, laws_szState.f a0 a1 a2 a3 n = some r ∧ r ≤ 1048576 ∧ (0 ≤ r → a1.length ≤ 1048576 ∧ a2.length ≤ 1048576 ∧ a3.length ≤ 1048576) := by
  unfold laws_szState.f
  obtain ⟨r0, e0, b0, g0⟩ := szIntS_some a1 n ma1 (by omega) (by omega)
  rw [e0]
  simp only [Option.bind_some]
  by_cases c0 : r0 < 0
  · rw [if_pos c0]; exact ⟨_, rfl, by omega, fun h => by omega⟩
  rw [if_neg c0]
  obtain ⟨r1, e1, b1, g1⟩ := szIntS_some a2 r0 ma2 (by omega) (by omega)
  rw [e1]
  simp only [Option.bind_some]
  by_cases c1 : r1 < 0
  · rw [if_pos c1]; exact ⟨_, rfl, by omega, fun h => by omega⟩
  rw [if_neg c1]
  obtain ⟨r2, e2, b2, g2⟩ := szIntS_some a3 r1 ma3 (by omega) (by omega)
  rw [e2]
  simp only [Option.bind_some]
  by_cases c2 : r2 < 0
  · rw [if_pos c2]; exact ⟨_, rfl, by omega, fun h => by omega⟩
  rw [if_neg c2]
  exact ⟨_, rfl, by omega, fun _ => ⟨(g0 (by omega)), (g1 (by omega)), (g2 (by omega))⟩⟩
theorem toChoice_eq (a0 : Int) (a1 : Int) : laws_toChoice.f a0 a1 = some (a0, a1) := by
  simp [laws_toChoice.f]
theorem eqChoice_refl (a0 : Int) (a1 : Int) : laws_eqChoice.f a0 a1 a0 a1 = some true := by
  simp [laws_eqChoice.f]
theorem szChoiceS_some (l : List S152) (a : Int) (h : l.length ≤ maxLen) (h0 : 0 ≤ a) (h1 : a ≤ 1048576) : ∃ r, laws_szChoiceS.f l a = some r ∧ r ≤ 1048576 ∧ (0 ≤ r → l.length ≤ 1048576) := by
  unfold maxLen at h
  unfold laws_szChoiceS.f
  rw [w64 (by omega) (by omega)]
  by_cases c : a - (l.length : Int) < 0
  · rw [if_pos c]; exact ⟨_, rfl, by omega, by omega⟩
  · rw [if_neg c]; exact ⟨_, rfl, by omega, by omega⟩
theorem toChoiceS_ev (l : List S152) (h : l.length ≤ 1048576) : Ev (fun k => laws_toChoiceS.f k l) (l.map cvChoice) := by
  unfold laws_toChoiceS.f
  refine Ev.pos (by omega) ?_
  refine Ev.pos (by simp only [Int.toNat_natCast]; omega) ?_
  simp only [Int.toNat_natCast]
  refine ev_fill (fun k x i => laws_toChoiceS.l0 k l x i) l z152 cvChoice z121 (fun k x => by simp [laws_toChoiceS.l0]) ?_
  intro i x r hi hx h
  have hmem := getD_mem l i hi z152
  refine Ev.round (fun _ => by rw [laws_toChoiceS.l0]) ?_
  refine Ev.pos (by omega) ?_
  refine Ev.pos (by omega) ?_
  refine Ev.now_bind (toChoice_eq _ _) ?_
  refine Ev.pos (by omega) ?_
  have e1 : wrap64 ((i : Int) + 1) = ((i + 1 : Nat) : Int) := by rw [w64 (by omega) (by omega)]; omega
  simp only [e1]
  exact h
theorem eqChoiceS_refl (l : List S121) (h : l.length ≤ 1048576) : Ev (fun k => laws_eqChoiceS.f k l l) true := by
  unfold laws_eqChoiceS.f
  refine Ev.pos rfl ?_
  refine ev_down (fun k i => laws_eqChoiceS.l0 k l l (i : Int)) l.length (fun _ => true) (Ev.round (fun _ => by rw [laws_eqChoiceS.l0]) (Ev.neg (by omega) (Ev.now _))) (fun i hi h => ?_)
  have hmem := getD_mem l i hi z121
  refine Ev.round (fun _ => by rw [laws_eqChoiceS.l0]) ?_
  refine Ev.pos (by omega) ?_
  refine Ev.pos (by omega) ?_
  refine Ev.pos (by omega) ?_
  refine Ev.now_bind (eqChoice_refl _ _) ?_
  refine Ev.pos rfl ?_
  have e1 : wrap64 ((i : Int) + 1) = ((i + 1 : Nat) : Int) := by rw [w64 (by omega) (by omega)]; omega
  simp only [e1]
  exact h
theorem toWander_ev (a0 : Int) (a1 : List Int) (a2 : List Int) (a3 : List Int) (a4 : List S152) (a5 : List Int) (a6 : Int) (ha1 : a1.length ≤ 1048576) (ha2 : a2.length ≤ 1048576) (ha3 : a3.length ≤ 1048576) (ha4 : a4.length ≤ 1048576) (ha5 : a5.length ≤ 1048576) : Ev (fun k => laws_toWander.f k a0 a1 a2 a3 a4 a5 a6) (a0, a1, a2, a3, a4.map cvChoice, a5, a6) := by
  unfold laws_toWander.f
  refine Ev.bind (toState_ev a0 a1 a2 a3 ha1 ha2 ha3) ?_
  refine Ev.bind (toChoiceS_ev a4 ha4) ?_
  refine Ev.bind (toIntS_ev a5 ha5) ?_
  exact Ev.now _
theorem eqWander_refl (a0 : Int) (a1 : List Int) (a2 : List Int) (a3 : List Int) (a4 : List S121) (a5 : List Int) (a6 : Int) (ha1 : a1.length ≤ 1048576) (ha2 : a2.length ≤ 1048576) (ha3 : a3.length ≤ 1048576) (ha4 : a4.length ≤ 1048576) (ha5 : a5.length ≤ 1048576) : Ev (fun k => laws_eqWander.f k a0 a1 a2 a3 a4 a5 a6 a0 a1 a2 a3 a4 a5 a6) true := by
  unfold laws_eqWander.f
  refine Ev.bind (eqState_refl a0 a1 a2 a3 ha1 ha2 ha3) ?_
  refine Ev.pos rfl ?_
  refine Ev.bind (eqChoiceS_refl a4 ha4) ?_
  refine Ev.pos rfl ?_
  refine Ev.bind (eqIntS_refl a5 ha5) ?_
  refine Ev.pos rfl ?_
  refine Ev.pos rfl ?_
  exact Ev.now _
theorem szWander_some (a0 : Int) (a1 : List Int) (a2 : List Int) (a3 : List Int) (a4 : List S152) (a5 : List Int) (a6 : Int) (n : Int) (ma1 : a1.length ≤ maxLen) (ma2 : a2.length ≤ maxLen) (ma3 : a3.length ≤ maxLen) (ma4 : a4.length ≤ maxLen) (ma5 : a5.length ≤ maxLen) (h0 : 0 ≤ n) (h1 : n ≤ 1048576) : ∃ r, laws_szWander.f a0 a1 a2 a3 a4 a5 a6 n = some r ∧ r ≤ 1048576 ∧ (0 ≤ r → a1.length ≤ 1048576 ∧ a2.length ≤ 1048576 ∧ a3.length ≤ 1048576 ∧ a4.length ≤ 1048576 ∧ a5.length ≤ 1048576) := by
  unfold laws_szWander.f
  obtain ⟨r0, e0, b0, g0⟩ := szState_some a0 a1 a2 a3 n ma1 ma2 ma3 (by omega) (by omega)
  rw [e0]
  simp only [Option.bind_some]
  by_cases c0 : r0 < 0
  · rw [if_pos c0]; exact ⟨_, rfl, by omega, fun h => by omega⟩
  rw [if_neg c0]
  obtain ⟨r1, e1, b1, g1⟩ := szChoiceS_some a4 r0 ma4 (by omega) (by omega)
  rw [e1]
  simp only [Option.bind_some]
  by_cases c1 : r1 < 0
  · rw [if_pos c1]; exact ⟨_, rfl, by omega, fun h => by omega⟩
  rw [if_neg c1]
  obtain ⟨r2, e2, b2, g2⟩ := szIntS_some a5 r1 ma5 (by omega) (by omega)
  rw [e2]
  simp only [Option.bind_some]
  by_cases c2 : r2 < 0
  · rw [if_pos c2]; exact ⟨_, rfl, by omega, fun h => by omega⟩
  rw [if_neg c2]
  exact ⟨_, rfl, by omega, fun _ => ⟨(g0 (by omega)).1, (g0 (by omega)).2.1, (g0 (by omega)).2.2, (g1 (by omega)), (g2 (by omega))⟩⟩
end Go.Proofs.Ytdpkidjddlnafaa.MFnExactIsMarked
