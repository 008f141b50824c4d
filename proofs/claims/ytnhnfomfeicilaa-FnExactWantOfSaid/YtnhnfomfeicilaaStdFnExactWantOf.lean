/- Plain lemmas on the helpers of the law FnExactWantOf: sizes, copies, equality with itself, marks and what holds them. Written by a program of this session. -/
import Derived.Test.YtnhnfomfeicilaaGen
import Derived.Test.YtnhnfomfeicilaaMFnExactWantOfx0
import Derived.Test.YtnhnfomfeicilaaMFnExactWantOfx1
import Derived.Test.YtnhnfomfeicilaaMFnExactWantOfx2
import Derived.Test.YtnhnfomfeicilaaMFnExactWantOfx3
import Derived.Test.YtnhnfomfeicilaaMFnExactWantOfx4
import Derived.Test.YtnhnfomfeicilaaMFnExactWantOfx5
import Derived.Test.YtnhnfomfeicilaaMFnExactWantOfx6
import Derived.Test.YtnhnfomfeicilaaMFnExactWantOfx7
namespace Go.Proofs.Ytnhnfomfeicilaa.MFnExactWantOf
open Go.RowKit Go.Proofs.YtnhnfomfeicilaaW.PrintWords Go.Proofs.YtnhnfomfeicilaaW.PrintLast Go.Proofs.YtnhnfomfeicilaaW.PrintMore Go.Proofs.Ytnhnfomfeicilaa.Gen
set_option linter.unusedVariables false
set_option linter.unusedSimpArgs false

theorem szIntS_some (l : List Int) (a : Int) (h : l.length ≤ maxLen) (h0 : 0 ≤ a) (h1 : a ≤ 1048576) : ∃ r, laws_szIntS.f l a = some r ∧ r ≤ 1048576 ∧ (0 ≤ r → l.length ≤ 1048576) := by
  unfold maxLen at h
  unfold laws_szIntS.f
  rw [w64 (by omega) (by omega)]
  by_cases c : a - (l.length : Int) < 0
  · rw [if_pos c]; exact ⟨_, rfl, by omega, by omega⟩
  · rw [if_neg c]; exact ⟨_, rfl, by omega, by omega⟩
theorem toIntS_ev (l : List Int) (h : l.length ≤ 1048576) : Ev (fun k => laws_toIntS.f k l) l := by
  unfold laws_toIntS.f
  refine Ev.pos (by omega) ?_
  refine Ev.pos (by simp only [Int.toNat_natCast]; omega) ?_
  simp only [Int.toNat_natCast]
  refine Ev.cast (ev_fill (fun k x i => laws_toIntS.l0 k l x i) l 0 id 0 (fun k x => by simp [laws_toIntS.l0]) ?_) (List.map_id l)
  intro i x r hi hx h
  refine Ev.round (fun _ => by rw [laws_toIntS.l0]) ?_
  refine Ev.pos (by omega) ?_
  refine Ev.pos (by omega) ?_
  refine Ev.pos (by omega) ?_
  have e1 : wrap64 ((i : Int) + 1) = ((i + 1 : Nat) : Int) := by rw [w64 (by omega) (by omega)]; omega
  simp only [e1]
  exact h
theorem eqIntSb_refl (l : List Int) (h : l.length ≤ 16777216) : Ev (fun k => laws_eqIntS.f k l l) true := by
  unfold laws_eqIntS.f
  refine Ev.pos rfl ?_
  refine ev_down (fun k i => laws_eqIntS.l0 k l l (i : Int)) l.length (fun _ => true) (Ev.round (fun _ => by rw [laws_eqIntS.l0]) (Ev.neg (by omega) (Ev.now _))) (fun i hi h => ?_)
  refine Ev.round (fun _ => by rw [laws_eqIntS.l0]) ?_
  refine Ev.pos (by omega) ?_
  refine Ev.pos (by omega) ?_
  refine Ev.pos (by omega) ?_
  refine Ev.pos rfl ?_
  have e1 : wrap64 ((i : Int) + 1) = ((i + 1 : Nat) : Int) := by rw [w64 (by omega) (by omega)]; omega
  simp only [e1]
  exact h
theorem eqIntS_refl (l : List Int) (h : l.length ≤ 1048576) : Ev (fun k => laws_eqIntS.f k l l) true := eqIntSb_refl l (by omega)
def FitlawsOp (y : S165) : Prop := True
def cvOp (y : S165) : S163 := (⟨y.f0, y.f1, y.f2, y.f3⟩ : S163)
def FitimplOp (y : S163) : Prop := True
theorem eqAddress_refl (a0 : Int) (a1 : Int) (a2 : Int) : laws_eqAddress.f a0 a1 a2 a0 a1 a2 = some true := by
  simp [laws_eqAddress.f]
theorem toOp_eq (a0 : Int) (a1 : Int) (a2 : Int) (a3 : Int) : laws_toOp.f a0 a1 a2 a3 = some (a0, a1, a2, a3) := by
  simp [laws_toOp.f]
theorem eqOp_refl (a0 : Int) (a1 : Int) (a2 : Int) (a3 : Int) : laws_eqOp.f a0 a1 a2 a3 a0 a1 a2 a3 = some true := by
  simp [laws_eqOp.f]
theorem szOpS_some (l : List S165) (a : Int) (h : l.length ≤ maxLen) (h0 : 0 ≤ a) (h1 : a ≤ 1048576) : ∃ r, laws_szOpS.f l a = some r ∧ r ≤ 1048576 ∧ (0 ≤ r → l.length ≤ 1048576) := by
  unfold maxLen at h
  unfold laws_szOpS.f
  rw [w64 (by omega) (by omega)]
  by_cases c : a - (l.length : Int) < 0
  · rw [if_pos c]; exact ⟨_, rfl, by omega, by omega⟩
  · rw [if_neg c]; exact ⟨_, rfl, by omega, by omega⟩
theorem toOpS_ev (l : List S165) (h : l.length ≤ 1048576) : Ev (fun k => laws_toOpS.f k l) (l.map cvOp) := by
  unfold laws_toOpS.f
  refine Ev.pos (by omega) ?_
  refine Ev.pos (by simp only [Int.toNat_natCast]; omega) ?_
  simp only [Int.toNat_natCast]
  refine ev_fill (fun k x i => laws_toOpS.l0 k l x i) l z165 cvOp z163 (fun k x => by simp [laws_toOpS.l0]) ?_
  intro i x r hi hx h
  have hmem := getD_mem l i hi z165
  refine Ev.round (fun _ => by rw [laws_toOpS.l0]) ?_
  refine Ev.pos (by omega) ?_
  refine Ev.pos (by omega) ?_
  refine Ev.now_bind (toOp_eq _ _ _ _) ?_
  refine Ev.pos (by omega) ?_
  have e1 : wrap64 ((i : Int) + 1) = ((i + 1 : Nat) : Int) := by rw [w64 (by omega) (by omega)]; omega
  simp only [e1]
  exact h
theorem eqOpS_refl (l : List S163) (h : l.length ≤ 1048576) : Ev (fun k => laws_eqOpS.f k l l) true := by
  unfold laws_eqOpS.f
  refine Ev.pos rfl ?_
  refine ev_down (fun k i => laws_eqOpS.l0 k l l (i : Int)) l.length (fun _ => true) (Ev.round (fun _ => by rw [laws_eqOpS.l0]) (Ev.neg (by omega) (Ev.now _))) (fun i hi h => ?_)
  have hmem := getD_mem l i hi z163
  refine Ev.round (fun _ => by rw [laws_eqOpS.l0]) ?_
  refine Ev.pos (by omega) ?_
  refine Ev.pos (by omega) ?_
  refine Ev.pos (by omega) ?_
  refine Ev.now_bind (eqOp_refl _ _ _ _) ?_
  refine Ev.pos rfl ?_
  have e1 : wrap64 ((i : Int) + 1) = ((i + 1 : Nat) : Int) := by rw [w64 (by omega) (by omega)]; omega
  simp only [e1]
  exact h
theorem toState_ev (a0 : Int) (a1 : List Int) (a2 : List Int) (a3 : List Int) (ha1 : a1.length ≤ 1048576) (ha2 : a2.length ≤ 1048576) (ha3 : a3.length ≤ 1048576) : Ev (fun k => laws_toState.f k a0 a1 a2 a3) (a0, a1, a2, a3) := by
  unfold laws_toState.f
  refine Ev.bind (toIntS_ev a1 ha1) ?_
  refine Ev.bind (toIntS_ev a2 ha2) ?_
  refine Ev.bind (toIntS_ev a3 ha3) ?_
  exact Ev.now _
theorem eqState_refl (a0 : Int) (a1 : List Int) (a2 : List Int) (a3 : List Int) (ha1 : a1.length ≤ 1048576) (ha2 : a2.length ≤ 1048576) (ha3 : a3.length ≤ 1048576) : Ev (fun k => laws_eqState.f k a0 a1 a2 a3 a0 a1 a2 a3) true := by
  unfold laws_eqState.f
  refine Ev.pos rfl ?_
  refine Ev.bind (eqIntS_refl a1 ha1) ?_
  refine Ev.pos rfl ?_
  refine Ev.bind (eqIntS_refl a2 ha2) ?_
  refine Ev.pos rfl ?_
  refine Ev.bind (eqIntS_refl a3 ha3) ?_
  refine Ev.pos rfl ?_
  exact Ev.now _
theorem szState_some (a0 : Int) (a1 : List Int) (a2 : List Int) (a3 : List Int) (n : Int) (ma1 : a1.length ≤ maxLen) (ma2 : a2.length ≤ maxLen) (ma3 : a3.length ≤ maxLen) (h0 : 0 ≤ n) (h1 : n ≤ 1048576) : ∃ r, laws_szState.f a0 a1 a2 a3 n = some r ∧ r ≤ 1048576 ∧ (0 ≤ r → a1.length ≤ 1048576 ∧ a2.length ≤ 1048576 ∧ a3.length ≤ 1048576) := by
  unfold laws_szState.f
  obtain ⟨r0, e0, b0, g0⟩ := szIntS_some a1 n ma1 (by omega) (by omega)
  rw [e0]
  simp only [Option.bind_some]
  by_cases c0 : r0 < 0
  · rw [if_pos c0]; exact ⟨_, rfl, by omega, fun h => by omega⟩
  rw [if_neg c0]
  obtain ⟨r1, e1, b1, g1⟩ := szIntS_some a2 r0 ma2 (by omega) (by omega)
  rw [e1]
  simp only [Option.bind_some]
  by_cases c1 : r1 < 0
  · rw [if_pos c1]; exact ⟨_, rfl, by omega, fun h => by omega⟩
  rw [if_neg c1]
  obtain ⟨r2, e2, b2, g2⟩ := szIntS_some a3 r1 ma3 (by omega) (by omega)
  rw [e2]
  simp only [Option.bind_some]
  by_cases c2 : r2 < 0
  · rw [if_pos c2]; exact ⟨_, rfl, by omega, fun h => by omega⟩
  rw [if_neg c2]
  exact ⟨_, rfl, by omega, fun _ => ⟨(g0 (by omega)), (g1 (by omega)), (g2 (by omega))⟩⟩
theorem eqWant_refl (a0 : Int) (a1 : Int) (a2 : Int) (a3 : Int) : laws_eqWant.f a0 a1 a2 a3 a0 a1 a2 a3 = some true := by
  simp [laws_eqWant.f, eqAddress_refl]
end Go.Proofs.Ytnhnfomfeicilaa.MFnExactWantOf
