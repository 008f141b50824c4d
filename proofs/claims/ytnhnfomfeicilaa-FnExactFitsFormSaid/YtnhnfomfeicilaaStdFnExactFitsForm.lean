/- Plain lemmas on the helpers of the law FnExactFitsForm: sizes, copies, equality with itself, marks and what holds them. Written by a program of this session. -/
import Derived.Test.YtnhnfomfeicilaaGen
import Derived.Test.YtnhnfomfeicilaaMFnExactFitsFormx0
import Derived.Test.YtnhnfomfeicilaaMFnExactFitsFormx1
import Derived.Test.YtnhnfomfeicilaaMFnExactFitsFormx2
import Derived.Test.YtnhnfomfeicilaaMFnExactFitsFormx3
import Derived.Test.YtnhnfomfeicilaaMFnExactFitsFormx4
import Derived.Test.YtnhnfomfeicilaaMFnExactFitsFormx5
import Derived.Test.YtnhnfomfeicilaaMFnExactFitsFormx6
import Derived.Test.YtnhnfomfeicilaaMFnExactFitsFormx7
namespace Go.Proofs.Ytnhnfomfeicilaa.MFnExactFitsForm
open Go.RowKit Go.Proofs.YtnhnfomfeicilaaW.PrintWords Go.Proofs.YtnhnfomfeicilaaW.PrintLast Go.Proofs.YtnhnfomfeicilaaW.PrintMore Go.Proofs.Ytnhnfomfeicilaa.Gen
set_option linter.unusedVariables false
set_option linter.unusedSimpArgs false

theorem szIntS_some (l : List Int) (a : Int) (h : l.length ≤ maxLen) (h0 : 0 ≤ a) (h1 : a ≤ 1048576) : ∃ r, laws_szIntS.f l a = some r ∧ r ≤ 1048576 ∧ (0 ≤ r → l.length ≤ 1048576) := by
  unfold maxLen at h
  unfold laws_szIntS.f
  rw [w64 (by omega) (by omega)]
  by_cases c : a - (l.length : Int) < 0
  · rw [if_pos c]; exact ⟨_, rfl, by omega, by omega⟩
  · rw [if_neg c]; exact ⟨_, rfl, by omega, by omega⟩
theorem toIntS_ev (l : List Int) (h : l.length ≤ 1048576) : Ev (fun k => laws_toIntS.f k l) l := by
  unfold laws_toIntS.f
  refine Ev.pos (by omega) ?_
  refine Ev.pos (by simp only [Int.toNat_natCast]; omega) ?_
  simp only [Int.toNat_natCast]
  refine Ev.cast (ev_fill (fun k x i => laws_toIntS.l0 k l x i) l 0 id 0 (fun k x => by simp [laws_toIntS.l0]) ?_) (List.map_id l)
  intro i x r hi hx h
  refine Ev.round (fun _ => by rw [laws_toIntS.l0]) ?_
  refine Ev.pos (by omega) ?_
  refine Ev.pos (by omega) ?_
  refine Ev.pos (by omega) ?_
  have e1 : wrap64 ((i : Int) + 1) = ((i + 1 : Nat) : Int) := by rw [w64 (by omega) (by omega)]; omega
  simp only [e1]
  exact h
theorem eqIntSb_refl (l : List Int) (h : l.length ≤ 16777216) : Ev (fun k => laws_eqIntS.f k l l) true := by
  unfold laws_eqIntS.f
  refine Ev.pos rfl ?_
  refine ev_down (fun k i => laws_eqIntS.l0 k l l (i : Int)) l.length (fun _ => true) (Ev.round (fun _ => by rw [laws_eqIntS.l0]) (Ev.neg (by omega) (Ev.now _))) (fun i hi h => ?_)
  refine Ev.round (fun _ => by rw [laws_eqIntS.l0]) ?_
  refine Ev.pos (by omega) ?_
  refine Ev.pos (by omega) ?_
  refine Ev.pos (by omega) ?_
  refine Ev.pos rfl ?_
  have e1 : wrap64 ((i : Int) + 1) = ((i + 1 : Nat) : Int) := by rw [w64 (by omega) (by omega)]; omega
  simp only [e1]
  exact h
theorem eqIntS_refl (l : List Int) (h : l.length ≤ 1048576) : Ev (fun k => laws_eqIntS.f k l l) true := eqIntSb_refl l (by omega)
theorem toAddress_eq (a0 : Int) (a1 : Int) (a2 : Int) : laws_toAddress.f a0 a1 a2 = some (a0, a1, a2) := by
  simp [laws_toAddress.f]
theorem eqAddress_refl (a0 : Int) (a1 : Int) (a2 : Int) : laws_eqAddress.f a0 a1 a2 a0 a1 a2 = some true := by
  simp [laws_eqAddress.f]
theorem toResource_ev (a0 : Int) (a1 : List Int) (a2 : Int) (a3 : Int) (a4 : Int) (ha1 : a1.length ≤ 1048576) : Ev (fun k => laws_toResource.f k a0 a1 a2 a3 a4) (a0, a1, a2, a3, a4) := by
  unfold laws_toResource.f
  refine Ev.bind (toIntS_ev a1 ha1) ?_
  refine Ev.now_bind (toAddress_eq a2 a3 a4) ?_
  exact Ev.now _
theorem eqResource_refl (a0 : Int) (a1 : List Int) (a2 : Int) (a3 : Int) (a4 : Int) (ha1 : a1.length ≤ 1048576) : Ev (fun k => laws_eqResource.f k a0 a1 a2 a3 a4 a0 a1 a2 a3 a4) true := by
  unfold laws_eqResource.f
  refine Ev.pos rfl ?_
  refine Ev.bind (eqIntS_refl a1 ha1) ?_
  refine Ev.pos rfl ?_
  refine Ev.now_bind (eqAddress_refl a2 a3 a4) ?_
  refine Ev.pos rfl ?_
  exact Ev.now _
theorem szResource_some (a0 : Int) (a1 : List Int) (a2 : Int) (a3 : Int) (a4 : Int) (n : Int) (ma1 : a1.length ≤ maxLen) (h0 : 0 ≤ n) (h1 : n ≤ 1048576) : ∃ r, laws_szResource.f a0 a1 a2 a3 a4 n = some r ∧ r ≤ 1048576 ∧ (0 ≤ r → a1.length ≤ 1048576) := by
  unfold laws_szResource.f
  obtain ⟨r0, e0, b0, g0⟩ := szIntS_some a1 n ma1 (by omega) (by omega)
  rw [e0]
  simp only [Option.bind_some]
  by_cases c0 : r0 < 0
  · rw [if_pos c0]; exact ⟨_, rfl, by omega, fun h => by omega⟩
  rw [if_neg c0]
  exact ⟨_, rfl, by omega, fun _ => (g0 (by omega))⟩
theorem toCapture_ev (a0 : Int) (a1 : Int) (a2 : Int) (a3 : Int) (a4 : Int) (a5 : List Int) (a6 : Int) (a7 : Int) (a8 : Int) (ha5 : a5.length ≤ 1048576) : Ev (fun k => laws_toCapture.f k a0 a1 a2 a3 a4 a5 a6 a7 a8) (a0, a1, a2, a3, a4, a5, a6, a7, a8) := by
  unfold laws_toCapture.f
  refine Ev.now_bind (toAddress_eq a0 a1 a2) ?_
  refine Ev.bind (toResource_ev a4 a5 a6 a7 a8 ha5) ?_
  exact Ev.now _
theorem eqCapture_refl (a0 : Int) (a1 : Int) (a2 : Int) (a3 : Int) (a4 : Int) (a5 : List Int) (a6 : Int) (a7 : Int) (a8 : Int) (ha5 : a5.length ≤ 1048576) : Ev (fun k => laws_eqCapture.f k a0 a1 a2 a3 a4 a5 a6 a7 a8 a0 a1 a2 a3 a4 a5 a6 a7 a8) true := by
  unfold laws_eqCapture.f
  refine Ev.now_bind (eqAddress_refl a0 a1 a2) ?_
  refine Ev.pos rfl ?_
  refine Ev.pos rfl ?_
  refine Ev.bind (eqResource_refl a4 a5 a6 a7 a8 ha5) ?_
  refine Ev.pos rfl ?_
  exact Ev.now _
theorem szCapture_some (a0 : Int) (a1 : Int) (a2 : Int) (a3 : Int) (a4 : Int) (a5 : List Int) (a6 : Int) (a7 : Int) (a8 : Int) (n : Int) (ma5 : a5.length ≤ maxLen) (h0 : 0 ≤ n) (h1 : n ≤ 1048576) : ∃ r, laws_szCapture.f a0 a1 a2 a3 a4 a5 a6 a7 a8 n = some r ∧ r ≤ 1048576 ∧ (0 ≤ r → a5.length ≤ 1048576) := by
  unfold laws_szCapture.f
  obtain ⟨r0, e0, b0, g0⟩ := szResource_some a4 a5 a6 a7 a8 n ma5 (by omega) (by omega)
  rw [e0]
  simp only [Option.bind_some]
  by_cases c0 : r0 < 0
  · rw [if_pos c0]; exact ⟨_, rfl, by omega, fun h => by omega⟩
  rw [if_neg c0]
  exact ⟨_, rfl, by omega, fun _ => (g0 (by omega))⟩
theorem toModel_eq (a0 : Int) (a1 : Int) (a2 : Int) (a3 : Bool) : laws_toModel.f a0 a1 a2 a3 = some (a0, a1, a2, a3) := by
  simp [laws_toModel.f]
end Go.Proofs.Ytnhnfomfeicilaa.MFnExactFitsForm
