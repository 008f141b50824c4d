/- Plain lemmas on the helpers of the law FnExactCountRules: sizes, copies, equality with itself, marks and what holds them. Written by a program of this session. -/
import Derived.Test.YtcjhkpggdgjpaaaGen
import Derived.Test.YtcjhkpggdgjpaaaMFnExactCountRulesx0
import Derived.Test.YtcjhkpggdgjpaaaMFnExactCountRulesx1
import Derived.Test.YtcjhkpggdgjpaaaMFnExactCountRulesx2
import Derived.Test.YtcjhkpggdgjpaaaMFnExactCountRulesx3
namespace Go.Proofs.Ytcjhkpggdgjpaaa.MFnExactCountRules
open Go.RowKit Go.Proofs.YtcjhkpggdgjpaaaW.PrintWords Go.Proofs.YtcjhkpggdgjpaaaW.PrintLast Go.Proofs.YtcjhkpggdgjpaaaW.PrintMore Go.Proofs.Ytcjhkpggdgjpaaa.Gen
set_option linter.unusedVariables false
set_option linter.unusedSimpArgs false

theorem eqIntSb_refl (l : List Int) (h : l.length ≤ 16777216) : Ev (fun k => laws_eqIntS.f k l l) true := by
  unfold laws_eqIntS.f
  refine Ev.pos rfl ?_
  refine ev_down (fun k i => laws_eqIntS.l0 k l l (i : Int)) l.length (fun _ => true) (Ev.round (fun _ => by rw [laws_eqIntS.l0]) (Ev.neg (by omega) (Ev.now _))) (fun i hi h => ?_)
  refine Ev.round (fun _ => by rw [laws_eqIntS.l0]) ?_
  refine Ev.pos (by omega) ?_
  refine Ev.pos (by omega) ?_
  refine Ev.pos (by omega) ?_
  refine Ev.pos rfl ?_
  have e1 : wrap64 ((i : Int) + 1) = ((i + 1 : Nat) : Int) := by rw [w64 (by omega) (by omega)]; omega
  simp only [e1]
  exact h
theorem eqIntS_refl (l : List Int) (h : l.length ≤ 1048576) : Ev (fun k => laws_eqIntS.f k l l) true := eqIntSb_refl l (by omega)
theorem markIntSb_ev (l : List Int) (a : Int) (h : l.length ≤ 16777216) (h0 : 0 ≤ a) (h1 : a ≤ 1152921504606846976) : Ev (fun k => laws_markIntS.f k l a) (a + (l.length : Int), (List.range l.length).map fun j : Nat => a + (j : Int)) := by
  unfold laws_markIntS.f
  have main := ev_down (fun k i => laws_markIntS.l0 k ((List.range i).map (fun j : Nat => a + (j : Int)) ++ l.drop i) (a + (i : Int)) (i : Int)) l.length (fun _ => (a + (l.length : Int), (List.range l.length).map fun j : Nat => a + (j : Int)))
    (Ev.round (fun _ => by rw [laws_markIntS.l0]) (Ev.neg (by simp) (Ev.const fun _ => by simp)))
    (fun i hi h => ?_)
  · simpa using main
  refine Ev.round (fun _ => by rw [laws_markIntS.l0]) ?_
  refine Ev.pos (by simp; omega) ?_
  refine Ev.pos (by omega) ?_
  have e1 : wrap64 ((i : Int) + 1) = ((i + 1 : Nat) : Int) := by rw [w64 (by omega) (by omega)]; omega
  have e2 : wrap64 (a + (i : Int) + 1) = a + ((i + 1 : Nat) : Int) := by rw [w64 (by omega) (by omega)]; omega
  have e3 : ((List.range i).map (fun j : Nat => a + (j : Int)) ++ l.drop i).set i (a + (i : Int)) = (List.range (i + 1)).map (fun j : Nat => a + (j : Int)) ++ l.drop (i + 1) := by
    rw [List.set_append_right _ _ (by simp), drop_cons l i hi 0, List.range_succ, List.map_append, List.append_assoc]
    simp
  simp only [e1, e2, Int.toNat_natCast, e3]
  exact h
theorem markIntS_ev (l : List Int) (a : Int) (h : l.length ≤ 1048576) (h0 : 0 ≤ a) (h1 : a ≤ 1152921504606846976) : Ev (fun k => laws_markIntS.f k l a) (a + (l.length : Int), (List.range l.length).map fun j : Nat => a + (j : Int)) := markIntSb_ev l a (by omega) h0 h1
theorem heldIntSb_ev (n : Nat) (a : Int) (h : n ≤ 16777216) (h0 : 0 ≤ a) (h1 : a ≤ 1152921504606846976) : Ev (fun k => laws_heldIntS.f k ((List.range n).map fun j : Nat => a + (j : Int)) a) (a + (n : Int)) := by
  unfold laws_heldIntS.f
  have main := ev_down (fun k i => laws_heldIntS.l0 k ((List.range n).map fun j : Nat => a + (j : Int)) (a + (i : Int)) (i : Int)) n (fun _ => a + (n : Int))
    (Ev.round (fun _ => by rw [laws_heldIntS.l0]) (Ev.neg (by simp) (Ev.now _)))
    (fun i hi h => ?_)
  · simpa using main
  refine Ev.round (fun _ => by rw [laws_heldIntS.l0]) ?_
  refine Ev.pos (by simp; omega) ?_
  refine Ev.pos (by omega) ?_
  refine Ev.pos ?_ ?_
  · rw [rd_nat, getD_in _ _ (by simpa using hi)]
    simp
  have e1 : wrap64 ((i : Int) + 1) = ((i + 1 : Nat) : Int) := by rw [w64 (by omega) (by omega)]; omega
  have e2 : wrap64 (a + (i : Int) + 1) = a + ((i + 1 : Nat) : Int) := by rw [w64 (by omega) (by omega)]; omega
  simp only [e1, e2]
  exact h
theorem heldIntS_ev (n : Nat) (a : Int) (h : n ≤ 1048576) (h0 : 0 ≤ a) (h1 : a ≤ 1152921504606846976) : Ev (fun k => laws_heldIntS.f k ((List.range n).map fun j : Nat => a + (j : Int)) a) (a + (n : Int)) := heldIntSb_ev n a (by omega) h0 h1
def FitlawsChoice (y : S93) : Prop := True
def cvChoice (y : S93) : S98 := (⟨y.f0, y.f1⟩ : S98)
def FitimplChoice (y : S98) : Prop := True
theorem toChoice_eq (a0 : Int) (a1 : Int) : laws_toChoice.f a0 a1 = some (a0, a1) := by
  simp [laws_toChoice.f]
theorem eqChoice_refl (a0 : Int) (a1 : Int) : laws_eqChoice.f a0 a1 a0 a1 = some true := by
  simp [laws_eqChoice.f]
theorem szChoiceS_some (l : List S93) (a : Int) (h : l.length ≤ maxLen) (h0 : 0 ≤ a) (h1 : a ≤ 1048576) : ∃ r, laws_szChoiceS.f l a = some r ∧ r ≤ 1048576 ∧ (0 ≤ r → l.length ≤ 1048576) := by
  unfold maxLen at h
  unfold laws_szChoiceS.f
  rw [w64 (by omega) (by omega)]
  by_cases c : a - (l.length : Int) < 0
  · rw [if_pos c]; exact ⟨_, rfl, by omega, by omega⟩
  · rw [if_neg c]; exact ⟨_, rfl, by omega, by omega⟩
theorem toChoiceS_ev (l : List S93) (h : l.length ≤ 1048576) : Ev (fun k => laws_toChoiceS.f k l) (l.map cvChoice) := by
  unfold laws_toChoiceS.f
  refine Ev.pos (by omega) ?_
  refine Ev.pos (by simp only [Int.toNat_natCast]; omega) ?_
  simp only [Int.toNat_natCast]
  refine ev_fill (fun k x i => laws_toChoiceS.l0 k l x i) l z93 cvChoice z98 (fun k x => by simp [laws_toChoiceS.l0]) ?_
  intro i x r hi hx h
  have hmem := getD_mem l i hi z93
  refine Ev.round (fun _ => by rw [laws_toChoiceS.l0]) ?_
  refine Ev.pos (by omega) ?_
  refine Ev.pos (by omega) ?_
  refine Ev.now_bind (toChoice_eq _ _) ?_
  refine Ev.pos (by omega) ?_
  have e1 : wrap64 ((i : Int) + 1) = ((i + 1 : Nat) : Int) := by rw [w64 (by omega) (by omega)]; omega
  simp only [e1]
  exact h
theorem eqChoiceS_refl (l : List S98) (h : l.length ≤ 1048576) : Ev (fun k => laws_eqChoiceS.f k l l) true := by
  unfold laws_eqChoiceS.f
  refine Ev.pos rfl ?_
  refine ev_down (fun k i => laws_eqChoiceS.l0 k l l (i : Int)) l.length (fun _ => true) (Ev.round (fun _ => by rw [laws_eqChoiceS.l0]) (Ev.neg (by omega) (Ev.now _))) (fun i hi h => ?_)
  have hmem := getD_mem l i hi z98
  refine Ev.round (fun _ => by rw [laws_eqChoiceS.l0]) ?_
  refine Ev.pos (by omega) ?_
  refine Ev.pos (by omega) ?_
  refine Ev.pos (by omega) ?_
  refine Ev.now_bind (eqChoice_refl _ _) ?_
  refine Ev.pos rfl ?_
  have e1 : wrap64 ((i : Int) + 1) = ((i + 1 : Nat) : Int) := by rw [w64 (by omega) (by omega)]; omega
  simp only [e1]
  exact h
def mkChoice (c : Int) : S98 := (⟨c, c + 1⟩ : S98)
theorem markChoiceS_ev (l : List S98) (a : Int) (h : l.length ≤ 1048576) (h0 : 0 ≤ a) (h1 : a ≤ 1152921504600000000) : Ev (fun k => laws_markChoiceS.f k l a) (a + 2 * (l.length : Int), (List.range l.length).map fun j : Nat => mkChoice (a + 2 * (j : Int))) := by
  unfold laws_markChoiceS.f
  have main := ev_down (fun k i => laws_markChoiceS.l0 k ((List.range i).map (fun j : Nat => mkChoice (a + 2 * (j : Int))) ++ l.drop i) (a + 2 * (i : Int)) (i : Int)) l.length (fun _ => (a + 2 * (l.length : Int), (List.range l.length).map fun j : Nat => mkChoice (a + 2 * (j : Int))))
    (Ev.round (fun _ => by rw [laws_markChoiceS.l0]) (Ev.neg (by simp) (Ev.const fun _ => by simp)))
    (fun i hi h => ?_)
  · simpa using main
  refine Ev.round (fun _ => by rw [laws_markChoiceS.l0]) ?_
  refine Ev.pos (by simp; omega) ?_
  refine Ev.pos (by omega) ?_
  have e1 : wrap64 ((i : Int) + 1) = ((i + 1 : Nat) : Int) := by rw [w64 (by omega) (by omega)]; omega
  have hlen : ((List.range i).map (fun j : Nat => mkChoice (a + 2 * (j : Int))) ++ l.drop i).length = l.length := by simp; omega
  have e3 : ∀ v, ((List.range i).map (fun j : Nat => mkChoice (a + 2 * (j : Int))) ++ l.drop i).set i v = (List.range i).map (fun j : Nat => mkChoice (a + 2 * (j : Int))) ++ v :: l.drop (i + 1) := by
    intro v
    rw [List.set_append_right _ _ (by simp), drop_cons l i hi z98]
    simp
  have e4 : ∀ v u, ((List.range i).map (fun j : Nat => mkChoice (a + 2 * (j : Int))) ++ u :: l.drop (i + 1)).set i v = (List.range i).map (fun j : Nat => mkChoice (a + 2 * (j : Int))) ++ v :: l.drop (i + 1) := by
    intro v u
    rw [List.set_append_right _ _ (by simp)]
    simp
  have e5 : ∀ u, rd_T98 ((List.range i).map (fun j : Nat => mkChoice (a + 2 * (j : Int))) ++ u :: l.drop (i + 1)) (i : Int) = u := by
    intro u
    unfold rd_T98
    simp [List.getD_eq_getElem?_getD]
  have w0 : wrap64 (a + 2 * (i : Int) + 1) = a + 2 * (i : Int) + 1 := (w64 (by omega) (by omega)).trans (by omega)
  have w1 : wrap64 (a + 2 * (i : Int) + 1 + 1) = a + 2 * (i : Int) + 2 := (w64 (by omega) (by omega)).trans (by omega)
  simp only [e1, w0, w1, Int.toNat_natCast, Option.bind_some, e3, e4, e5]
  have e9 : (List.range (i + 1)).map (fun j : Nat => mkChoice (a + 2 * (j : Int))) ++ l.drop (i + 1) = (List.range i).map (fun j : Nat => mkChoice (a + 2 * (j : Int))) ++ mkChoice (a + 2 * (i : Int)) :: l.drop (i + 1) := by
    rw [List.range_succ, List.map_append, List.append_assoc]
    rfl
  rw [e9, show a + 2 * ((i + 1 : Nat) : Int) = a + 2 * (i : Int) + 2 by omega] at h
  exact h
end Go.Proofs.Ytcjhkpggdgjpaaa.MFnExactCountRules
