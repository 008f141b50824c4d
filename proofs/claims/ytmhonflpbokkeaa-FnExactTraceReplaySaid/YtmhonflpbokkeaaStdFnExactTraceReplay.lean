/- Plain lemmas on the helpers of the law FnExactTraceReplay: sizes, copies, equality with itself, marks and what holds them. Written by a program of this session. -/
import Derived.Test.YtmhonflpbokkeaaGen
import Derived.Test.YtmhonflpbokkeaaMFnExactTraceReplayx0
import Derived.Test.YtmhonflpbokkeaaMFnExactTraceReplayx1
import Derived.Test.YtmhonflpbokkeaaMFnExactTraceReplayx2
import Derived.Test.YtmhonflpbokkeaaMFnExactTraceReplayx3
import Derived.Test.YtmhonflpbokkeaaMFnExactTraceReplayx4
import Derived.Test.YtmhonflpbokkeaaMFnExactTraceReplayx5
import Derived.Test.YtmhonflpbokkeaaMFnExactTraceReplayx6
import Derived.Test.YtmhonflpbokkeaaMFnExactTraceReplayx7
import Derived.Test.YtmhonflpbokkeaaMFnExactTraceReplayx8
import Derived.Test.YtmhonflpbokkeaaMFnExactTraceReplayx9
import Derived.Test.YtmhonflpbokkeaaMFnExactTraceReplayx10
import Derived.Test.YtmhonflpbokkeaaMFnExactTraceReplayx11
import Derived.Test.YtmhonflpbokkeaaMFnExactTraceReplayx12
import Derived.Test.YtmhonflpbokkeaaMFnExactTraceReplayx13
import Derived.Test.YtmhonflpbokkeaaMFnExactTraceReplayx14
import Derived.Test.YtmhonflpbokkeaaMFnExactTraceReplayx15
import Derived.Test.YtmhonflpbokkeaaMFnExactTraceReplayx16
import Derived.Test.YtmhonflpbokkeaaMFnExactTraceReplayx17
import Derived.Test.YtmhonflpbokkeaaMFnExactTraceReplayx18
import Derived.Test.YtmhonflpbokkeaaMFnExactTraceReplayx19
import Derived.Test.YtmhonflpbokkeaaMFnExactTraceReplayx90
namespace Go.Proofs.Ytmhonflpbokkeaa.MFnExactTraceReplay
open Go.RowKit Go.Proofs.YtmhonflpbokkeaaW.PrintWords Go.Proofs.YtmhonflpbokkeaaW.PrintLast Go.Proofs.YtmhonflpbokkeaaW.PrintMore Go.Proofs.Ytmhonflpbokkeaa.Gen
set_option linter.unusedVariables false
set_option linter.unusedSimpArgs false

theorem eqIntSb_refl (l : List Int) (h : l.length ≤ 16777216) : Ev (fun k => laws_eqIntS.f k l l) true := by
  unfold laws_eqIntS.f
  refine Ev.pos rfl ?_
  refine ev_down (fun k i => laws_eqIntS.l0 k l l (i : Int)) l.length (fun _ => true) (Ev.round (fun _ => by rw [laws_eqIntS.l0]) (Ev.neg (by omega) (Ev.now _))) (fun i hi h => ?_)
  refine Ev.round (fun _ => by rw [laws_eqIntS.l0]) ?_
  refine Ev.pos (by omega) ?_
  refine Ev.pos (by omega) ?_
  refine Ev.pos (by omega) ?_
  refine Ev.pos rfl ?_
  have e1 : wrap64 ((i : Int) + 1) = ((i + 1 : Nat) : Int) := by rw [w64 (by omega) (by omega)]; omega
  simp only [e1]
  exact h
theorem eqIntS_refl (l : List Int) (h : l.length ≤ 1048576) : Ev (fun k => laws_eqIntS.f k l l) true := eqIntSb_refl l (by omega)
theorem markIntSb_ev (l : List Int) (a : Int) (h : l.length ≤ 16777216) (h0 : 0 ≤ a) (h1 : a ≤ 1152921504606846976) : Ev (fun k => laws_markIntS.f k l a) (a + (l.length : Int), (List.range l.length).map fun j : Nat => a + (j : Int)) := by
  unfold laws_markIntS.f
  have main := ev_down (fun k i => laws_markIntS.l0 k ((List.range i).map (fun j : Nat => a + (j : Int)) ++ l.drop i) (a + (i : Int)) (i : Int)) l.length (fun _ => (a + (l.length : Int), (List.range l.length).map fun j : Nat => a + (j : Int)))
    (Ev.round (fun _ => by rw [laws_markIntS.l0]) (Ev.neg (by simp) (Ev.const fun _ => by simp)))
    (fun i hi h => ?_)
  · simpa using main
  refine Ev.round (fun _ => by rw [laws_markIntS.l0]) ?_
  refine Ev.pos (by simp; omega) ?_
  refine Ev.pos (by omega) ?_
  have e1 : wrap64 ((i : Int) + 1) = ((i + 1 : Nat) : Int) := by rw [w64 (by omega) (by omega)]; omega
  have e2 : wrap64 (a + (i : Int) + 1) = a + ((i + 1 : Nat) : Int) := by rw [w64 (by omega) (by omega)]; omega
  have e3 : ((List.range i).map (fun j : Nat => a + (j : Int)) ++ l.drop i).set i (a + (i : Int)) = (List.range (i + 1)).map (fun j : Nat => a + (j : Int)) ++ l.drop (i + 1) := by
    rw [List.set_append_right _ _ (by simp), drop_cons l i hi 0, List.range_succ, List.map_append, List.append_assoc]
    simp
  simp only [e1, e2, Int.toNat_natCast, e3]
  exact h
theorem markIntS_ev (l : List Int) (a : Int) (h : l.length ≤ 1048576) (h0 : 0 ≤ a) (h1 : a ≤ 1152921504606846976) : Ev (fun k => laws_markIntS.f k l a) (a + (l.length : Int), (List.range l.length).map fun j : Nat => a + (j : Int)) := markIntSb_ev l a (by omega) h0 h1
theorem heldIntSb_ev (n : Nat) (a : Int) (h : n ≤ 16777216) (h0 : 0 ≤ a) (h1 : a ≤ 1152921504606846976) : Ev (fun k => laws_heldIntS.f k ((List.range n).map fun j : Nat => a + (j : Int)) a) (a + (n : Int)) := by
  unfold laws_heldIntS.f
  have main := ev_down (fun k i => laws_heldIntS.l0 k ((List.range n).map fun j : Nat => a + (j : Int)) (a + (i : Int)) (i : Int)) n (fun _ => a + (n : Int))
    (Ev.round (fun _ => by rw [laws_heldIntS.l0]) (Ev.neg (by simp) (Ev.now _)))
    (fun i hi h => ?_)
  · simpa using main
  refine Ev.round (fun _ => by rw [laws_heldIntS.l0]) ?_
  refine Ev.pos (by simp; omega) ?_
  refine Ev.pos (by omega) ?_
  refine Ev.pos ?_ ?_
  · rw [rd_nat, getD_in _ _ (by simpa using hi)]
    simp
  have e1 : wrap64 ((i : Int) + 1) = ((i + 1 : Nat) : Int) := by rw [w64 (by omega) (by omega)]; omega
  have e2 : wrap64 (a + (i : Int) + 1) = a + ((i + 1 : Nat) : Int) := by rw [w64 (by omega) (by omega)]; omega
  simp only [e1, e2]
  exact h
theorem heldIntS_ev (n : Nat) (a : Int) (h : n ≤ 1048576) (h0 : 0 ≤ a) (h1 : a ≤ 1152921504606846976) : Ev (fun k => laws_heldIntS.f k ((List.range n).map fun j : Nat => a + (j : Int)) a) (a + (n : Int)) := heldIntSb_ev n a (by omega) h0 h1
def FitlawsOp (y : S105) : Prop := True
def cvOp (y : S105) : S103 := (⟨y.f0, y.f1, y.f2, y.f3⟩ : S103)
def FitimplOp (y : S103) : Prop := True
def FitimplState (y : S41) : Prop := y.f1.length ≤ 1048576 ∧ y.f2.length ≤ 1048576 ∧ y.f3.length ≤ 1048576
def FitlawsEntry (y : S111) : Prop := True
def cvEntry (y : S111) : S107 := (⟨y.f0, (⟨y.f1.f0, y.f1.f1, y.f1.f2⟩ : S89), y.f2⟩ : S107)
def FitimplEntry (y : S107) : Prop := True
theorem toAddress_eq (a0 : Int) (a1 : Int) (a2 : Int) : laws_toAddress.f a0 a1 a2 = some (a0, a1, a2) := by
  simp [laws_toAddress.f]
theorem eqAddress_refl (a0 : Int) (a1 : Int) (a2 : Int) : laws_eqAddress.f a0 a1 a2 a0 a1 a2 = some true := by
  simp [laws_eqAddress.f]
theorem toOp_eq (a0 : Int) (a1 : Int) (a2 : Int) (a3 : Int) : laws_toOp.f a0 a1 a2 a3 = some (a0, a1, a2, a3) := by
  simp [laws_toOp.f]
theorem eqOp_refl (a0 : Int) (a1 : Int) (a2 : Int) (a3 : Int) : laws_eqOp.f a0 a1 a2 a3 a0 a1 a2 a3 = some true := by
  simp [laws_eqOp.f]
theorem szOpS_some (l : List S105) (a : Int) (h : l.length ≤ maxLen) (h0 : 0 ≤ a) (h1 : a ≤ 1048576) : ∃ r, laws_szOpS.f l a = some r ∧ r ≤ 1048576 ∧ (0 ≤ r → l.length ≤ 1048576) := by
  unfold maxLen at h
  unfold laws_szOpS.f
  rw [w64 (by omega) (by omega)]
  by_cases c : a - (l.length : Int) < 0
  · rw [if_pos c]; exact ⟨_, rfl, by omega, by omega⟩
  · rw [if_neg c]; exact ⟨_, rfl, by omega, by omega⟩
theorem toOpS_ev (l : List S105) (h : l.length ≤ 1048576) : Ev (fun k => laws_toOpS.f k l) (l.map cvOp) := by
  unfold laws_toOpS.f
  refine Ev.pos (by omega) ?_
  refine Ev.pos (by simp only [Int.toNat_natCast]; omega) ?_
  simp only [Int.toNat_natCast]
  refine ev_fill (fun k x i => laws_toOpS.l0 k l x i) l z105 cvOp z103 (fun k x => by simp [laws_toOpS.l0]) ?_
  intro i x r hi hx h
  have hmem := getD_mem l i hi z105
  refine Ev.round (fun _ => by rw [laws_toOpS.l0]) ?_
  refine Ev.pos (by omega) ?_
  refine Ev.pos (by omega) ?_
  refine Ev.now_bind (toOp_eq _ _ _ _) ?_
  refine Ev.pos (by omega) ?_
  have e1 : wrap64 ((i : Int) + 1) = ((i + 1 : Nat) : Int) := by rw [w64 (by omega) (by omega)]; omega
  simp only [e1]
  exact h
theorem eqOpS_refl (l : List S103) (h : l.length ≤ 1048576) : Ev (fun k => laws_eqOpS.f k l l) true := by
  unfold laws_eqOpS.f
  refine Ev.pos rfl ?_
  refine ev_down (fun k i => laws_eqOpS.l0 k l l (i : Int)) l.length (fun _ => true) (Ev.round (fun _ => by rw [laws_eqOpS.l0]) (Ev.neg (by omega) (Ev.now _))) (fun i hi h => ?_)
  have hmem := getD_mem l i hi z103
  refine Ev.round (fun _ => by rw [laws_eqOpS.l0]) ?_
  refine Ev.pos (by omega) ?_
  refine Ev.pos (by omega) ?_
  refine Ev.pos (by omega) ?_
  refine Ev.now_bind (eqOp_refl _ _ _ _) ?_
  refine Ev.pos rfl ?_
  have e1 : wrap64 ((i : Int) + 1) = ((i + 1 : Nat) : Int) := by rw [w64 (by omega) (by omega)]; omega
  simp only [e1]
  exact h
def mkOp (c : Int) : S103 := (⟨c, c + 1, c + 2, c + 3⟩ : S103)
theorem markOpS_ev (l : List S103) (a : Int) (h : l.length ≤ 1048576) (h0 : 0 ≤ a) (h1 : a ≤ 1152921504600000000) : Ev (fun k => laws_markOpS.f k l a) (a + 4 * (l.length : Int), (List.range l.length).map fun j : Nat => mkOp (a + 4 * (j : Int))) := by
  unfold laws_markOpS.f
  have main := ev_down (fun k i => laws_markOpS.l0 k ((List.range i).map (fun j : Nat => mkOp (a + 4 * (j : Int))) ++ l.drop i) (a + 4 * (i : Int)) (i : Int)) l.length (fun _ => (a + 4 * (l.length : Int), (List.range l.length).map fun j : Nat => mkOp (a + 4 * (j : Int))))
    (Ev.round (fun _ => by rw [laws_markOpS.l0]) (Ev.neg (by simp) (Ev.const fun _ => by simp)))
    (fun i hi h => ?_)
  · simpa using main
  refine Ev.round (fun _ => by rw [laws_markOpS.l0]) ?_
  refine Ev.pos (by simp; omega) ?_
  refine Ev.pos (by omega) ?_
  have e1 : wrap64 ((i : Int) + 1) = ((i + 1 : Nat) : Int) := by rw [w64 (by omega) (by omega)]; omega
  have hlen : ((List.range i).map (fun j : Nat => mkOp (a + 4 * (j : Int))) ++ l.drop i).length = l.length := by simp; omega
  have e3 : ∀ v, ((List.range i).map (fun j : Nat => mkOp (a + 4 * (j : Int))) ++ l.drop i).set i v = (List.range i).map (fun j : Nat => mkOp (a + 4 * (j : Int))) ++ v :: l.drop (i + 1) := by
    intro v
    rw [List.set_append_right _ _ (by simp), drop_cons l i hi z103]
    simp
  have e4 : ∀ v u, ((List.range i).map (fun j : Nat => mkOp (a + 4 * (j : Int))) ++ u :: l.drop (i + 1)).set i v = (List.range i).map (fun j : Nat => mkOp (a + 4 * (j : Int))) ++ v :: l.drop (i + 1) := by
    intro v u
    rw [List.set_append_right _ _ (by simp)]
    simp
  have e5 : ∀ u, rd_T103 ((List.range i).map (fun j : Nat => mkOp (a + 4 * (j : Int))) ++ u :: l.drop (i + 1)) (i : Int) = u := by
    intro u
    unfold rd_T103
    simp [List.getD_eq_getElem?_getD]
  have w0 : wrap64 (a + 4 * (i : Int) + 1) = a + 4 * (i : Int) + 1 := (w64 (by omega) (by omega)).trans (by omega)
  have w1 : wrap64 (a + 4 * (i : Int) + 1 + 1) = a + 4 * (i : Int) + 2 := (w64 (by omega) (by omega)).trans (by omega)
  have w2 : wrap64 (a + 4 * (i : Int) + 2 + 1) = a + 4 * (i : Int) + 3 := (w64 (by omega) (by omega)).trans (by omega)
  have w3 : wrap64 (a + 4 * (i : Int) + 3 + 1) = a + 4 * (i : Int) + 4 := (w64 (by omega) (by omega)).trans (by omega)
  simp only [e1, w0, w1, w2, w3, Int.toNat_natCast, Option.bind_some, e3, e4, e5]
  have e9 : (List.range (i + 1)).map (fun j : Nat => mkOp (a + 4 * (j : Int))) ++ l.drop (i + 1) = (List.range i).map (fun j : Nat => mkOp (a + 4 * (j : Int))) ++ mkOp (a + 4 * (i : Int)) :: l.drop (i + 1) := by
    rw [List.range_succ, List.map_append, List.append_assoc]
    rfl
  rw [e9, show a + 4 * ((i + 1 : Nat) : Int) = a + 4 * (i : Int) + 4 by omega] at h
  exact h
theorem eqState_refl (a0 : Int) (a1 : List Int) (a2 : List Int) (a3 : List Int) (ha1 : a1.length ≤ 1048576) (ha2 : a2.length ≤ 1048576) (ha3 : a3.length ≤ 1048576) : Ev (fun k => laws_eqState.f k a0 a1 a2 a3 a0 a1 a2 a3) true := by
  unfold laws_eqState.f
  refine Ev.pos rfl ?_
  refine Ev.bind (eqIntS_refl a1 ha1) ?_
  refine Ev.pos rfl ?_
  refine Ev.bind (eqIntS_refl a2 ha2) ?_
  refine Ev.pos rfl ?_
  refine Ev.bind (eqIntS_refl a3 ha3) ?_
  refine Ev.pos rfl ?_
  exact Ev.now _
theorem eqStateS_refl (l : List S41) (h : l.length ≤ 1048576) (hy : ∀ y ∈ l, FitimplState y) : Ev (fun k => laws_eqStateS.f k l l) true := by
  unfold laws_eqStateS.f
  refine Ev.pos rfl ?_
  refine ev_down (fun k i => laws_eqStateS.l0 k l l (i : Int)) l.length (fun _ => true) (Ev.round (fun _ => by rw [laws_eqStateS.l0]) (Ev.neg (by omega) (Ev.now _))) (fun i hi h => ?_)
  have hmem := getD_mem l i hi z41
  refine Ev.round (fun _ => by rw [laws_eqStateS.l0]) ?_
  refine Ev.pos (by omega) ?_
  refine Ev.pos (by omega) ?_
  refine Ev.pos (by omega) ?_
  refine Ev.bind (eqState_refl _ _ _ _ (hy _ hmem).1 (hy _ hmem).2.1 (hy _ hmem).2.2) ?_
  refine Ev.pos rfl ?_
  have e1 : wrap64 ((i : Int) + 1) = ((i + 1 : Nat) : Int) := by rw [w64 (by omega) (by omega)]; omega
  simp only [e1]
  exact h
theorem toEntry_eq (a0 : Int) (a1 : Int) (a2 : Int) (a3 : Int) (a4 : Int) : laws_toEntry.f a0 a1 a2 a3 a4 = some (a0, a1, a2, a3, a4) := by
  simp [laws_toEntry.f, toAddress_eq]
theorem eqEntry_refl (a0 : Int) (a1 : Int) (a2 : Int) (a3 : Int) (a4 : Int) : laws_eqEntry.f a0 a1 a2 a3 a4 a0 a1 a2 a3 a4 = some true := by
  simp [laws_eqEntry.f, eqAddress_refl]
theorem szEntryS_some (l : List S111) (a : Int) (h : l.length ≤ maxLen) (h0 : 0 ≤ a) (h1 : a ≤ 1048576) : ∃ r, laws_szEntryS.f l a = some r ∧ r ≤ 1048576 ∧ (0 ≤ r → l.length ≤ 1048576) := by
  unfold maxLen at h
  unfold laws_szEntryS.f
  rw [w64 (by omega) (by omega)]
  by_cases c : a - (l.length : Int) < 0
  · rw [if_pos c]; exact ⟨_, rfl, by omega, by omega⟩
  · rw [if_neg c]; exact ⟨_, rfl, by omega, by omega⟩
theorem toEntryS_ev (l : List S111) (h : l.length ≤ 1048576) : Ev (fun k => laws_toEntryS.f k l) (l.map cvEntry) := by
  unfold laws_toEntryS.f
  refine Ev.pos (by omega) ?_
  refine Ev.pos (by simp only [Int.toNat_natCast]; omega) ?_
  simp only [Int.toNat_natCast]
  refine ev_fill (fun k x i => laws_toEntryS.l0 k l x i) l z111 cvEntry z107 (fun k x => by simp [laws_toEntryS.l0]) ?_
  intro i x r hi hx h
  have hmem := getD_mem l i hi z111
  refine Ev.round (fun _ => by rw [laws_toEntryS.l0]) ?_
  refine Ev.pos (by omega) ?_
  refine Ev.pos (by omega) ?_
  refine Ev.now_bind (toEntry_eq _ _ _ _ _) ?_
  refine Ev.pos (by omega) ?_
  have e1 : wrap64 ((i : Int) + 1) = ((i + 1 : Nat) : Int) := by rw [w64 (by omega) (by omega)]; omega
  simp only [e1]
  exact h
theorem eqEntryS_refl (l : List S107) (h : l.length ≤ 1048576) : Ev (fun k => laws_eqEntryS.f k l l) true := by
  unfold laws_eqEntryS.f
  refine Ev.pos rfl ?_
  refine ev_down (fun k i => laws_eqEntryS.l0 k l l (i : Int)) l.length (fun _ => true) (Ev.round (fun _ => by rw [laws_eqEntryS.l0]) (Ev.neg (by omega) (Ev.now _))) (fun i hi h => ?_)
  have hmem := getD_mem l i hi z107
  refine Ev.round (fun _ => by rw [laws_eqEntryS.l0]) ?_
  refine Ev.pos (by omega) ?_
  refine Ev.pos (by omega) ?_
  refine Ev.pos (by omega) ?_
  refine Ev.now_bind (eqEntry_refl _ _ _ _ _) ?_
  refine Ev.pos rfl ?_
  have e1 : wrap64 ((i : Int) + 1) = ((i + 1 : Nat) : Int) := by rw [w64 (by omega) (by omega)]; omega
  simp only [e1]
  exact h
def mkEntry (c : Int) : S107 := (⟨c, (⟨c + 1, c + 2, c + 3⟩ : S89), c + 4⟩ : S107)
theorem markEntryS_ev (l : List S107) (a : Int) (h : l.length ≤ 1048576) (h0 : 0 ≤ a) (h1 : a ≤ 1152921504600000000) : Ev (fun k => laws_markEntryS.f k l a) (a + 5 * (l.length : Int), (List.range l.length).map fun j : Nat => mkEntry (a + 5 * (j : Int))) := by
  unfold laws_markEntryS.f
  have main := ev_down (fun k i => laws_markEntryS.l0 k ((List.range i).map (fun j : Nat => mkEntry (a + 5 * (j : Int))) ++ l.drop i) (a + 5 * (i : Int)) (i : Int)) l.length (fun _ => (a + 5 * (l.length : Int), (List.range l.length).map fun j : Nat => mkEntry (a + 5 * (j : Int))))
    (Ev.round (fun _ => by rw [laws_markEntryS.l0]) (Ev.neg (by simp) (Ev.const fun _ => by simp)))
    (fun i hi h => ?_)
  · simpa using main
  refine Ev.round (fun _ => by rw [laws_markEntryS.l0]) ?_
  refine Ev.pos (by simp; omega) ?_
  refine Ev.pos (by omega) ?_
  have e1 : wrap64 ((i : Int) + 1) = ((i + 1 : Nat) : Int) := by rw [w64 (by omega) (by omega)]; omega
  have hlen : ((List.range i).map (fun j : Nat => mkEntry (a + 5 * (j : Int))) ++ l.drop i).length = l.length := by simp; omega
  have e3 : ∀ v, ((List.range i).map (fun j : Nat => mkEntry (a + 5 * (j : Int))) ++ l.drop i).set i v = (List.range i).map (fun j : Nat => mkEntry (a + 5 * (j : Int))) ++ v :: l.drop (i + 1) := by
    intro v
    rw [List.set_append_right _ _ (by simp), drop_cons l i hi z107]
    simp
  have e4 : ∀ v u, ((List.range i).map (fun j : Nat => mkEntry (a + 5 * (j : Int))) ++ u :: l.drop (i + 1)).set i v = (List.range i).map (fun j : Nat => mkEntry (a + 5 * (j : Int))) ++ v :: l.drop (i + 1) := by
    intro v u
    rw [List.set_append_right _ _ (by simp)]
    simp
  have e5 : ∀ u, rd_T107 ((List.range i).map (fun j : Nat => mkEntry (a + 5 * (j : Int))) ++ u :: l.drop (i + 1)) (i : Int) = u := by
    intro u
    unfold rd_T107
    simp [List.getD_eq_getElem?_getD]
  have w0 : wrap64 (a + 5 * (i : Int) + 1) = a + 5 * (i : Int) + 1 := (w64 (by omega) (by omega)).trans (by omega)
  have w1 : wrap64 (a + 5 * (i : Int) + 1 + 1) = a + 5 * (i : Int) + 2 := (w64 (by omega) (by omega)).trans (by omega)
  have w2 : wrap64 (a + 5 * (i : Int) + 2 + 1) = a + 5 * (i : Int) + 3 := (w64 (by omega) (by omega)).trans (by omega)
  have w3 : wrap64 (a + 5 * (i : Int) + 3 + 1) = a + 5 * (i : Int) + 4 := (w64 (by omega) (by omega)).trans (by omega)
  have w4 : wrap64 (a + 5 * (i : Int) + 4 + 1) = a + 5 * (i : Int) + 5 := (w64 (by omega) (by omega)).trans (by omega)
  simp only [e1, w0, w1, w2, w3, w4, Int.toNat_natCast, Option.bind_some, e3, e4, e5]
  have e9 : (List.range (i + 1)).map (fun j : Nat => mkEntry (a + 5 * (j : Int))) ++ l.drop (i + 1) = (List.range i).map (fun j : Nat => mkEntry (a + 5 * (j : Int))) ++ mkEntry (a + 5 * (i : Int)) :: l.drop (i + 1) := by
    rw [List.range_succ, List.map_append, List.append_assoc]
    rfl
  rw [e9, show a + 5 * ((i + 1 : Nat) : Int) = a + 5 * (i : Int) + 5 by omega] at h
  exact h
end Go.Proofs.Ytmhonflpbokkeaa.MFnExactTraceReplay
