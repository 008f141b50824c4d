/- The program's AreEntries and the reference's return the same: each entry is asked the same, in another order; the argument is as it was. No condition. -/
import Derived.Test.YtcjhkpggdgjpaaaStdFnExactAreEntries
namespace Go.Proofs.Ytcjhkpggdgjpaaa.Pure
open Go.RowKit Go.Proofs.Ytcjhkpggdgjpaaa.MFnExactAreEntries Go.Proofs.YtcjhkpggdgjpaaaW.PrintWords Go.Proofs.YtcjhkpggdgjpaaaW.PrintLast Go.Proofs.YtcjhkpggdgjpaaaW.PrintMore Go.Proofs.Ytcjhkpggdgjpaaa.Gen
set_option linter.unusedVariables false
set_option linter.unusedSimpArgs false

def W61 (y : S61) : Prop := (Lit.int .i64 y.f0).wf = true ∧ (Lit.int .i64 y.f1).wf = true ∧ (Lit.int .i64 y.f2).wf = true
def W122 (y : S122) : Prop := (Lit.int .i64 y.f0).wf = true ∧ W61 y.f1 ∧ (Lit.int .i64 y.f2).wf = true
theorem l1In_eq (a b c : Int) : spec_l1In.f a b c = some (decide (b ≤ a) && decide (a ≤ c)) := by
  unfold spec_l1In.f
  by_cases h : b ≤ a <;> simp [h]
def pAsks (k : Int) : Bool := decide (1 ≤ k) && decide (k ≤ 4)
theorem sAsks_eq (k : Int) : spec_Asks.f k = some (pAsks k) := by
  unfold spec_Asks.f pAsks
  rw [l1In_eq]
  rfl
theorem sIsAddress_eq (h p q : Int) : spec_IsAddress.f h p q = some (pAddr h p q) := by
  simp only [spec_IsAddress.f, l1In_eq, Option.bind_some, some_and]
def pEntry (y : S118) : Bool := (decide (1 ≤ y.f0) && decide (y.f0 ≤ 4)) && (pIn y.f2 0 999 && (if y.f0 = 1 then pAddr y.f1.f0 y.f1.f1 y.f1.f2 else pZero y.f1.f0 y.f1.f1 y.f1.f2))
def pEntries (l : List S118) : Bool := l.all pEntry && decide ((l.length : Int) ≤ 16)
theorem not_any' {α : Type} (l : List α) (p : α → Bool) : (!(l.any fun y => !p y)) = l.all p := by
  rw [List.all_eq_not_any_not]
theorem not_zero (a b c : Int) : (!(a == 0) || (!(b == 0) || (!(c == 0)))) = !pZero a b c := by
  unfold pZero
  cases (a == 0) <;> cases (b == 0) <;> cases (c == 0) <;> rfl
theorem sAreEntries_ev (l : List S118) (h : l.length ≤ 1048576) : Ev (fun k => spec_AreEntries.f k l) (pEntries l) := by
  unfold spec_AreEntries.f pEntries
  refine ev_all (fun k i => spec_AreEntries.l0 k l i) l z118 pEntry _ (fun k => by rw [spec_AreEntries.l0, if_neg (by omega)]) ?_ ?_
  · intro i hi hp r hr
    have e1 : wrap64 ((i : Int) + 1) = ((i + 1 : Nat) : Int) := by rw [w64 (by omega) (by omega)]; omega
    have hp' : pEntry (rd_T118 l (i : Int)) = true := hp
    generalize hy : rd_T118 l (i : Int) = y at hp'
    unfold pEntry at hp'
    simp only [Bool.and_eq_true] at hp'
    obtain ⟨p1, p2, p3⟩ := hp'
    refine Ev.round (fun _ => by rw [spec_AreEntries.l0]) ?_
    refine Ev.pos (by omega) ?_
    refine Ev.pos (by omega) ?_
    simp only [hy, e1]
    refine Ev.now_bind (sAsks_eq _) ?_
    refine Ev.pos (by unfold pAsks; simp [p1]) ?_
    refine Ev.now_bind (l1In_eq _ _ _) ?_
    refine Ev.pos (by simp [p2]) ?_
    by_cases h1 : y.f0 = 1
    · rw [if_pos h1] at p3
      refine Ev.pos h1 ?_
      refine Ev.now_bind (sIsAddress_eq _ _ _) ?_
      exact Ev.pos p3 hr
    · rw [if_neg h1] at p3
      refine Ev.neg h1 ?_
      refine Ev.neg ?_ hr
      rw [not_zero, p3]
      simp
  · intro i hi hp
    have hp' : pEntry (rd_T118 l (i : Int)) = false := hp
    generalize hy : rd_T118 l (i : Int) = y at hp'
    unfold pEntry pIn at hp'
    refine Ev.round (fun _ => by rw [spec_AreEntries.l0]) ?_
    refine Ev.pos (by omega) ?_
    refine Ev.pos (by omega) ?_
    simp only [hy]
    refine Ev.now_bind (sAsks_eq _) ?_
    unfold pAsks
    cases p1 : (decide (1 ≤ y.f0) && decide (y.f0 ≤ 4)) with
    | false => exact Ev.neg (by simp) (Ev.now _)
    | true =>
      rw [p1, Bool.true_and] at hp'
      refine Ev.pos rfl ?_
      refine Ev.now_bind (l1In_eq _ _ _) ?_
      cases p2 : (decide (0 ≤ y.f2) && decide (y.f2 ≤ 999)) with
      | false => exact Ev.neg (by simp) (Ev.now _)
      | true =>
        have hp2 : (if y.f0 = 1 then pAddr y.f1.f0 y.f1.f1 y.f1.f2 else pZero y.f1.f0 y.f1.f1 y.f1.f2) = false := by
          rw [p2, Bool.true_and] at hp'
          exact hp'
        refine Ev.pos rfl ?_
        by_cases h1 : y.f0 = 1
        · rw [if_pos h1] at hp2
          refine Ev.pos h1 ?_
          refine Ev.now_bind (sIsAddress_eq _ _ _) ?_
          refine Ev.neg (ne_true_of_eq_false hp2) ?_
          exact Ev.now _
        · rw [if_neg h1] at hp2
          refine Ev.neg h1 ?_
          refine Ev.pos ?_ (Ev.now _)
          rw [not_zero, hp2]
          rfl
theorem InRange_eq (a b c : Int) : impl_InRange.f a b c = some (decide (b ≤ a) && decide (a ≤ c)) := by
  unfold impl_InRange.f
  by_cases h : b ≤ a <;> simp [h]
theorem iAsks_eq (k : Int) : impl_Asks.f k = some (pAsks k) := by
  unfold impl_Asks.f pAsks
  rw [InRange_eq]
  rfl
theorem iIsAddress_eq (h p q : Int) : impl_IsAddress.f h p q = some (pAddr h p q) := by
  simp only [impl_IsAddress.f, InRange_eq, Option.bind_some, some_and]
theorem lit1_eq (y : S118) : impl_AreEntries_lit1.f y.f0 y.f1.f0 y.f1.f1 y.f1.f2 y.f2 = some (!pEntry y) := by
  unfold impl_AreEntries_lit1.f pEntry pIn
  rw [iIsAddress_eq, InRange_eq, iAsks_eq, not_zero]
  unfold pAsks
  by_cases h1 : y.f0 = 1
  · have e1 : (decide (1 ≤ y.f0) && decide (y.f0 ≤ 4)) = true := by simp [h1]
    rw [e1]
    simp only [h1, if_true, Option.bind_some]
    cases pAddr y.f1.f0 y.f1.f1 y.f1.f2 <;> cases (decide (0 ≤ y.f2) && decide (y.f2 ≤ 999)) <;> rfl
  · simp only [h1, if_false, Option.bind_some]
    cases (decide (1 ≤ y.f0) && decide (y.f0 ≤ 4)) <;> cases pZero y.f1.f0 y.f1.f1 y.f1.f2 <;> cases (decide (0 ≤ y.f2) && decide (y.f2 ≤ 999)) <;> rfl
theorem iAreEntries_ev (l : List S118) (h : l.length ≤ 1048576) : Ev (fun k => impl_AreEntries.f k l) (pEntries l) := by
  unfold impl_AreEntries.f pEntries
  rw [Bool.and_comm]
  refine Ev.if_and fun _ => ?_
  rw [← not_any']
  refine Ev.no ?_
  unfold slices_ContainsFunc_88.f
  have hf : ∃ r : Int, Ev (fun k => slices_IndexFunc_88.l0 k l (l.length : Int) 0) r ∧ decide (r ≥ 0) = l.any (fun y => !pEntry y) := by
    refine ev_find (fun k i => slices_IndexFunc_88.l0 k l (l.length : Int) i) l z118 (fun y => !pEntry y) (fun k => by rw [slices_IndexFunc_88.l0, if_neg (by omega)]) ?_ ?_
    · intro i hi hp
      refine Ev.round (fun _ => by rw [slices_IndexFunc_88.l0]) ?_
      refine Ev.pos (by omega) ?_
      refine Ev.pos (by omega) ?_
      refine Ev.pos (by omega) ?_
      refine Ev.now_bind (lit1_eq (rd_T118 l (i : Int))) ?_
      refine Ev.pos hp ?_
      exact Ev.now _
    · intro i hi hp r hr
      have e1 : wrap64 ((i : Int) + 1) = ((i + 1 : Nat) : Int) := by rw [w64 (by omega) (by omega)]; omega
      refine Ev.round (fun _ => by rw [slices_IndexFunc_88.l0]) ?_
      refine Ev.pos (by omega) ?_
      refine Ev.pos (by omega) ?_
      refine Ev.pos (by omega) ?_
      refine Ev.now_bind (lit1_eq (rd_T118 l (i : Int))) ?_
      refine Ev.neg (ne_true_of_eq_false hp) ?_
      simp only [e1]
      exact hr
  obtain ⟨r, hr, hd⟩ := hf
  rw [← hd]
  exact Ev.bind hr (Ev.now _)
theorem FnExactAreEntries (l0 : List S122) (h0 : (l0.length ≤ maxLen ∧ ∀ y ∈ l0, W122 y)) : ∃ k, laws_FnExactAreEntries.f k l0 = some true := by
  obtain ⟨r, e, b, g⟩ := szEntryS_some l0 1048576 h0.1 (by omega) (by omega)
  refine Ev.rounds ?_
  unfold laws_FnExactAreEntries.f
  refine Ev.now_bind e ?_
  by_cases c : r < 0
  · exact Ev.pos c (Ev.now _)
  have hl := g (by omega)
  have hm : (l0.map cvEntry).length ≤ 1048576 := by simpa using hl
  refine Ev.neg c ?_
  refine Ev.bind (toEntryS_ev l0 hl) ?_
  refine Ev.bind (sAreEntries_ev _ hm) ?_
  refine Ev.bind (toEntryS_ev l0 hl) ?_
  refine Ev.bind (iAreEntries_ev _ hm) ?_
  refine Ev.neg (by simp) ?_
  refine Ev.bind (toEntryS_ev l0 hl) ?_
  refine Ev.bind (eqEntryS_refl _ hm) ?_
  refine Ev.pos rfl ?_
  exact Ev.now _
end Go.Proofs.Ytcjhkpggdgjpaaa.Pure
