/- The program's IsState and the reference's return the same: the same ranges and lengths, asked in another order; the argument is as it was. No condition. -/
import Derived.Test.YtcjhkpggdgjpaaaStdFnExactIsState
namespace Go.Proofs.Ytcjhkpggdgjpaaa.Pure
open Go.RowKit Go.Proofs.Ytcjhkpggdgjpaaa.MFnExactIsState Go.Proofs.YtcjhkpggdgjpaaaW.PrintWords Go.Proofs.YtcjhkpggdgjpaaaW.PrintLast Go.Proofs.YtcjhkpggdgjpaaaW.PrintMore Go.Proofs.Ytcjhkpggdgjpaaa.Gen
set_option linter.unusedVariables false
set_option linter.unusedSimpArgs false


theorem l1In_eq (a b c : Int) : spec_l1In.f a b c = some (decide (b ≤ a) && decide (a ≤ c)) := by
  unfold spec_l1In.f
  by_cases h : b ≤ a <;> simp [h]
theorem l11All_ev (l : List Int) (n : Int) (h : l.length ≤ 1048576) : Ev (fun k => spec_l11All.f k l n) (l.all (pIn · 0 999) && ((l.length : Int) == n)) := by
  unfold spec_l11All.f
  refine ev_all (fun k i => spec_l11All.l0 k l n i) l 0 (pIn · 0 999) _ (fun k => by rw [spec_l11All.l0, if_neg (by omega)]) ?_ ?_
  · intro i hi hp r hr
    have e1 : wrap64 ((i : Int) + 1) = ((i + 1 : Nat) : Int) := by rw [w64 (by omega) (by omega)]; omega
    refine Ev.round (fun _ => by rw [spec_l11All.l0]) ?_
    refine Ev.pos (by omega) ?_
    refine Ev.pos (by omega) ?_
    refine Ev.now_bind (l1In_eq _ _ _) ?_
    refine Ev.pos ?_ ?_
    · rw [rd_nat]; exact hp
    · simp only [e1]; exact hr
  · intro i hi hp
    refine Ev.round (fun _ => by rw [spec_l11All.l0]) ?_
    refine Ev.pos (by omega) ?_
    refine Ev.pos (by omega) ?_
    refine Ev.now_bind (l1In_eq _ _ _) ?_
    refine Ev.neg ?_ (Ev.now _)
    rw [rd_nat]; exact ne_true_of_eq_false hp
def pState (a : Int) (r s n : List Int) : Bool :=
  pIn a 0 19 && ((r.all (pIn · 0 999) && ((r.length : Int) == 4)) && ((s.all (pIn · 0 999) && ((s.length : Int) == 3)) && (n.all (pIn · 0 999) && ((n.length : Int) == 4))))
theorem sIsState_ev (a : Int) (r s n : List Int) (h1 : r.length ≤ 1048576) (h2 : s.length ≤ 1048576) (h3 : n.length ≤ 1048576) : Ev (fun k => spec_IsState.f k a r s n) (pState a r s n) := by
  unfold spec_IsState.f pState
  exact Ev.now_and (l1In_eq _ _ _) fun _ => Ev.and (l11All_ev r 4 h1) fun _ => Ev.and (l11All_ev s 3 h2) fun _ => Ev.id (l11All_ev n 4 h3)
theorem InRange_eq (a b c : Int) : impl_InRange.f a b c = some (decide (b ≤ a) && decide (a ≤ c)) := by
  unfold impl_InRange.f
  by_cases h : b ≤ a <;> simp [h]
theorem allIn_ev (l : List Int) (a b : Int) (h : l.length ≤ 1048576) : Ev (fun k => impl_allIn.f k l a b) (l.all (pIn · a b)) := by
  unfold impl_allIn.f
  refine Ev.cast (ev_all (fun k i => impl_allIn.l0 k a b l (l.length : Int) i) l 0 (pIn · a b) true (fun k => by rw [impl_allIn.l0, if_neg (by omega)]) ?_ ?_) (Bool.and_true _)
  · intro i hi hp r hr
    have e1 : wrap64 ((i : Int) + 1) = ((i + 1 : Nat) : Int) := by rw [w64 (by omega) (by omega)]; omega
    refine Ev.round (fun _ => by rw [impl_allIn.l0]) ?_
    refine Ev.pos (by omega) ?_
    refine Ev.pos (by omega) ?_
    refine Ev.pos (by omega) ?_
    refine Ev.now_bind (InRange_eq _ _ _) ?_
    refine Ev.pos ?_ ?_
    · rw [rd_nat]; exact hp
    · simp only [e1]; exact hr
  · intro i hi hp
    refine Ev.round (fun _ => by rw [impl_allIn.l0]) ?_
    refine Ev.pos (by omega) ?_
    refine Ev.pos (by omega) ?_
    refine Ev.pos (by omega) ?_
    refine Ev.now_bind (InRange_eq _ _ _) ?_
    refine Ev.neg ?_ (Ev.now _)
    rw [rd_nat]; exact ne_true_of_eq_false hp
theorem iIsState_ev (a : Int) (r s n : List Int) (h1 : r.length ≤ 1048576) (h2 : s.length ≤ 1048576) (h3 : n.length ≤ 1048576) : Ev (fun k => impl_IsState.f k a r s n) (pState a r s n) := by
  unfold impl_IsState.f pState
  refine Ev.cast (Ev.now_and (InRange_eq _ _ _) fun _ => Ev.if_and fun _ => Ev.if_and fun _ => Ev.if_and fun _ => Ev.and (allIn_ev r 0 999 h1) fun _ => Ev.and (allIn_ev s 0 999 h2) fun _ => Ev.id (allIn_ev n 0 999 h3)) ?_
  rw [Bool.eq_iff_iff]
  simp only [Bool.and_eq_true, decide_eq_true_eq, beq_iff_eq]
  constructor
  · rintro ⟨a1, a2, a3, a4, a5, a6, a7⟩; exact ⟨a1, ⟨a5, a2⟩, ⟨a6, a3⟩, a7, a4⟩
  · rintro ⟨a1, ⟨a5, a2⟩, ⟨a6, a3⟩, a7, a4⟩; exact ⟨a1, a2, a3, a4, a5, a6, a7⟩
theorem FnExactIsState (a0_0 : Int) (l0_1 : List Int) (l0_2 : List Int) (l0_3 : List Int) (h0 : (Lit.int .i64 a0_0).wf = true) (h1 : (l0_1.length ≤ maxLen ∧ ∀ y ∈ l0_1, (Lit.int .i64 y).wf = true)) (h2 : (l0_2.length ≤ maxLen ∧ ∀ y ∈ l0_2, (Lit.int .i64 y).wf = true)) (h3 : (l0_3.length ≤ maxLen ∧ ∀ y ∈ l0_3, (Lit.int .i64 y).wf = true)) : ∃ k, laws_FnExactIsState.f k a0_0 l0_1 l0_2 l0_3 = some true := by
  obtain ⟨r, e, b, g⟩ := szState_some a0_0 l0_1 l0_2 l0_3 1048576 h1.1 h2.1 h3.1 (by omega) (by omega)
  refine Ev.rounds ?_
  unfold laws_FnExactIsState.f
  refine Ev.now_bind e ?_
  by_cases c : r < 0
  · exact Ev.pos c (Ev.now _)
  obtain ⟨g1, g2, g3⟩ := g (by omega)
  refine Ev.neg c ?_
  refine Ev.bind (toState_ev a0_0 l0_1 l0_2 l0_3 g1 g2 g3) ?_
  refine Ev.bind (sIsState_ev _ _ _ _ g1 g2 g3) ?_
  refine Ev.bind (toState_ev a0_0 l0_1 l0_2 l0_3 g1 g2 g3) ?_
  refine Ev.bind (iIsState_ev _ _ _ _ g1 g2 g3) ?_
  refine Ev.neg (by simp) ?_
  refine Ev.bind (toState_ev a0_0 l0_1 l0_2 l0_3 g1 g2 g3) ?_
  refine Ev.bind (eqState_refl _ _ _ _ g1 g2 g3) ?_
  refine Ev.pos rfl ?_
  exact Ev.now _
end Go.Proofs.Ytcjhkpggdgjpaaa.Pure
