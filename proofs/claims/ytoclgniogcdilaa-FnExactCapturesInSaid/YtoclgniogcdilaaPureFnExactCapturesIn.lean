/- The program's CapturesIn and the reference's return the same indices, ascending; what is returned is new memory with each call. No condition. -/
import Derived.Test.YtoclgniogcdilaaStdFnExactCapturesIn
namespace Go.Proofs.Ytoclgniogcdilaa.Pure
open Go.RowKit Go.Proofs.Ytoclgniogcdilaa.PFnExactCapturesIn Go.Proofs.YtoclgniogcdilaaW.PrintWords Go.Proofs.YtoclgniogcdilaaW.PrintLast Go.Proofs.YtoclgniogcdilaaW.PrintMore Go.Proofs.Ytoclgniogcdilaa.Gen
set_option linter.unusedVariables false
set_option linter.unusedSimpArgs false


theorem l1In_eq (a b c : Int) : spec_l1In.f a b c = some (decide (b ≤ a) && decide (a ≤ c)) := by
  unfold spec_l1In.f
  by_cases h : b ≤ a <;> simp [h]
theorem sCapturesIn_ev (n : Nat) (hn : n ≤ 1048575) : Ev (fun k => spec_CapturesIn.f k (n : Int)) (caps n 20) := by
  unfold spec_CapturesIn.f
  refine Ev.now_bind rfl ?_
  refine Ev.now_bind (l1In_eq _ _ _) ?_
  refine Ev.pos (by simp; omega) ?_
  have main := ev_down (fun k i => spec_CapturesIn.l0 k ((n / 2 ^ i : Nat) : Int) (caps n i) (i : Int)) 20 (fun _ => caps n 20)
    (Ev.round (fun _ => by rw [spec_CapturesIn.l0]) (Ev.neg (by omega) (Ev.now _)))
    (fun i hi h => ?_)
  · simpa [caps] using main
  have hlen := caps_length n i
  have hdiv : n / 2 ^ i ≤ n := Nat.div_le_self _ _
  have e2 : wrap64 (Int.tdiv ((n / 2 ^ i : Nat) : Int) 2) = ((n / 2 ^ (i + 1) : Nat) : Int) := by
    rw [half_nat _ (by omega), Nat.pow_succ, ← Nat.div_div_eq_div_mul]
  have e3 : Int.tmod ((n / 2 ^ i : Nat) : Int) 2 = ((n / 2 ^ i % 2 : Nat) : Int) := odd_nat _
  have e1 : wrap64 ((i : Int) + 1) = ((i + 1 : Nat) : Int) := by rw [w64 (by omega) (by omega)]; omega
  rw [caps_succ] at h
  refine Ev.round (fun _ => by rw [spec_CapturesIn.l0]) ?_
  refine Ev.pos (by omega) ?_
  by_cases hb : n / 2 ^ i % 2 = 1
  · rw [if_pos hb] at h
    refine Ev.pos (by rw [e3]; omega) ?_
    refine Ev.pos (by omega) ?_
    simp only [e1, e2]
    exact h
  · rw [if_neg hb] at h
    refine Ev.neg (by rw [e3]; omega) ?_
    simp only [e1, e2]
    exact h
theorem sCapturesIn_no (a : Int) (h : ¬ (0 ≤ a ∧ a ≤ 1048575)) : Ev (fun k => spec_CapturesIn.f k a) [] := by
  unfold spec_CapturesIn.f
  refine Ev.now_bind rfl ?_
  refine Ev.now_bind (l1In_eq _ _ _) ?_
  refine Ev.neg (by simp; omega) ?_
  exact Ev.now _
/-- The indices in a label; none of a number that is no label. -/
def pCaptures (a : Int) : List Int := if 0 ≤ a ∧ a ≤ 1048575 then caps a.toNat 20 else []
theorem pCaptures_length (a : Int) : (pCaptures a).length ≤ 20 := by
  unfold pCaptures
  split
  · exact caps_length _ _
  · simp
theorem sCaptures_ev (a : Int) : Ev (fun k => spec_CapturesIn.f k a) (pCaptures a) := by
  unfold pCaptures
  by_cases h : 0 ≤ a ∧ a ≤ 1048575
  · obtain ⟨n, rfl⟩ := Int.eq_ofNat_of_zero_le h.1
    rw [if_pos h]
    exact sCapturesIn_ev n (by omega)
  · rw [if_neg h]
    exact sCapturesIn_no a h
theorem InRange_eq (a b c : Int) : impl_InRange.f a b c = some (decide (b ≤ a) && decide (a ≤ c)) := by
  unfold impl_InRange.f
  by_cases h : b ≤ a <;> simp [h]
theorem iCapturesIn_ev (n : Nat) (hn : n ≤ 1048575) : Ev (fun k => impl_CapturesIn.f k (n : Int)) (caps n 20) := by
  unfold impl_CapturesIn.f
  refine Ev.now_bind (InRange_eq _ _ _) ?_
  refine Ev.pos (by simp; omega) ?_
  have main := ev_down (fun k i => impl_CapturesIn.l0 k (n : Int) (caps n i) (i : Int)) 20 (fun _ => caps n 20)
    (Ev.round (fun _ => by rw [impl_CapturesIn.l0]) (Ev.neg (by omega) (Ev.now _)))
    (fun i hi h => ?_)
  · simpa [caps] using main
  have hlen := caps_length n i
  have hdiv : n / 2 ^ i ≤ n := Nat.div_le_self _ _
  have e3 : Go.bits .and .i64 (shr .i64 (n : Int) (i : Int)) 1 = ((n / 2 ^ i % 2 : Nat) : Int) := by
    rw [shr_nat _ _ (by omega), bit_nat _ (by omega)]
  have e1 : wrap64 ((i : Int) + 1) = ((i + 1 : Nat) : Int) := by rw [w64 (by omega) (by omega)]; omega
  rw [caps_succ] at h
  refine Ev.round (fun _ => by rw [impl_CapturesIn.l0]) ?_
  refine Ev.pos (by omega) ?_
  refine Ev.pos (by omega) ?_
  by_cases hb : n / 2 ^ i % 2 = 1
  · rw [if_pos hb] at h
    refine Ev.pos (by rw [e3]; omega) ?_
    refine Ev.pos (by omega) ?_
    simp only [e1]
    exact h
  · rw [if_neg hb] at h
    refine Ev.neg (by rw [e3]; omega) ?_
    simp only [e1]
    exact h
theorem iCapturesIn_no (a : Int) (h : ¬ (0 ≤ a ∧ a ≤ 1048575)) : Ev (fun k => impl_CapturesIn.f k a) [] := by
  unfold impl_CapturesIn.f
  refine Ev.now_bind (InRange_eq _ _ _) ?_
  refine Ev.neg (by simp; omega) ?_
  exact Ev.now _
theorem iCaptures_ev (a : Int) : Ev (fun k => impl_CapturesIn.f k a) (pCaptures a) := by
  unfold pCaptures
  by_cases h : 0 ≤ a ∧ a ≤ 1048575
  · obtain ⟨n, rfl⟩ := Int.eq_ofNat_of_zero_le h.1
    rw [if_pos h]
    exact iCapturesIn_ev n (by omega)
  · rw [if_neg h]
    exact iCapturesIn_no a h
theorem FnExactCapturesIn (a0 : Int) (h0 : (Lit.int .i64 a0).wf = true) : ∃ k, laws_FnExactCapturesIn.f k a0 = some true := by
  refine Ev.rounds ?_
  have hl : (pCaptures a0).length ≤ 1048576 := by have := pCaptures_length a0; omega
  unfold laws_FnExactCapturesIn.f
  refine Ev.bind (sCaptures_ev a0) ?_
  refine Ev.bind (iCaptures_ev a0) ?_
  refine Ev.bind (eqIntS_refl _ hl) ?_
  refine Ev.pos rfl ?_
  refine Ev.bind (markIntS_ev _ 1 hl (by omega) (by omega)) ?_
  refine Ev.bind (heldIntS_ev _ 1 hl (by omega) (by omega)) ?_
  refine Ev.neg (by omega) ?_
  refine Ev.pos rfl ?_
  refine Ev.bind (iCaptures_ev a0) ?_
  refine Ev.bind (eqIntS_refl _ hl) ?_
  refine Ev.pos rfl ?_
  refine Ev.bind (heldIntS_ev _ 1 hl (by omega) (by omega)) ?_
  refine Ev.neg (by omega) ?_
  refine Ev.pos rfl ?_
  exact Ev.now _
end Go.Proofs.Ytoclgniogcdilaa.Pure
