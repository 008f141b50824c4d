/- The program's TimeOff and the reference's return the same number: under the guards both are the greater of two differences; the arguments are as they were. No condition. -/
import Derived.Test.YtcjhkpggdgjpaaaStdFnExactTimeOff
namespace Go.Proofs.Ytcjhkpggdgjpaaa.Pure
open Go.RowKit Go.Proofs.Ytcjhkpggdgjpaaa.MFnExactTimeOff Go.Proofs.YtcjhkpggdgjpaaaW.PrintWords Go.Proofs.YtcjhkpggdgjpaaaW.PrintLast Go.Proofs.YtcjhkpggdgjpaaaW.PrintMore Go.Proofs.Ytcjhkpggdgjpaaa.Gen
set_option linter.unusedVariables false
set_option linter.unusedSimpArgs false

def W61 (y : S61) : Prop := (Lit.int .i64 y.f0).wf = true ∧ (Lit.int .i64 y.f1).wf = true ∧ (Lit.int .i64 y.f2).wf = true
def W63 (y : S63) : Prop := (Lit.int .i64 y.f0).wf = true ∧ (y.f1.length ≤ maxLen ∧ ∀ e_ ∈ y.f1, (Lit.int .i64 e_).wf = true) ∧ W61 y.f2
def W65 (y : S65) : Prop := W61 y.f0 ∧ (Lit.int .i64 y.f1).wf = true ∧ W63 y.f2
theorem sMax_eq (a b : Int) : spec_Max.f a b = some (mx a b) := by
  unfold spec_Max.f mx
  by_cases h : b > a
  · rw [if_pos h, if_pos (show a < b from h)]
  · rw [if_neg h, if_neg (show ¬ a < b from h)]
theorem l1In_eq (a b c : Int) : spec_l1In.f a b c = some (decide (b ≤ a) && decide (a ≤ c)) := by
  unfold spec_l1In.f
  by_cases h : b ≤ a <;> simp [h]
theorem at_eq (a b : Int) : impl_at.f a b = some (decide (0 ≤ a) && decide (a < b)) := by
  unfold impl_at.f
  by_cases h : 0 ≤ a <;> simp [h]
theorem InRange_eq (a b c : Int) : impl_InRange.f a b c = some (decide (b ≤ a) && decide (a ≤ c)) := by
  unfold impl_InRange.f
  by_cases h : b ≤ a <;> simp [h]
theorem timeOff_same (l : List S72) (r a t : Int) (hl : l.length ≤ 1048576) (ha : -9223372036854775808 ≤ a ∧ a ≤ 9223372036854775807) : ∃ v, spec_TimeOff.f l r a t = some v ∧ impl_TimeOff.f l r a t = some v := by
  unfold spec_TimeOff.f impl_TimeOff.f spec_l16Off.f impl_distance.f
  rw [l1In_eq, l1In_eq, at_eq, InRange_eq, w64 (n := (l.length : Int) - 1) (by omega) (by omega)]
  simp only [Option.bind_some]
  by_cases h1 : 0 ≤ a ∧ a < (l.length : Int)
  · have h2 : (decide (0 ≤ a) && decide (a ≤ (l.length : Int) - 1)) = true := by simp; omega
    have h3 : (decide (0 ≤ a) && decide (a < (l.length : Int))) = true := by simp; omega
    rw [h2, h3]
    simp only [if_true]
    by_cases h4 : (decide (0 ≤ t) && decide (t ≤ 2000)) = true
    · rw [h4]
      simp only [if_true, h1.1, h1.2, l1In_eq, InRange_eq, Option.bind_some]
      by_cases h5 : (decide (0 ≤ (rd_T72 l a).f1) && decide ((rd_T72 l a).f1 ≤ 2000)) = true
      · rw [h5]
        simp only [if_true, sMax_eq, Option.bind_some]
        exact ⟨_, rfl, rfl⟩
      · have h5' := Bool.eq_false_iff.mpr h5
        rw [h5']
        exact ⟨0, by simp, by simp⟩
    · have h4' := Bool.eq_false_iff.mpr h4
      rw [h4']
      exact ⟨0, by simp, by simp⟩
  · have h2 : (decide (0 ≤ a) && decide (a ≤ (l.length : Int) - 1)) = false := by
      rw [Bool.and_eq_false_iff]; simp; omega
    have h3 : (decide (0 ≤ a) && decide (a < (l.length : Int))) = false := by
      rw [Bool.and_eq_false_iff]; simp; omega
    rw [h2, h3]
    exact ⟨0, by simp, by simp⟩
theorem FnExactTimeOff (l0 : List S65) (a1_0 : Int) (a1_1 : Int) (a2 : Int) (h0 : (l0.length ≤ maxLen ∧ ∀ e_ ∈ l0, W65 e_)) (h1 : (Lit.int .i64 a1_0).wf = true) (h2 : (Lit.int .i64 a1_1).wf = true) (h3 : (Lit.int .i64 a2).wf = true) : ∃ k, laws_FnExactTimeOff.f k l0 a1_0 a1_1 a2 = some true := by
  obtain ⟨r, e, b, g⟩ := szCaptureS_some l0 1048576 ⟨h0.1, fun y hy => (h0.2 y hy).2.2.2.1.1⟩ (by omega) (by omega)
  refine Ev.rounds ?_
  unfold laws_FnExactTimeOff.f
  refine Ev.bind e ?_
  by_cases c : r < 0
  · exact Ev.pos c (Ev.now _)
  obtain ⟨hl, hy⟩ := g (by omega)
  have hm : (l0.map cvCapture).length ≤ 1048576 := by simpa using hl
  have hf : ∀ y ∈ l0.map cvCapture, FitimplCapture y := by
    intro y h
    obtain ⟨z, hz, rfl⟩ := List.mem_map.1 h
    exact hy z hz
  obtain ⟨v, v1, v2⟩ := timeOff_same (l0.map cvCapture) a1_0 a1_1 a2 hm (wf64 h2)
  have t := toCaptureS_ev l0 hl hy
  refine Ev.neg c ?_
  refine Ev.bind t ?_
  refine Ev.now_bind rfl ?_
  refine Ev.now_bind v1 ?_
  refine Ev.bind t ?_
  refine Ev.now_bind rfl ?_
  refine Ev.now_bind v2 ?_
  refine Ev.pos rfl ?_
  refine Ev.bind t ?_
  refine Ev.bind (eqCaptureS_refl _ hm hf) ?_
  refine Ev.pos rfl ?_
  exact Ev.now _
end Go.Proofs.Ytcjhkpggdgjpaaa.Pure
