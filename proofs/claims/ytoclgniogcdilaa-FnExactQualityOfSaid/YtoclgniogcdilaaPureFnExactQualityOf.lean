/- The program's QualityOf and the reference's return the same number: the same formula over the same four counts, and no division by 0; the argument is as it was. No condition. -/
import Derived.Test.YtoclgniogcdilaaStdFnExactQualityOf
namespace Go.Proofs.Ytoclgniogcdilaa.Pure
open Go.RowKit Go.Proofs.Ytoclgniogcdilaa.MFnExactQualityOf Go.Proofs.YtoclgniogcdilaaW.PrintWords Go.Proofs.YtoclgniogcdilaaW.PrintLast Go.Proofs.YtoclgniogcdilaaW.PrintMore Go.Proofs.Ytoclgniogcdilaa.Gen
set_option linter.unusedVariables false
set_option linter.unusedSimpArgs false

def W24 (y : S24) : Prop := (Lit.int .i64 y.f0).wf = true ∧ (Lit.int .i64 y.f1).wf = true
theorem l1In_eq (a b c : Int) : spec_l1In.f a b c = some (decide (b ≤ a) && decide (a ≤ c)) := by
  unfold spec_l1In.f
  by_cases h : b ≤ a <;> simp [h]
def stepRule (x : List Int) (y : S26) : List Int := if 0 ≤ y.f0 ∧ y.f0 ≤ 3 then x.set y.f0.toNat (x.getD y.f0.toNat 0 + 1) else x
def pRules (l : List S26) : List Int := l.foldl stepRule [0, 0, 0, 0]
def RulesInv (i : Nat) (x : List Int) : Prop := x.length = 4 ∧ ∀ y ∈ x, 0 ≤ y ∧ y ≤ (i : Int)
theorem getD_bound (x : List Int) (i : Nat) (h : RulesInv i x) (j : Nat) : 0 ≤ x.getD j 0 ∧ x.getD j 0 ≤ (i : Int) := by
  by_cases hj : j < x.length
  · exact h.2 _ (getD_mem x j hj 0)
  · rw [List.getD_eq_getElem?_getD, List.getElem?_eq_none (by omega)]
    exact ⟨by simp, by simp⟩
theorem stepRule_inv (i : Nat) (x : List Int) (y : S26) (h : RulesInv i x) : RulesInv (i + 1) (stepRule x y) := by
  unfold stepRule
  split
  · refine ⟨by rw [List.length_set]; exact h.1, fun z hz => ?_⟩
    rcases List.mem_or_eq_of_mem_set hz with hz | rfl
    · have := h.2 z hz; omega
    · have := getD_bound x i h y.f0.toNat; omega
  · exact ⟨h.1, fun z hz => by have := h.2 z hz; omega⟩
theorem pRules_inv (l : List S26) : RulesInv l.length (pRules l) := by
  have key : ∀ (l : List S26) (i : Nat) (x : List Int), RulesInv i x → RulesInv (i + l.length) (l.foldl stepRule x) := by
    intro l
    induction l with
    | nil => intro i x h; exact h
    | cons y l ih =>
      intro i x h
      have := ih (i + 1) (stepRule x y) (stepRule_inv i x y h)
      rw [List.foldl_cons, List.length_cons, show i + (l.length + 1) = i + 1 + l.length by omega]
      exact this
  have := key l 0 [0, 0, 0, 0] ⟨rfl, by simp⟩
  rwa [Nat.zero_add] at this
theorem sCountRules_ev (l : List S26) (h : l.length ≤ 1048576) : Ev (fun k => spec_CountRules.f k l) (pRules l) := by
  unfold spec_CountRules.f
  refine ev_foldl (fun k x i => spec_CountRules.l0 k l x i) l z26 stepRule (fun x => x) RulesInv [0, 0, 0, 0] ⟨rfl, by simp⟩ ?_ ?_
  · intro x hx
    refine Ev.round (fun _ => by rw [spec_CountRules.l0]) ?_
    refine Ev.neg (by omega) ?_
    exact Ev.now _
  · intro i x hi hx
    have e1 : wrap64 ((i : Int) + 1) = ((i + 1 : Nat) : Int) := by rw [w64 (by omega) (by omega)]; omega
    refine ⟨stepRule_inv i x _ hx, fun r hr => ?_⟩
    have hr' : Ev (fun k => spec_CountRules.l0 k l (stepRule x (rd_T26 l (i : Int))) ((i + 1 : Nat) : Int)) r := hr
    generalize hy : rd_T26 l (i : Int) = y at hr'
    unfold stepRule at hr'
    refine Ev.round (fun _ => by rw [spec_CountRules.l0]) ?_
    refine Ev.pos (by omega) ?_
    refine Ev.pos (by omega) ?_
    simp only [hy, e1]
    refine Ev.now_bind (l1In_eq _ _ _) ?_
    by_cases hc : 0 ≤ y.f0 ∧ y.f0 ≤ 3
    · rw [if_pos hc] at hr'
      have hb := getD_bound x i hx y.f0.toNat
      have hl := hx.1
      have e2 : wrap64 (rd x y.f0 + 1) = x.getD y.f0.toNat 0 + 1 := by
        unfold rd
        rw [w64 (by omega) (by omega)]
      refine Ev.pos (by simp [hc]) ?_
      refine Ev.pos hc.1 ?_
      refine Ev.pos (by omega) ?_
      simp only [e2]
      exact hr'
    · rw [if_neg hc] at hr'
      exact Ev.neg (by simpa using fun h0 h1 => hc ⟨h0, h1⟩) hr'
theorem at_eq (a b : Int) : impl_at.f a b = some (decide (0 ≤ a) && decide (a < b)) := by
  unfold impl_at.f
  by_cases h : 0 ≤ a <;> simp [h]
theorem iCountRules_ev (l : List S26) (h : l.length ≤ 1048576) : Ev (fun k => impl_CountRules.f k l) (pRules l) := by
  unfold impl_CountRules.f
  refine Ev.pos (by omega) ?_
  refine ev_foldl (fun k x i => impl_CountRules.l0 k x l (l.length : Int) i) l z26 stepRule (fun x => x) RulesInv [0, 0, 0, 0] ⟨rfl, by simp⟩ ?_ ?_
  · intro x hx
    refine Ev.round (fun _ => by rw [impl_CountRules.l0]) ?_
    refine Ev.neg (by omega) ?_
    exact Ev.now _
  · intro i x hi hx
    have e1 : wrap64 ((i : Int) + 1) = ((i + 1 : Nat) : Int) := by rw [w64 (by omega) (by omega)]; omega
    refine ⟨stepRule_inv i x _ hx, fun r hr => ?_⟩
    have hr' : Ev (fun k => impl_CountRules.l0 k (stepRule x (rd_T26 l (i : Int))) l (l.length : Int) ((i + 1 : Nat) : Int)) r := hr
    generalize hy : rd_T26 l (i : Int) = y at hr'
    unfold stepRule at hr'
    refine Ev.round (fun _ => by rw [impl_CountRules.l0]) ?_
    refine Ev.pos (by omega) ?_
    refine Ev.pos (by omega) ?_
    refine Ev.pos (by omega) ?_
    simp only [hy, e1]
    refine Ev.now_bind (at_eq _ _) ?_
    by_cases hc : 0 ≤ y.f0 ∧ y.f0 ≤ 3
    · rw [if_pos hc] at hr'
      have hb := getD_bound x i hx y.f0.toNat
      have hl := hx.1
      have e2 : wrap64 (rd x y.f0 + 1) = x.getD y.f0.toNat 0 + 1 := by
        unfold rd
        rw [w64 (by omega) (by omega)]
      have h4 : y.f0 < 4 := by omega
      refine Ev.pos (by simp [hc, h4]) ?_
      refine Ev.pos hc.1 ?_
      refine Ev.pos (by omega) ?_
      simp only [e2]
      exact hr'
    · rw [if_neg hc] at hr'
      exact Ev.neg (by simpa using fun h0 (h1 : y.f0 < 4) => hc ⟨h0, by omega⟩) hr'
def qG (t : List Int) : Option Int := if 0 < (t.length : Int) then (if 1 < (t.length : Int) then (if 2 < (t.length : Int) then (if 3 < (t.length : Int) then (if (wrap64 ((wrap64 ((wrap64 ((rd t 0) + (rd t 1))) + (rd t 2))) + (rd t 3))) = 0 then (some 100) else (if (wrap64 (6 * (wrap64 ((wrap64 ((wrap64 ((rd t 0) + (rd t 1))) + (rd t 2))) + (rd t 3))))) = 0 then (none) else (some (wrap64 (Int.tdiv (wrap64 (100 * (wrap64 ((wrap64 ((wrap64 (6 * (rd t 0))) + (wrap64 (4 * (rd t 1))))) + (rd t 2))))) (wrap64 (6 * (wrap64 ((wrap64 ((wrap64 ((rd t 0) + (rd t 1))) + (rd t 2))) + (rd t 3)))))))))) else (none)) else (none)) else (none)) else (none)
theorem quality_ev (l : List S26) (h : l.length ≤ 1048576) : ∃ v, Ev (fun k => spec_QualityOf.f k l) v ∧ Ev (fun k => impl_QualityOf.f k l) v := by
  have hinv := pRules_inv l
  have hl := hinv.1
  have b0 := getD_bound _ _ hinv 0
  have b1 := getD_bound _ _ hinv 1
  have b2 := getD_bound _ _ hinv 2
  have b3 := getD_bound _ _ hinv 3
  have r0 : rd (pRules l) 0 = (pRules l).getD 0 0 := rfl
  have r1 : rd (pRules l) 1 = (pRules l).getD 1 0 := rfl
  have r2 : rd (pRules l) 2 = (pRules l).getD 2 0 := rfl
  have r3 : rd (pRules l) 3 = (pRules l).getD 3 0 := rfl
  have e1 : wrap64 (wrap64 (wrap64 (rd (pRules l) 0 + rd (pRules l) 1) + rd (pRules l) 2) + rd (pRules l) 3) = rd (pRules l) 0 + rd (pRules l) 1 + rd (pRules l) 2 + rd (pRules l) 3 := by
    rw [w64 (n := rd (pRules l) 0 + rd (pRules l) 1) (by omega) (by omega), w64 (n := rd (pRules l) 0 + rd (pRules l) 1 + rd (pRules l) 2) (by omega) (by omega), w64 (by omega) (by omega)]
  have key : ∃ v, qG (pRules l) = some v := by
    unfold qG
    rw [if_pos (by omega), if_pos (by omega), if_pos (by omega), if_pos (by omega), e1]
    by_cases hs : rd (pRules l) 0 + rd (pRules l) 1 + rd (pRules l) 2 + rd (pRules l) 3 = 0
    · exact ⟨100, if_pos hs⟩
    · rw [if_neg hs, if_neg (by rw [w64 (by omega) (by omega)]; omega)]
      exact ⟨_, rfl⟩
  obtain ⟨v, hv⟩ := key
  exact ⟨v, Ev.bind (sCountRules_ev l h) (Ev.const fun _ => hv), Ev.bind (iCountRules_ev l h) (Ev.const fun _ => hv)⟩
theorem FnExactQualityOf (l0 : List S24) (h0 : (l0.length ≤ maxLen ∧ ∀ y ∈ l0, W24 y)) : ∃ k, laws_FnExactQualityOf.f k l0 = some true := by
  obtain ⟨r, e, b, g⟩ := szChoiceS_some l0 1048576 h0.1 (by omega) (by omega)
  refine Ev.rounds ?_
  unfold laws_FnExactQualityOf.f
  refine Ev.now_bind e ?_
  by_cases c : r < 0
  · exact Ev.pos c (Ev.now _)
  have hl := g (by omega)
  have hm : (l0.map cvChoice).length ≤ 1048576 := by simpa using hl
  obtain ⟨v, v1, v2⟩ := quality_ev (l0.map cvChoice) hm
  refine Ev.neg c ?_
  refine Ev.bind (toChoiceS_ev l0 hl) ?_
  refine Ev.bind v1 ?_
  refine Ev.bind (toChoiceS_ev l0 hl) ?_
  refine Ev.bind v2 ?_
  refine Ev.pos rfl ?_
  refine Ev.bind (toChoiceS_ev l0 hl) ?_
  refine Ev.bind (eqChoiceS_refl _ hm) ?_
  refine Ev.pos rfl ?_
  exact Ev.now _
end Go.Proofs.Ytoclgniogcdilaa.Pure
