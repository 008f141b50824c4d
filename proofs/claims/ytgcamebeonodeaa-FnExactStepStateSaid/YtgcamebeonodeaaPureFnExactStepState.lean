/- The program's StepState and the reference's return the same state; what is returned is new memory, and the arguments are as they were. No condition. -/
import Derived.Test.YtgcamebeonodeaaStdFnExactStepState
namespace Go.Proofs.Ytgcamebeonodeaa.Pure
open Go.RowKit Go.Proofs.Ytgcamebeonodeaa.MFnExactStepState Go.Proofs.YtgcamebeonodeaaW.PrintWords Go.Proofs.YtgcamebeonodeaaW.PrintLast Go.Proofs.YtgcamebeonodeaaW.PrintMore Go.Proofs.Ytgcamebeonodeaa.Gen
set_option linter.unusedVariables false
set_option linter.unusedSimpArgs false

def W136 (y : S136) : Prop := (Lit.int .i64 y.f0).wf = true ∧ (Lit.int .i64 y.f1).wf = true ∧ (Lit.int .i64 y.f2).wf = true ∧ (Lit.int .i64 y.f3).wf = true
theorem l1In_eq (a b c : Int) : spec_l1In.f a b c = some (decide (b ≤ a) && decide (a ≤ c)) := by
  unfold spec_l1In.f
  by_cases h : b ≤ a <;> simp [h]
def pOp (y : S121) : Bool :=
  pIn y.f1 0 3 && (
    if y.f0 = 1 then pIn y.f2 1 9 && pIn y.f3 0 99
    else if y.f0 = 2 ∨ y.f0 = 3 ∨ y.f0 = 4 then decide (y.f2 = 0) && (y.f3 == 0)
    else if y.f0 = 5 then pIn y.f2 0 3 && pIn y.f3 0 3
    else if y.f0 = 6 then pIn y.f2 0 3 && (y.f3 == 0)
    else if y.f0 = 7 then pIn y.f2 1 3 && (y.f3 == 0)
    else if y.f0 = 8 then pIn y.f2 0 2 && (y.f3 == 0)
    else if y.f0 = 9 then pIn y.f2 0 2 && (y.f3 == 0)
    else false)
theorem sOp_ev (y : S121) : Ev (fun k => spec_l10Ok.f k y.f0 y.f1 y.f2 y.f3) (pOp y) := by
  unfold spec_l10Ok.f pOp
  refine Ev.now_and (l1In_eq _ _ _) fun _ => ?_
  by_cases h1 : y.f0 = 1
  · rw [if_pos h1]
    refine Ev.pos h1 ?_
    exact Ev.now_and (l1In_eq _ _ _) fun _ => Ev.now_bind (l1In_eq _ _ _) (Ev.now _)
  rw [if_neg h1]
  refine Ev.neg h1 ?_
  have hj : ∀ x : Bool, (x = true ↔ y.f0 = 2 ∨ y.f0 = 3 ∨ y.f0 = 4) → Ev (fun k => spec_l10Ok.j0 k 3 y.f0 x y.f0 y.f1 y.f2 y.f3) (if y.f0 = 2 ∨ y.f0 = 3 ∨ y.f0 = 4 then decide (y.f2 = 0) && (y.f3 == 0)
    else if y.f0 = 5 then pIn y.f2 0 3 && pIn y.f3 0 3
    else if y.f0 = 6 then pIn y.f2 0 3 && (y.f3 == 0)
    else if y.f0 = 7 then pIn y.f2 1 3 && (y.f3 == 0)
    else if y.f0 = 8 then pIn y.f2 0 2 && (y.f3 == 0)
    else if y.f0 = 9 then pIn y.f2 0 2 && (y.f3 == 0)
    else false) := by
    intro x hx
    refine Ev.round (fun _ => by rw [spec_l10Ok.j0]) ?_
    cases x with
    | true =>
      rw [if_pos (hx.1 rfl)]
      refine Ev.pos rfl ?_
      exact Ev.if_and fun _ => Ev.now _
    | false =>
      have hno : ¬ (y.f0 = 2 ∨ y.f0 = 3 ∨ y.f0 = 4) := fun c => by simpa using hx.2 c
      rw [if_neg hno]
      refine Ev.neg (by simp) ?_
      refine Ev.ite (fun _ => ?_) (fun _ => ?_)
      · exact Ev.now_and (l1In_eq _ _ _) fun _ => Ev.now_bind (l1In_eq _ _ _) (Ev.now _)
      refine Ev.ite (fun _ => ?_) (fun _ => ?_)
      · exact Ev.now_and (l1In_eq _ _ _) fun _ => Ev.now _
      refine Ev.ite (fun _ => ?_) (fun _ => ?_)
      · exact Ev.now_and (l1In_eq _ _ _) fun _ => Ev.now _
      refine Ev.ite (fun _ => ?_) (fun _ => ?_)
      · exact Ev.now_and (l1In_eq _ _ _) fun _ => Ev.now _
      refine Ev.ite (fun _ => ?_) (fun _ => ?_)
      · exact Ev.now_and (l1In_eq _ _ _) fun _ => Ev.now _
      · exact Ev.now _
  by_cases h2 : y.f0 = 2
  · refine Ev.pos h2 (hj _ ?_)
    simp [h2]
  refine Ev.neg h2 ?_
  by_cases h3 : y.f0 = 3
  · refine Ev.pos h3 (hj _ ?_)
    simp [h3]
  refine Ev.neg h3 (hj _ ?_)
  simp [h2, h3]
def pScript (l : List S121) : Bool := l.all pOp && decide ((l.length : Int) ≤ 16)
theorem not_any {α : Type} (l : List α) (p : α → Bool) : (!(l.any fun y => !p y)) = l.all p := by
  rw [List.all_eq_not_any_not]
theorem sIsScript_ev (l : List S121) (h : l.length ≤ 1048576) : Ev (fun k => spec_IsScript.f k l) (pScript l) := by
  unfold spec_IsScript.f pScript
  refine ev_all (fun k i => spec_IsScript.l0 k l i) l z121 pOp _ (fun k => by rw [spec_IsScript.l0, if_neg (by omega)]) ?_ ?_
  · intro i hi hp r hr
    have e1 : wrap64 ((i : Int) + 1) = ((i + 1 : Nat) : Int) := by rw [w64 (by omega) (by omega)]; omega
    refine Ev.round (fun _ => by rw [spec_IsScript.l0]) ?_
    refine Ev.pos (by omega) ?_
    refine Ev.pos (by omega) ?_
    refine Ev.bind (sOp_ev (rd_T121 l (i : Int))) ?_
    refine Ev.pos hp ?_
    simp only [e1]
    exact hr
  · intro i hi hp
    refine Ev.round (fun _ => by rw [spec_IsScript.l0]) ?_
    refine Ev.pos (by omega) ?_
    refine Ev.pos (by omega) ?_
    refine Ev.bind (sOp_ev (rd_T121 l (i : Int))) ?_
    refine Ev.neg (ne_true_of_eq_false hp) ?_
    exact Ev.now _
theorem l11All_ev (l : List Int) (n : Int) (h : l.length ≤ 1048576) : Ev (fun k => spec_l11All.f k l n) (l.all (pIn · 0 999) && ((l.length : Int) == n)) := by
  unfold spec_l11All.f
  refine ev_all (fun k i => spec_l11All.l0 k l n i) l 0 (pIn · 0 999) _ (fun k => by rw [spec_l11All.l0, if_neg (by omega)]) ?_ ?_
  · intro i hi hp r hr
    have e1 : wrap64 ((i : Int) + 1) = ((i + 1 : Nat) : Int) := by rw [w64 (by omega) (by omega)]; omega
    refine Ev.round (fun _ => by rw [spec_l11All.l0]) ?_
    refine Ev.pos (by omega) ?_
    refine Ev.pos (by omega) ?_
    refine Ev.now_bind (l1In_eq _ _ _) ?_
    refine Ev.pos ?_ ?_
    · rw [rd_nat]; exact hp
    · simp only [e1]; exact hr
  · intro i hi hp
    refine Ev.round (fun _ => by rw [spec_l11All.l0]) ?_
    refine Ev.pos (by omega) ?_
    refine Ev.pos (by omega) ?_
    refine Ev.now_bind (l1In_eq _ _ _) ?_
    refine Ev.neg ?_ (Ev.now _)
    rw [rd_nat]; exact ne_true_of_eq_false hp
def pState (a : Int) (r s n : List Int) : Bool :=
  pIn a 0 19 && ((r.all (pIn · 0 999) && ((r.length : Int) == 4)) && ((s.all (pIn · 0 999) && ((s.length : Int) == 3)) && (n.all (pIn · 0 999) && ((n.length : Int) == 4))))
theorem sIsState_ev (a : Int) (r s n : List Int) (h1 : r.length ≤ 1048576) (h2 : s.length ≤ 1048576) (h3 : n.length ≤ 1048576) : Ev (fun k => spec_IsState.f k a r s n) (pState a r s n) := by
  unfold spec_IsState.f pState
  exact Ev.now_and (l1In_eq _ _ _) fun _ => Ev.and (l11All_ev r 4 h1) fun _ => Ev.and (l11All_ev s 3 h2) fun _ => Ev.id (l11All_ev n 4 h3)
def pCan (l : List S121) (a : Int) (r s n : List Int) : Bool := pScript l && (pState a r s n && decide (a < (l.length : Int)))
theorem pCan_facts {l : List S121} {a : Int} {r s n : List Int} (h : pCan l a r s n = true) : 0 ≤ a ∧ a < (l.length : Int) ∧ r.length = 4 ∧ s.length = 3 ∧ n.length = 4 ∧ (∀ y ∈ r, 0 ≤ y ∧ y ≤ 999) ∧ (∀ y ∈ s, 0 ≤ y ∧ y ≤ 999) ∧ (∀ y ∈ n, 0 ≤ y ∧ y ≤ 999) ∧ (∀ y ∈ l, pOp y = true) ∧ a ≤ 19 ∧ l.length ≤ 16 := by
  unfold pCan pScript pState at h
  simp only [pIn, Bool.and_eq_true, decide_eq_true_eq, List.all_eq_true, beq_iff_eq] at h
  obtain ⟨⟨h1, h2⟩, ⟨⟨h3, h3'⟩, ⟨h4, h5⟩, ⟨h6, h7⟩, h8, h9⟩, h10⟩ := h
  exact ⟨h3, h10, by omega, by omega, by omega, h4, h6, h8, h1, h3', by omega⟩
theorem pOp_reg {y : S121} (h : pOp y = true) : 0 ≤ y.f1 ∧ y.f1 ≤ 3 := by
  unfold pOp at h
  simp only [pIn, Bool.and_eq_true, decide_eq_true_eq] at h
  exact h.1
theorem sCan_ev (l : List S121) (a : Int) (r s n : List Int) (h : l.length ≤ 1048576) (h1 : r.length ≤ 1048576) (h2 : s.length ≤ 1048576) (h3 : n.length ≤ 1048576) : Ev (fun k => spec_l11Can.f k l a r s n) (pCan l a r s n) := by
  unfold spec_l11Can.f pCan
  exact Ev.and (sIsScript_ev l h) fun _ => Ev.and (sIsState_ev a r s n h1 h2 h3) fun _ => Ev.now _
def pClamp (v : Int) : Int := mx 0 (mn 999 v)
theorem pClamp_in (v : Int) : 0 ≤ pClamp v ∧ pClamp v ≤ 999 := by
  unfold pClamp mx mn
  constructor <;> (split <;> split <;> omega)
theorem pClamp_impl (v : Int) : mn (mx v 0) 999 = pClamp v := by
  unfold pClamp mx mn
  split <;> split <;> split <;> (try split) <;> omega
def pStep (l : List S121) (a : Int) (r s n : List Int) (v : Int) : Int × List Int × List Int × List Int :=
  if pCan l a r s n = true then (
    if (rd_T121 l a).f0 = 5 then (wrap64 (a + 1), r.set (rd_T121 l a).f1.toNat (Int.tmod (wrap64 (rd r (rd_T121 l a).f2 + rd r (rd_T121 l a).f3)) 1000), s, n)
    else if (rd_T121 l a).f0 = 6 then (wrap64 (a + 1), r, s, n.set (rd_T121 l a).f2.toNat (rd r (rd_T121 l a).f1))
    else if (rd_T121 l a).f0 = 7 then (if Int.tmod (rd r (rd_T121 l a).f1) 2 = 0 then (wrap64 (wrap64 (a + 1) + (rd_T121 l a).f2), r, s, n) else (wrap64 (a + 1), r, s, n))
    else if (rd_T121 l a).f0 = 8 then (wrap64 (a + 1), r.set (rd_T121 l a).f1.toNat (rd s (rd_T121 l a).f2), s, n)
    else if (rd_T121 l a).f0 = 9 then (wrap64 (a + 1), r, s.set (rd_T121 l a).f2.toNat (rd r (rd_T121 l a).f1), n)
    else (wrap64 (a + 1), r.set (rd_T121 l a).f1.toNat (pClamp v), s, n)) else (a, r, s, n)
theorem pStep_len (l : List S121) (a : Int) (r s n : List Int) (v : Int) : (pStep l a r s n v).2.1.length = r.length ∧ (pStep l a r s n v).2.2.1.length = s.length ∧ (pStep l a r s n v).2.2.2.length = n.length := by
  unfold pStep
  repeat' split
  all_goals simp only [List.length_set, and_self]
theorem pOp_5 {y : S121} (h : pOp y = true) (c : y.f0 = 5) : 0 ≤ y.f2 ∧ y.f2 ≤ 3 ∧ 0 ≤ y.f3 ∧ y.f3 ≤ 3 := by
  unfold pOp at h
  rw [if_neg (by omega), if_neg (by omega), if_pos c] at h
  simp only [pIn, Bool.and_eq_true, decide_eq_true_eq] at h
  omega
theorem pOp_6 {y : S121} (h : pOp y = true) (c : y.f0 = 6) : 0 ≤ y.f2 ∧ y.f2 ≤ 3 := by
  unfold pOp at h
  rw [if_neg (by omega), if_neg (by omega), if_neg (by omega), if_pos c] at h
  simp only [pIn, Bool.and_eq_true, decide_eq_true_eq] at h
  omega
theorem pOp_7 {y : S121} (h : pOp y = true) (c : y.f0 = 7) : 1 ≤ y.f2 ∧ y.f2 ≤ 3 := by
  unfold pOp at h
  rw [if_neg (by omega), if_neg (by omega), if_neg (by omega), if_neg (by omega), if_pos c] at h
  simp only [pIn, Bool.and_eq_true, decide_eq_true_eq] at h
  omega
theorem pOp_8 {y : S121} (h : pOp y = true) (c : y.f0 = 8) : 0 ≤ y.f2 ∧ y.f2 ≤ 2 := by
  unfold pOp at h
  rw [if_neg (by omega), if_neg (by omega), if_neg (by omega), if_neg (by omega), if_neg (by omega), if_pos c] at h
  simp only [pIn, Bool.and_eq_true, decide_eq_true_eq] at h
  omega
theorem pOp_9 {y : S121} (h : pOp y = true) (c : y.f0 = 9) : 0 ≤ y.f2 ∧ y.f2 ≤ 2 := by
  unfold pOp at h
  rw [if_neg (by omega), if_neg (by omega), if_neg (by omega), if_neg (by omega), if_neg (by omega), if_neg (by omega), if_pos c] at h
  simp only [pIn, Bool.and_eq_true, decide_eq_true_eq] at h
  omega
theorem sCopy_eq (a : Int) (r s n : List Int) (h1 : r.length ≤ 1048576) (h2 : s.length ≤ 1048576) (h3 : n.length ≤ 1048576) : spec_l11Copy.f a r s n = some (a, r, s, n) := by
  simp only [spec_l11Copy.f, Option.bind_some, List.nil_append, List.length_nil]
  rw [if_pos (by omega)]
  rw [if_pos (by omega)]
  rw [if_pos (by omega)]
theorem sStep_ev (l : List S121) (a : Int) (r s n : List Int) (v : Int) (h : l.length ≤ 1048576) (h1 : r.length ≤ 1048576) (h2 : s.length ≤ 1048576) (h3 : n.length ≤ 1048576) : Ev (fun k => spec_StepState.f k l a r s n v) (pStep l a r s n v) := by
  unfold spec_StepState.f
  refine Ev.now_bind (sCopy_eq a r s n h1 h2 h3) ?_
  refine Ev.bind (sCan_ev l a r s n h h1 h2 h3) ?_
  dsimp only
  unfold pStep
  by_cases c : pCan l a r s n = true
  · obtain ⟨f1, f2, f3, f4, f5, f6, f7, f8, f9, f10, f11⟩ := pCan_facts c
    have ho : pOp (rd_T121 l a) = true := f9 _ (getD_mem l a.toNat (by omega) z121)
    have hr := pOp_reg ho
    refine Ev.rpos c ?_
    refine Ev.pos c ?_
    refine Ev.pos f1 ?_
    refine Ev.pos f2 ?_
    refine Ev.ite (fun c5 => ?_) (fun c5 => ?_)
    · have ha := pOp_5 ho c5
      refine Ev.pos ha.1 ?_
      refine Ev.pos (by omega) ?_
      refine Ev.pos ha.2.2.1 ?_
      refine Ev.pos (by omega) ?_
      refine Ev.pos hr.1 ?_
      refine Ev.pos (by omega) ?_
      exact Ev.now _
    refine Ev.ite (fun c6 => ?_) (fun c6 => ?_)
    · have ha := pOp_6 ho c6
      refine Ev.pos hr.1 ?_
      refine Ev.pos (by omega) ?_
      refine Ev.pos ha.1 ?_
      refine Ev.pos (by omega) ?_
      exact Ev.now _
    refine Ev.ite (fun c7 => ?_) (fun c7 => ?_)
    · refine Ev.pos hr.1 ?_
      refine Ev.pos (by omega) ?_
      exact Ev.ite (fun _ => Ev.now _) (fun _ => Ev.now _)
    refine Ev.ite (fun c8 => ?_) (fun c8 => ?_)
    · have ha := pOp_8 ho c8
      refine Ev.pos ha.1 ?_
      refine Ev.pos (by omega) ?_
      refine Ev.pos hr.1 ?_
      refine Ev.pos (by omega) ?_
      exact Ev.now _
    refine Ev.ite (fun c9 => ?_) (fun c9 => ?_)
    · have ha := pOp_9 ho c9
      refine Ev.pos hr.1 ?_
      refine Ev.pos (by omega) ?_
      refine Ev.pos ha.1 ?_
      refine Ev.pos (by omega) ?_
      exact Ev.now _
    have em : spec_Min.f 999 v = some (mn 999 v) := by
      unfold spec_Min.f mn
      split <;> rfl
    have ex : spec_Max.f 0 (mn 999 v) = some (pClamp v) := by
      unfold spec_Max.f pClamp mx
      by_cases cx : (0 : Int) < mn 999 v
      · rw [if_pos cx, if_pos (show mn 999 v > 0 from cx)]
      · rw [if_neg cx, if_neg (show ¬ mn 999 v > 0 from cx)]
    refine Ev.now_bind em ?_
    refine Ev.now_bind ex ?_
    refine Ev.pos hr.1 ?_
    refine Ev.pos (by omega) ?_
    exact Ev.now _
  · refine Ev.rneg c ?_
    exact Ev.neg c (Ev.now _)
theorem at_eq (a b : Int) : impl_at.f a b = some (decide (0 ≤ a) && decide (a < b)) := by
  unfold impl_at.f
  by_cases h : 0 ≤ a <;> simp [h]
theorem InRange_eq (a b c : Int) : impl_InRange.f a b c = some (decide (b ≤ a) && decide (a ≤ c)) := by
  unfold impl_InRange.f
  by_cases h : b ≤ a <;> simp [h]
theorem pIn_at (a : Int) : (decide (0 ≤ a) && decide (a < 4)) = pIn a 0 3 := by
  have : (a < 4) = (a ≤ 3) := by apply propext; omega
  simp only [this]
theorem pIn_at3 (a : Int) : (decide (0 ≤ a) && decide (a < 3)) = pIn a 0 2 := by
  have : (a < 3) = (a ≤ 2) := by apply propext; omega
  simp only [this]
theorem iOp_ev (y : S121) : Ev (fun k => impl_isOp.f k y.f0 y.f1 y.f2 y.f3) (pOp y) := by
  unfold impl_isOp.f pOp
  refine Ev.now_and ((at_eq _ _).trans (congrArg some (pIn_at _))) fun _ => ?_
  by_cases h1 : y.f0 = 1
  · rw [if_pos h1]
    refine Ev.pos h1 ?_
    exact Ev.now_and (InRange_eq _ _ _) fun _ => Ev.now_bind (InRange_eq _ _ _) (Ev.now _)
  rw [if_neg h1]
  refine Ev.neg h1 ?_
  have hj : ∀ x : Bool, (x = true ↔ y.f0 = 2 ∨ y.f0 = 3 ∨ y.f0 = 4) → Ev (fun k => impl_isOp.j0 k y.f0 x y.f0 y.f1 y.f2 y.f3) (if y.f0 = 2 ∨ y.f0 = 3 ∨ y.f0 = 4 then decide (y.f2 = 0) && (y.f3 == 0)
    else if y.f0 = 5 then pIn y.f2 0 3 && pIn y.f3 0 3
    else if y.f0 = 6 then pIn y.f2 0 3 && (y.f3 == 0)
    else if y.f0 = 7 then pIn y.f2 1 3 && (y.f3 == 0)
    else if y.f0 = 8 then pIn y.f2 0 2 && (y.f3 == 0)
    else if y.f0 = 9 then pIn y.f2 0 2 && (y.f3 == 0)
    else false) := by
    intro x hx
    refine Ev.round (fun _ => by rw [impl_isOp.j0]) ?_
    cases x with
    | true =>
      rw [if_pos (hx.1 rfl)]
      refine Ev.pos rfl ?_
      exact Ev.if_and fun _ => Ev.now _
    | false =>
      have hno : ¬ (y.f0 = 2 ∨ y.f0 = 3 ∨ y.f0 = 4) := fun c => by simpa using hx.2 c
      rw [if_neg hno]
      refine Ev.neg (by simp) ?_
      refine Ev.ite (fun _ => ?_) (fun _ => ?_)
      · exact Ev.now_and ((at_eq _ _).trans (congrArg some (pIn_at _))) fun _ => Ev.now_bind ((at_eq _ _).trans (congrArg some (pIn_at _))) (Ev.now _)
      refine Ev.ite (fun _ => ?_) (fun _ => ?_)
      · exact Ev.now_and ((at_eq _ _).trans (congrArg some (pIn_at _))) fun _ => Ev.now _
      refine Ev.ite (fun _ => ?_) (fun _ => ?_)
      · exact Ev.now_and (InRange_eq _ _ _) fun _ => Ev.now _
      refine Ev.ite (fun _ => ?_) (fun _ => ?_)
      · exact Ev.now_and ((at_eq _ _).trans (congrArg some (pIn_at3 _))) fun _ => Ev.now _
      refine Ev.ite (fun _ => ?_) (fun _ => ?_)
      · exact Ev.now_and ((at_eq _ _).trans (congrArg some (pIn_at3 _))) fun _ => Ev.now _
      · exact Ev.now _
  by_cases h2 : y.f0 = 2
  · refine Ev.pos h2 (hj _ ?_)
    simp [h2]
  refine Ev.neg h2 ?_
  by_cases h3 : y.f0 = 3
  · refine Ev.pos h3 (hj _ ?_)
    simp [h3]
  refine Ev.neg h3 (hj _ ?_)
  simp [h2, h3]
theorem iIsScript_ev (l : List S121) (h : l.length ≤ 1048576) : Ev (fun k => impl_IsScript.f k l) (pScript l) := by
  unfold impl_IsScript.f pScript
  rw [Bool.and_comm]
  refine Ev.if_and fun _ => ?_
  rw [← not_any]
  refine Ev.no ?_
  unfold slices_ContainsFunc_80.f
  have hf : ∃ r : Int, Ev (fun k => slices_IndexFunc_80.l0 k l (l.length : Int) 0) r ∧ decide (r ≥ 0) = l.any (fun y => !pOp y) := by
    refine ev_find (fun k i => slices_IndexFunc_80.l0 k l (l.length : Int) i) l z121 (fun y => !pOp y) (fun k => by rw [slices_IndexFunc_80.l0, if_neg (by omega)]) ?_ ?_
    · intro i hi hp
      refine Ev.round (fun _ => by rw [slices_IndexFunc_80.l0]) ?_
      refine Ev.pos (by omega) ?_
      refine Ev.pos (by omega) ?_
      refine Ev.pos (by omega) ?_
      refine Ev.bind (Ev.no (iOp_ev (rd_T121 l (i : Int)))) ?_
      refine Ev.pos hp ?_
      exact Ev.now _
    · intro i hi hp r hr
      have e1 : wrap64 ((i : Int) + 1) = ((i + 1 : Nat) : Int) := by rw [w64 (by omega) (by omega)]; omega
      refine Ev.round (fun _ => by rw [slices_IndexFunc_80.l0]) ?_
      refine Ev.pos (by omega) ?_
      refine Ev.pos (by omega) ?_
      refine Ev.pos (by omega) ?_
      refine Ev.bind (Ev.no (iOp_ev (rd_T121 l (i : Int)))) ?_
      refine Ev.neg (ne_true_of_eq_false hp) ?_
      simp only [e1]
      exact hr
  obtain ⟨r, hr, hd⟩ := hf
  rw [← hd]
  exact Ev.bind hr (Ev.now _)
theorem allIn_ev (l : List Int) (a b : Int) (h : l.length ≤ 1048576) : Ev (fun k => impl_allIn.f k l a b) (l.all (pIn · a b)) := by
  unfold impl_allIn.f
  refine Ev.cast (ev_all (fun k i => impl_allIn.l0 k a b l (l.length : Int) i) l 0 (pIn · a b) true (fun k => by rw [impl_allIn.l0, if_neg (by omega)]) ?_ ?_) (Bool.and_true _)
  · intro i hi hp r hr
    have e1 : wrap64 ((i : Int) + 1) = ((i + 1 : Nat) : Int) := by rw [w64 (by omega) (by omega)]; omega
    refine Ev.round (fun _ => by rw [impl_allIn.l0]) ?_
    refine Ev.pos (by omega) ?_
    refine Ev.pos (by omega) ?_
    refine Ev.pos (by omega) ?_
    refine Ev.now_bind (InRange_eq _ _ _) ?_
    refine Ev.pos ?_ ?_
    · rw [rd_nat]; exact hp
    · simp only [e1]; exact hr
  · intro i hi hp
    refine Ev.round (fun _ => by rw [impl_allIn.l0]) ?_
    refine Ev.pos (by omega) ?_
    refine Ev.pos (by omega) ?_
    refine Ev.pos (by omega) ?_
    refine Ev.now_bind (InRange_eq _ _ _) ?_
    refine Ev.neg ?_ (Ev.now _)
    rw [rd_nat]; exact ne_true_of_eq_false hp
theorem iIsState_ev (a : Int) (r s n : List Int) (h1 : r.length ≤ 1048576) (h2 : s.length ≤ 1048576) (h3 : n.length ≤ 1048576) : Ev (fun k => impl_IsState.f k a r s n) (pState a r s n) := by
  unfold impl_IsState.f pState
  refine Ev.cast (Ev.now_and (InRange_eq _ _ _) fun _ => Ev.if_and fun _ => Ev.if_and fun _ => Ev.if_and fun _ => Ev.and (allIn_ev r 0 999 h1) fun _ => Ev.and (allIn_ev s 0 999 h2) fun _ => Ev.id (allIn_ev n 0 999 h3)) ?_
  rw [Bool.eq_iff_iff]
  simp only [Bool.and_eq_true, decide_eq_true_eq, beq_iff_eq]
  constructor
  · rintro ⟨a1, a2, a3, a4, a5, a6, a7⟩; exact ⟨a1, ⟨a5, a2⟩, ⟨a6, a3⟩, a7, a4⟩
  · rintro ⟨a1, ⟨a5, a2⟩, ⟨a6, a3⟩, a7, a4⟩; exact ⟨a1, a2, a3, a4, a5, a6, a7⟩
theorem iCan_ev (l : List S121) (a : Int) (r s n : List Int) (h : l.length ≤ 1048576) (h1 : r.length ≤ 1048576) (h2 : s.length ≤ 1048576) (h3 : n.length ≤ 1048576) : Ev (fun k => impl_canStep.f k l a r s n) (pCan l a r s n) := by
  unfold impl_canStep.f pCan
  exact Ev.and (iIsScript_ev l h) fun _ => Ev.and (iIsState_ev a r s n h1 h2 h3) fun _ => Ev.now _
theorem iCopy_eq (a : Int) (r s n : List Int) (h1 : r.length ≤ 1048576) (h2 : s.length ≤ 1048576) (h3 : n.length ≤ 1048576) : impl_copyState.f a r s n = some (a, r, s, n) := by
  simp only [impl_copyState.f, slices_Clone_int_int.f, Option.bind_some, List.nil_append, List.length_nil]
  rw [if_pos (by omega), if_pos (by omega), if_pos (by omega)]
  rfl
theorem iStep_ev (l : List S121) (a : Int) (r s n : List Int) (v : Int) (h : l.length ≤ 1048576) (h1 : r.length ≤ 1048576) (h2 : s.length ≤ 1048576) (h3 : n.length ≤ 1048576) : Ev (fun k => impl_StepState.f k l a r s n v) (pStep l a r s n v) := by
  unfold impl_StepState.f
  refine Ev.now_bind (iCopy_eq a r s n h1 h2 h3) ?_
  refine Ev.bind (iCan_ev l a r s n h h1 h2 h3) ?_
  dsimp only
  unfold pStep
  by_cases c : pCan l a r s n = true
  · obtain ⟨f1, f2, f3, f4, f5, f6, f7, f8, f9, f10, f11⟩ := pCan_facts c
    have ho : pOp (rd_T121 l a) = true := f9 _ (getD_mem l a.toNat (by omega) z121)
    have hr := pOp_reg ho
    refine Ev.rpos c ?_
    refine Ev.pos c ?_
    refine Ev.pos f1 ?_
    refine Ev.pos f2 ?_
    refine Ev.ite (fun c5 => ?_) (fun c5 => ?_)
    · have ha := pOp_5 ho c5
      refine Ev.pos ha.1 ?_
      refine Ev.pos (by omega) ?_
      refine Ev.pos ha.2.2.1 ?_
      refine Ev.pos (by omega) ?_
      refine Ev.pos hr.1 ?_
      refine Ev.pos (by omega) ?_
      exact Ev.now _
    refine Ev.ite (fun c6 => ?_) (fun c6 => ?_)
    · have ha := pOp_6 ho c6
      refine Ev.pos hr.1 ?_
      refine Ev.pos (by omega) ?_
      refine Ev.pos ha.1 ?_
      refine Ev.pos (by omega) ?_
      exact Ev.now _
    refine Ev.ite (fun c7 => ?_) (fun c7 => ?_)
    · refine Ev.pos hr.1 ?_
      refine Ev.pos (by omega) ?_
      exact Ev.ite (fun _ => Ev.now _) (fun _ => Ev.now _)
    refine Ev.ite (fun c8 => ?_) (fun c8 => ?_)
    · have ha := pOp_8 ho c8
      refine Ev.pos ha.1 ?_
      refine Ev.pos (by omega) ?_
      refine Ev.pos hr.1 ?_
      refine Ev.pos (by omega) ?_
      exact Ev.now _
    refine Ev.ite (fun c9 => ?_) (fun c9 => ?_)
    · have ha := pOp_9 ho c9
      refine Ev.pos hr.1 ?_
      refine Ev.pos (by omega) ?_
      refine Ev.pos ha.1 ?_
      refine Ev.pos (by omega) ?_
      exact Ev.now _
    refine Ev.pos hr.1 ?_
    refine Ev.pos (by omega) ?_
    rw [← pClamp_impl v]
    exact Ev.now _
  · refine Ev.rneg c ?_
    exact Ev.neg c (Ev.now _)
theorem FnExactStepState (l0 : List S136) (a1_0 : Int) (l1_1 : List Int) (l1_2 : List Int) (l1_3 : List Int) (a2 : Int) (h0 : (l0.length ≤ maxLen ∧ ∀ e_ ∈ l0, W136 e_)) (h1 : (Lit.int .i64 a1_0).wf = true) (h2 : (l1_1.length ≤ maxLen ∧ ∀ e_ ∈ l1_1, (Lit.int .i64 e_).wf = true)) (h3 : (l1_2.length ≤ maxLen ∧ ∀ e_ ∈ l1_2, (Lit.int .i64 e_).wf = true)) (h4 : (l1_3.length ≤ maxLen ∧ ∀ e_ ∈ l1_3, (Lit.int .i64 e_).wf = true)) (h5 : (Lit.int .i64 a2).wf = true) : ∃ k, laws_FnExactStepState.f k l0 a1_0 l1_1 l1_2 l1_3 a2 = some true := by
  obtain ⟨r0, e0, b0, g0⟩ := szOpS_some l0 1048576 h0.1 (by omega) (by omega)
  refine Ev.rounds ?_
  unfold laws_FnExactStepState.f
  refine Ev.now_bind e0 ?_
  by_cases c0 : r0 < 0
  · exact Ev.pos c0 (Ev.now _)
  have hl := g0 (by omega)
  have hm : (l0.map cvOp).length ≤ 1048576 := by simpa using hl
  obtain ⟨r, e, b, g⟩ := szState_some a1_0 l1_1 l1_2 l1_3 r0 h2.1 h3.1 h4.1 (by omega) (by omega)
  refine Ev.neg c0 ?_
  refine Ev.now_bind e ?_
  by_cases c : r < 0
  · exact Ev.pos c (Ev.now _)
  obtain ⟨g1, g2, g3⟩ := g (by omega)
  have t1 := toState_ev a1_0 l1_1 l1_2 l1_3 g1 g2 g3
  have t2 := toOpS_ev l0 hl
  have s1 := sStep_ev (l0.map cvOp) a1_0 l1_1 l1_2 l1_3 a2 hm g1 g2 g3
  have i1 := iStep_ev (l0.map cvOp) a1_0 l1_1 l1_2 l1_3 a2 hm g1 g2 g3
  have hz := pStep_len (l0.map cvOp) a1_0 l1_1 l1_2 l1_3 a2
  generalize pStep (l0.map cvOp) a1_0 l1_1 l1_2 l1_3 a2 = z at s1 i1 hz
  have z1 : z.2.1.length ≤ 1048576 := by omega
  have z2 : z.2.2.1.length ≤ 1048576 := by omega
  have z3 : z.2.2.2.length ≤ 1048576 := by omega
  have q := eqState_refl z.1 z.2.1 z.2.2.1 z.2.2.2 z1 z2 z3
  have hd := heldState_ev z.1 z.2.1.length z1 z.2.2.1.length z2 z.2.2.2.length z3 1 (by omega) (by omega)
  refine Ev.neg c ?_
  refine Ev.bind t2 ?_
  refine Ev.bind t1 ?_
  refine Ev.bind s1 ?_
  refine Ev.bind t2 ?_
  refine Ev.bind t1 ?_
  refine Ev.bind i1 ?_
  refine Ev.bind q ?_
  refine Ev.pos rfl ?_
  refine Ev.bind t2 ?_
  refine Ev.bind (eqOpS_refl _ hm) ?_
  refine Ev.pos rfl ?_
  refine Ev.bind t1 ?_
  refine Ev.bind (eqState_refl _ _ _ _ g1 g2 g3) ?_
  refine Ev.pos rfl ?_
  refine Ev.bind (markOpS_ev _ 1 hm (by omega) (by omega)) ?_
  refine Ev.bind (markState_ev a1_0 l1_1 l1_2 l1_3 _ g1 g2 g3 (by dsimp only; omega) (by dsimp only; omega)) ?_
  dsimp only
  refine Ev.neg (by omega) ?_
  refine Ev.bind q ?_
  refine Ev.round (fun _ => by rw [laws_FnExactStepState.j0]) ?_
  refine Ev.neg (by simp) ?_
  refine Ev.bind (markState_ev z.1 z.2.1 z.2.2.1 z.2.2.2 1 z1 z2 z3 (by omega) (by omega)) ?_
  refine Ev.bind hd ?_
  dsimp only
  refine Ev.neg (by omega) ?_
  refine Ev.pos rfl ?_
  refine Ev.bind t2 ?_
  refine Ev.bind t1 ?_
  refine Ev.bind i1 ?_
  refine Ev.bind q ?_
  refine Ev.pos rfl ?_
  refine Ev.bind hd ?_
  refine Ev.neg (by omega) ?_
  refine Ev.pos rfl ?_
  exact Ev.now _
end Go.Proofs.Ytgcamebeonodeaa.Pure
