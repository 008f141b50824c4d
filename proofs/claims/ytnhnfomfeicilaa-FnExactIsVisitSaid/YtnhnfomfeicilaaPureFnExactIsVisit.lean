/- The program's IsVisit and the reference's return the same: the site, the tick, the seed and the inputs are asked in the same ways; the argument is as it was. No condition. -/
import Derived.Test.YtnhnfomfeicilaaStdFnExactIsVisit
namespace Go.Proofs.Ytnhnfomfeicilaa.Pure
open Go.RowKit Go.Proofs.Ytnhnfomfeicilaa.MFnExactIsVisit Go.Proofs.YtnhnfomfeicilaaW.PrintWords Go.Proofs.YtnhnfomfeicilaaW.PrintLast Go.Proofs.YtnhnfomfeicilaaW.PrintMore Go.Proofs.Ytnhnfomfeicilaa.Gen
set_option linter.unusedVariables false
set_option linter.unusedSimpArgs false

def W36 (y : S36) : Prop := (Lit.int .i64 y.f0).wf = true ∧ (Lit.int .i64 y.f1).wf = true ∧ (Lit.int .i64 y.f2).wf = true
def W39 (y : S39) : Prop := (Lit.int .i64 y.f0).wf = true ∧ (y.f1.length ≤ maxLen ∧ ∀ e_ ∈ y.f1, (Lit.int .i64 e_).wf = true) ∧ W36 y.f2
def W184 (y : S184) : Prop := W36 y.f0 ∧ (Lit.int .i64 y.f1).wf = true ∧ W39 y.f2
theorem l1In_eq (a b c : Int) : spec_l1In.f a b c = some (decide (b ≤ a) && decide (a ≤ c)) := by
  unfold spec_l1In.f
  by_cases h : b ≤ a <;> simp [h]
theorem sIsAddress_eq (h p q : Int) : spec_IsAddress.f h p q = some (pAddr h p q) := by
  simp only [spec_IsAddress.f, l1In_eq, Option.bind_some, some_and]
theorem l5Bytes_ev (l : List Int) (h : l.length ≤ 1048576) : Ev (fun k => spec_l5Bytes.f k l) (l.all (pIn · 0 255)) := by
  unfold spec_l5Bytes.f
  refine Ev.cast (ev_all (fun k i => spec_l5Bytes.l0 k l i) l 0 (pIn · 0 255) true (fun k => by rw [spec_l5Bytes.l0, if_neg (by omega)]) ?_ ?_) (Bool.and_true _)
  · intro i hi hp r hr
    have e1 : wrap64 ((i : Int) + 1) = ((i + 1 : Nat) : Int) := by rw [w64 (by omega) (by omega)]; omega
    refine Ev.round (fun _ => by rw [spec_l5Bytes.l0]) ?_
    refine Ev.pos (by omega) ?_
    refine Ev.pos (by omega) ?_
    refine Ev.now_bind (l1In_eq _ _ _) ?_
    refine Ev.pos ?_ ?_
    · rw [rd_nat]; exact hp
    · simp only [e1]; exact hr
  · intro i hi hp
    refine Ev.round (fun _ => by rw [spec_l5Bytes.l0]) ?_
    refine Ev.pos (by omega) ?_
    refine Ev.pos (by omega) ?_
    refine Ev.now_bind (l1In_eq _ _ _) ?_
    refine Ev.neg ?_ (Ev.now _)
    rw [rd_nat]; exact ne_true_of_eq_false hp
def pRes (k : Int) (b : List Int) (h p q : Int) : Bool :=
  if k = 1 ∨ k = 2 then decide ((b.length : Int) ≤ 6) && (b.all (pIn · 0 255) && pZero h p q)
  else if k = 3 then decide ((b.length : Int) = 0) && pAddr h p q
  else if k = 4 then decide ((b.length : Int) = 0) && pZero h p q
  else false
theorem sIsResource_ev (k : Int) (b : List Int) (h p q : Int) (hb : b.length ≤ 1048576) : Ev (fun n => spec_IsResource.f n k b h p q) (pRes k b h p q) := by
  have hj : ∀ x : Bool, Ev (fun n => spec_IsResource.j0 n x k b h p q) (!x && (if k = 3 then pAddr h p q && ((b.length : Int) == 0) else (pZero h p q && (if k = 4 then ((b.length : Int) == 0) else true)))) := by
    intro x
    refine Ev.round (fun _ => by rw [spec_IsResource.j0]) ?_
    cases x with
    | true => exact Ev.pos rfl (Ev.now _)
    | false =>
      refine Ev.neg (by simp) ?_
      by_cases h3 : k = 3
      · refine Ev.pos h3 ?_
        simp only [h3, if_true, Bool.not_false, Bool.true_and]
        exact Ev.now_and (sIsAddress_eq _ _ _) fun _ => Ev.now _
      · refine Ev.neg h3 ?_
        simp only [h3, if_false, Bool.not_false, Bool.true_and]
        by_cases hz : pZero h p q = true
        · refine Ev.pos hz ?_
          by_cases h4 : k = 4
          · refine Ev.pos h4 ?_
            exact Ev.cast (Ev.now _) (by simp [h4, hz])
          · refine Ev.neg h4 ?_
            exact Ev.cast (Ev.now _) (by simp [h4, hz])
        · refine Ev.neg hz ?_
          exact Ev.cast (Ev.now _) (by simp [hz])
  unfold spec_IsResource.f
  refine Ev.now_bind (l1In_eq _ _ _) ?_
  by_cases hk : 1 ≤ k ∧ k ≤ 4
  · refine Ev.pos (by simp [hk]) ?_
    refine Ev.bind (l5Bytes_ev b hb) ?_
    have hcases : k = 1 ∨ k = 2 ∨ k = 3 ∨ k = 4 := by omega
    cases hall : b.all (pIn · 0 255) with
    | true =>
      refine Ev.pos rfl ?_
      refine Ev.cast (hj _) ?_
      unfold pRes
      have h6 : decide ((b.length : Int) > 6) = !decide ((b.length : Int) ≤ 6) := by
        by_cases c : (b.length : Int) ≤ 6
        · have : ¬ (b.length : Int) > 6 := by omega
          simp [c, this]
        · have : (b.length : Int) > 6 := by omega
          simp [c, this]
      rw [h6]
      rcases hcases with rfl | rfl | rfl | rfl
      · simp [hall]
      · simp [hall]
      · by_cases c : b.length = 0
        · have hn : b = [] := List.eq_nil_of_length_eq_zero c
          subst hn
          simp
        · simp [c]
      · by_cases c : b.length = 0
        · have hn : b = [] := List.eq_nil_of_length_eq_zero c
          subst hn
          simp
        · simp [c]
    | false =>
      refine Ev.neg (by simp) ?_
      refine Ev.cast (hj true) ?_
      unfold pRes
      have hne : b ≠ [] := by
        rintro rfl
        simp at hall
      have h0 : ¬ b.length = 0 := fun e => hne (List.eq_nil_of_length_eq_zero e)
      rcases hcases with rfl | rfl | rfl | rfl
      · simp [hall]
      · simp [hall]
      · simp [h0]
      · simp [h0]
  · refine Ev.neg (by simp; omega) ?_
    refine Ev.cast (hj true) ?_
    have hp : pRes k b h p q = false := by
      unfold pRes
      rw [if_neg (by omega), if_neg (by omega), if_neg (by omega)]
    rw [hp]
    simp
def pVersion (y : S186) : Bool := pAddr y.f0.f0 y.f0.f1 y.f0.f2 && (pIn y.f1 0 1000 && pRes y.f2.f0 y.f2.f1 y.f2.f2.f0 y.f2.f2.f1 y.f2.f2.f2)
def pIsSite (l : List S186) : Bool := l.all pVersion && decide ((l.length : Int) ≤ 12)
theorem sIsSite_ev (l : List S186) (h : l.length ≤ 1048576) (hf : ∀ y ∈ l, FitimplVersion y) : Ev (fun k => spec_IsSite.f k l) (pIsSite l) := by
  unfold spec_IsSite.f pIsSite
  refine ev_all (fun k i => spec_IsSite.l0 k l i) l z186 pVersion _ (fun k => by rw [spec_IsSite.l0, if_neg (by omega)]) ?_ ?_
  · intro i hi hp r hr
    have e1 : wrap64 ((i : Int) + 1) = ((i + 1 : Nat) : Int) := by rw [w64 (by omega) (by omega)]; omega
    have hp' : pVersion (rd_T186 l (i : Int)) = true := hp
    have hfy : FitimplVersion (rd_T186 l (i : Int)) := hf _ (getD_mem l i hi z186)
    generalize hy : rd_T186 l (i : Int) = y at hp' hfy
    unfold pVersion at hp'
    simp only [Bool.and_eq_true] at hp'
    obtain ⟨p1, p2, p3⟩ := hp'
    refine Ev.round (fun _ => by rw [spec_IsSite.l0]) ?_
    refine Ev.pos (by omega) ?_
    refine Ev.pos (by omega) ?_
    simp only [hy, e1]
    refine Ev.now_bind (sIsAddress_eq _ _ _) ?_
    refine Ev.pos (by simp [p1]) ?_
    refine Ev.now_bind (l1In_eq _ _ _) ?_
    refine Ev.pos (by simp [p2]) ?_
    refine Ev.bind (sIsResource_ev _ _ _ _ _ hfy) ?_
    exact Ev.pos p3 hr
  · intro i hi hp
    have hp' : pVersion (rd_T186 l (i : Int)) = false := hp
    have hfy : FitimplVersion (rd_T186 l (i : Int)) := hf _ (getD_mem l i hi z186)
    generalize hy : rd_T186 l (i : Int) = y at hp' hfy
    unfold pVersion at hp'
    refine Ev.round (fun _ => by rw [spec_IsSite.l0]) ?_
    refine Ev.pos (by omega) ?_
    refine Ev.pos (by omega) ?_
    simp only [hy]
    refine Ev.now_bind (sIsAddress_eq _ _ _) ?_
    cases p1 : pAddr y.f0.f0 y.f0.f1 y.f0.f2 with
    | false => exact Ev.neg (by simp) (Ev.now _)
    | true =>
      rw [p1, Bool.true_and] at hp'
      refine Ev.pos rfl ?_
      refine Ev.now_bind (l1In_eq _ _ _) ?_
      cases p2 : pIn y.f1 0 1000 with
      | false => exact Ev.neg (ne_true_of_eq_false p2) (Ev.now _)
      | true =>
        rw [p2, Bool.true_and] at hp'
        refine Ev.pos p2 ?_
        refine Ev.bind (sIsResource_ev _ _ _ _ _ hfy) ?_
        refine Ev.neg (ne_true_of_eq_false hp') ?_
        exact Ev.now _
theorem l11All_ev (l : List Int) (n : Int) (h : l.length ≤ 1048576) : Ev (fun k => spec_l11All.f k l n) (l.all (pIn · 0 999) && ((l.length : Int) == n)) := by
  unfold spec_l11All.f
  refine ev_all (fun k i => spec_l11All.l0 k l n i) l 0 (pIn · 0 999) _ (fun k => by rw [spec_l11All.l0, if_neg (by omega)]) ?_ ?_
  · intro i hi hp r hr
    have e1 : wrap64 ((i : Int) + 1) = ((i + 1 : Nat) : Int) := by rw [w64 (by omega) (by omega)]; omega
    refine Ev.round (fun _ => by rw [spec_l11All.l0]) ?_
    refine Ev.pos (by omega) ?_
    refine Ev.pos (by omega) ?_
    refine Ev.now_bind (l1In_eq _ _ _) ?_
    refine Ev.pos ?_ ?_
    · rw [rd_nat]; exact hp
    · simp only [e1]; exact hr
  · intro i hi hp
    refine Ev.round (fun _ => by rw [spec_l11All.l0]) ?_
    refine Ev.pos (by omega) ?_
    refine Ev.pos (by omega) ?_
    refine Ev.now_bind (l1In_eq _ _ _) ?_
    refine Ev.neg ?_ (Ev.now _)
    rw [rd_nat]; exact ne_true_of_eq_false hp
def pVisit (s : List S186) (t sd : Int) (i : List Int) : Bool := pIsSite s && (pIn t 0 1000 && (pIn sd 0 9999 && (decide ((i.length : Int) ≤ 8) && i.all (pIn · 0 999))))
theorem sIsVisit_ev (s : List S186) (t sd : Int) (i : List Int) (h : s.length ≤ 1048576) (hf : ∀ y ∈ s, FitimplVersion y) (hi : i.length ≤ 1048576) : Ev (fun k => spec_IsVisit.f k s t sd i) (pVisit s t sd i) := by
  unfold spec_IsVisit.f pVisit
  refine Ev.and (sIsSite_ev s h hf) fun _ => Ev.now_and (l1In_eq _ _ _) fun _ => Ev.now_and (l1In_eq _ _ _) fun _ => Ev.if_and fun _ => ?_
  exact Ev.cast (Ev.id (l11All_ev i _ hi)) (by simp)
theorem InRange_eq (a b c : Int) : impl_InRange.f a b c = some (decide (b ≤ a) && decide (a ≤ c)) := by
  unfold impl_InRange.f
  by_cases h : b ≤ a <;> simp [h]
theorem iIsAddress_eq (h p q : Int) : impl_IsAddress.f h p q = some (pAddr h p q) := by
  simp only [impl_IsAddress.f, InRange_eq, Option.bind_some, some_and]
theorem allIn_ev (l : List Int) (a b : Int) (h : l.length ≤ 1048576) : Ev (fun k => impl_allIn.f k l a b) (l.all (pIn · a b)) := by
  unfold impl_allIn.f
  refine Ev.cast (ev_all (fun k i => impl_allIn.l0 k a b l (l.length : Int) i) l 0 (pIn · a b) true (fun k => by rw [impl_allIn.l0, if_neg (by omega)]) ?_ ?_) (Bool.and_true _)
  · intro i hi hp r hr
    have e1 : wrap64 ((i : Int) + 1) = ((i + 1 : Nat) : Int) := by rw [w64 (by omega) (by omega)]; omega
    refine Ev.round (fun _ => by rw [impl_allIn.l0]) ?_
    refine Ev.pos (by omega) ?_
    refine Ev.pos (by omega) ?_
    refine Ev.pos (by omega) ?_
    refine Ev.now_bind (InRange_eq _ _ _) ?_
    refine Ev.pos ?_ ?_
    · rw [rd_nat]; exact hp
    · simp only [e1]; exact hr
  · intro i hi hp
    refine Ev.round (fun _ => by rw [impl_allIn.l0]) ?_
    refine Ev.pos (by omega) ?_
    refine Ev.pos (by omega) ?_
    refine Ev.pos (by omega) ?_
    refine Ev.now_bind (InRange_eq _ _ _) ?_
    refine Ev.neg ?_ (Ev.now _)
    rw [rd_nat]; exact ne_true_of_eq_false hp
theorem iIsResource_ev (k : Int) (b : List Int) (h p q : Int) (hb : b.length ≤ 1048576) : Ev (fun n => impl_IsResource.f n k b h p q) (pRes k b h p q) := by
  have hj : ∀ x : Bool, (x = true ↔ k = 1 ∨ k = 2) → Ev (fun n => impl_IsResource.j0 n k x k b h p q) (pRes k b h p q) := by
    intro x hx
    refine Ev.round (fun _ => by rw [impl_IsResource.j0]) ?_
    unfold pRes
    cases x with
    | true =>
      refine Ev.rpos (hx.1 rfl) ?_
      refine Ev.pos rfl ?_
      exact Ev.if_and fun _ => Ev.and (allIn_ev b 0 255 hb) fun _ => Ev.now _
    | false =>
      have hno : ¬ (k = 1 ∨ k = 2) := fun c => by simpa using hx.2 c
      refine Ev.rneg hno ?_
      refine Ev.neg (by simp) ?_
      by_cases h3 : k = 3
      · refine Ev.rpos h3 ?_
        refine Ev.pos h3 ?_
        exact Ev.if_and fun _ => Ev.now_bind (iIsAddress_eq _ _ _) (Ev.now _)
      · refine Ev.rneg h3 ?_
        refine Ev.neg h3 ?_
        by_cases h4 : k = 4
        · refine Ev.rpos h4 ?_
          refine Ev.pos h4 ?_
          exact Ev.if_and fun _ => Ev.now _
        · refine Ev.rneg h4 ?_
          refine Ev.neg h4 ?_
          exact Ev.now _
  unfold impl_IsResource.f
  by_cases h1 : k = 1
  · refine Ev.pos h1 (hj _ ?_)
    simp [h1]
  · refine Ev.neg h1 (hj _ ?_)
    simp [h1]
theorem iIsSiteLit_ev (y : S186) (hf : FitimplVersion y) : Ev (fun k => impl_IsSite_lit1.f k y.f0.f0 y.f0.f1 y.f0.f2 y.f1 y.f2.f0 y.f2.f1 y.f2.f2.f0 y.f2.f2.f1 y.f2.f2.f2) (!pVersion y) := by
  unfold impl_IsSite_lit1.f pVersion
  refine Ev.now_bind (iIsAddress_eq _ _ _) ?_
  cases p1 : pAddr y.f0.f0 y.f0.f1 y.f0.f2 with
  | false => exact Ev.neg (by simp) (Ev.now _)
  | true =>
    refine Ev.pos rfl ?_
    refine Ev.now_bind (InRange_eq _ _ _) ?_
    cases p2 : pIn y.f1 0 1000 with
    | false => exact Ev.neg (ne_true_of_eq_false p2) (Ev.now _)
    | true =>
      refine Ev.pos p2 ?_
      rw [Bool.true_and, Bool.true_and]
      exact Ev.no (iIsResource_ev _ _ _ _ _ hf)
theorem iIsSite_ev (l : List S186) (h : l.length ≤ 1048576) (hf : ∀ y ∈ l, FitimplVersion y) : Ev (fun k => impl_IsSite.f k l) (pIsSite l) := by
  unfold impl_IsSite.f pIsSite
  rw [Bool.and_comm]
  refine Ev.if_and fun _ => ?_
  rw [← any_not]
  refine Ev.no ?_
  unfold slices_ContainsFunc_151.f
  have hf : ∃ r : Int, Ev (fun k => slices_IndexFunc_151.l0 k l (l.length : Int) 0) r ∧ decide (r ≥ 0) = l.any (fun y => !pVersion y) := by
    refine ev_find (fun k i => slices_IndexFunc_151.l0 k l (l.length : Int) i) l z186 (fun y => !pVersion y) (fun k => by rw [slices_IndexFunc_151.l0, if_neg (by omega)]) ?_ ?_
    · intro i hi hp
      refine Ev.round (fun _ => by rw [slices_IndexFunc_151.l0]) ?_
      refine Ev.pos (by omega) ?_
      refine Ev.pos (by omega) ?_
      refine Ev.pos (by omega) ?_
      refine Ev.bind (iIsSiteLit_ev (rd_T186 l (i : Int)) (hf _ (getD_mem l i hi z186))) ?_
      refine Ev.pos hp ?_
      exact Ev.now _
    · intro i hi hp r hr
      have e1 : wrap64 ((i : Int) + 1) = ((i + 1 : Nat) : Int) := by rw [w64 (by omega) (by omega)]; omega
      refine Ev.round (fun _ => by rw [slices_IndexFunc_151.l0]) ?_
      refine Ev.pos (by omega) ?_
      refine Ev.pos (by omega) ?_
      refine Ev.pos (by omega) ?_
      refine Ev.bind (iIsSiteLit_ev (rd_T186 l (i : Int)) (hf _ (getD_mem l i hi z186))) ?_
      refine Ev.neg (ne_true_of_eq_false hp) ?_
      simp only [e1]
      exact hr
  obtain ⟨r, hr, hd⟩ := hf
  rw [← hd]
  exact Ev.bind hr (Ev.now _)
theorem iIsVisit_ev (s : List S186) (t sd : Int) (i : List Int) (h : s.length ≤ 1048576) (hf : ∀ y ∈ s, FitimplVersion y) (hi : i.length ≤ 1048576) : Ev (fun k => impl_IsVisit.f k s t sd i) (pVisit s t sd i) := by
  unfold impl_IsVisit.f pVisit
  exact Ev.and (iIsSite_ev s h hf) fun _ => Ev.now_and (InRange_eq _ _ _) fun _ => Ev.now_and (InRange_eq _ _ _) fun _ => Ev.if_and fun _ => Ev.id (allIn_ev i 0 999 hi)
theorem FnExactIsVisit (l0_0 : List S184) (a0_1 : Int) (a0_2 : Int) (l0_3 : List Int) (h0 : (l0_0.length ≤ maxLen ∧ ∀ e_ ∈ l0_0, W184 e_)) (h1 : (Lit.int .i64 a0_1).wf = true) (h2 : (Lit.int .i64 a0_2).wf = true) (h3 : (l0_3.length ≤ maxLen ∧ ∀ e_ ∈ l0_3, (Lit.int .i64 e_).wf = true)) : ∃ k, laws_FnExactIsVisit.f k l0_0 a0_1 a0_2 l0_3 = some true := by
  obtain ⟨r, e, b, g⟩ := szVisit_some l0_0 a0_1 a0_2 l0_3 1048576 ⟨h0.1, fun y hy => (h0.2 y hy).2.2.2.1.1⟩ h3.1 (by omega) (by omega)
  refine Ev.rounds ?_
  unfold laws_FnExactIsVisit.f
  refine Ev.bind e ?_
  by_cases c : r < 0
  · exact Ev.pos c (Ev.now _)
  obtain ⟨⟨hl, hy⟩, hi⟩ := g (by omega)
  have hm : (l0_0.map cvVersion).length ≤ 1048576 := by simpa using hl
  have hf : ∀ y ∈ l0_0.map cvVersion, FitimplVersion y := by
    intro y h
    obtain ⟨z, hz, rfl⟩ := List.mem_map.1 h
    exact hy z hz
  have t := toVisit_ev l0_0 a0_1 a0_2 l0_3 ⟨hl, hy⟩ hi
  refine Ev.neg c ?_
  refine Ev.bind t ?_
  refine Ev.bind (sIsVisit_ev _ _ _ _ hm hf hi) ?_
  refine Ev.bind t ?_
  refine Ev.bind (iIsVisit_ev _ _ _ _ hm hf hi) ?_
  refine Ev.neg (by simp) ?_
  refine Ev.bind t ?_
  refine Ev.bind (eqVisit_refl _ _ _ _ ⟨hm, hf⟩ hi) ?_
  refine Ev.pos rfl ?_
  exact Ev.now _
end Go.Proofs.Ytnhnfomfeicilaa.Pure
