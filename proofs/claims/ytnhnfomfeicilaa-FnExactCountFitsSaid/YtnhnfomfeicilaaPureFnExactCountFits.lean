/- The program's CountFits and the reference's return the same count: each capture fits in the same cases; the arguments are as they were. No condition. -/
import Derived.Test.YtnhnfomfeicilaaStdFnExactCountFits
namespace Go.Proofs.Ytnhnfomfeicilaa.Pure
open Go.RowKit Go.Proofs.Ytnhnfomfeicilaa.MFnExactCountFits Go.Proofs.YtnhnfomfeicilaaW.PrintWords Go.Proofs.YtnhnfomfeicilaaW.PrintLast Go.Proofs.YtnhnfomfeicilaaW.PrintMore Go.Proofs.Ytnhnfomfeicilaa.Gen
set_option linter.unusedVariables false
set_option linter.unusedSimpArgs false

def W36 (y : S36) : Prop := (Lit.int .i64 y.f0).wf = true ∧ (Lit.int .i64 y.f1).wf = true ∧ (Lit.int .i64 y.f2).wf = true
def W39 (y : S39) : Prop := (Lit.int .i64 y.f0).wf = true ∧ (y.f1.length ≤ maxLen ∧ ∀ e_ ∈ y.f1, (Lit.int .i64 e_).wf = true) ∧ W36 y.f2
def W41 (y : S41) : Prop := W36 y.f0 ∧ (Lit.int .i64 y.f1).wf = true ∧ W39 y.f2
theorem l1In_eq (a b c : Int) : spec_l1In.f a b c = some (decide (b ≤ a) && decide (a ≤ c)) := by
  unfold spec_l1In.f
  by_cases h : b ≤ a <;> simp [h]
theorem sIsAddress_eq (h p q : Int) : spec_IsAddress.f h p q = some (pAddr h p q) := by
  simp only [spec_IsAddress.f, l1In_eq, Option.bind_some, some_and]
theorem l5Bytes_ev (l : List Int) (h : l.length ≤ 1048576) : Ev (fun k => spec_l5Bytes.f k l) (l.all (pIn · 0 255)) := by
  unfold spec_l5Bytes.f
  refine Ev.cast (ev_all (fun k i => spec_l5Bytes.l0 k l i) l 0 (pIn · 0 255) true (fun k => by rw [spec_l5Bytes.l0, if_neg (by omega)]) ?_ ?_) (Bool.and_true _)
  · intro i hi hp r hr
    have e1 : wrap64 ((i : Int) + 1) = ((i + 1 : Nat) : Int) := by rw [w64 (by omega) (by omega)]; omega
    refine Ev.round (fun _ => by rw [spec_l5Bytes.l0]) ?_
    refine Ev.pos (by omega) ?_
    refine Ev.pos (by omega) ?_
    refine Ev.now_bind (l1In_eq _ _ _) ?_
    refine Ev.pos ?_ ?_
    · rw [rd_nat]; exact hp
    · simp only [e1]; exact hr
  · intro i hi hp
    refine Ev.round (fun _ => by rw [spec_l5Bytes.l0]) ?_
    refine Ev.pos (by omega) ?_
    refine Ev.pos (by omega) ?_
    refine Ev.now_bind (l1In_eq _ _ _) ?_
    refine Ev.neg ?_ (Ev.now _)
    rw [rd_nat]; exact ne_true_of_eq_false hp
def pRes (k : Int) (b : List Int) (h p q : Int) : Bool :=
  if k = 1 ∨ k = 2 then decide ((b.length : Int) ≤ 6) && (b.all (pIn · 0 255) && pZero h p q)
  else if k = 3 then decide ((b.length : Int) = 0) && pAddr h p q
  else if k = 4 then decide ((b.length : Int) = 0) && pZero h p q
  else false
theorem sIsResource_ev (k : Int) (b : List Int) (h p q : Int) (hb : b.length ≤ 1048576) : Ev (fun n => spec_IsResource.f n k b h p q) (pRes k b h p q) := by
  have hj : ∀ x : Bool, Ev (fun n => spec_IsResource.j0 n x k b h p q) (!x && (if k = 3 then pAddr h p q && ((b.length : Int) == 0) else (pZero h p q && (if k = 4 then ((b.length : Int) == 0) else true)))) := by
    intro x
    refine Ev.round (fun _ => by rw [spec_IsResource.j0]) ?_
    cases x with
    | true => exact Ev.pos rfl (Ev.now _)
    | false =>
      refine Ev.neg (by simp) ?_
      by_cases h3 : k = 3
      · refine Ev.pos h3 ?_
        simp only [h3, if_true, Bool.not_false, Bool.true_and]
        exact Ev.now_and (sIsAddress_eq _ _ _) fun _ => Ev.now _
      · refine Ev.neg h3 ?_
        simp only [h3, if_false, Bool.not_false, Bool.true_and]
        by_cases hz : pZero h p q = true
        · refine Ev.pos hz ?_
          by_cases h4 : k = 4
          · refine Ev.pos h4 ?_
            exact Ev.cast (Ev.now _) (by simp [h4, hz])
          · refine Ev.neg h4 ?_
            exact Ev.cast (Ev.now _) (by simp [h4, hz])
        · refine Ev.neg hz ?_
          exact Ev.cast (Ev.now _) (by simp [hz])
  unfold spec_IsResource.f
  refine Ev.now_bind (l1In_eq _ _ _) ?_
  by_cases hk : 1 ≤ k ∧ k ≤ 4
  · refine Ev.pos (by simp [hk]) ?_
    refine Ev.bind (l5Bytes_ev b hb) ?_
    have hcases : k = 1 ∨ k = 2 ∨ k = 3 ∨ k = 4 := by omega
    cases hall : b.all (pIn · 0 255) with
    | true =>
      refine Ev.pos rfl ?_
      refine Ev.cast (hj _) ?_
      unfold pRes
      have h6 : decide ((b.length : Int) > 6) = !decide ((b.length : Int) ≤ 6) := by
        by_cases c : (b.length : Int) ≤ 6
        · have : ¬ (b.length : Int) > 6 := by omega
          simp [c, this]
        · have : (b.length : Int) > 6 := by omega
          simp [c, this]
      rw [h6]
      rcases hcases with rfl | rfl | rfl | rfl
      · simp [hall]
      · simp [hall]
      · by_cases c : b.length = 0
        · have hn : b = [] := List.eq_nil_of_length_eq_zero c
          subst hn
          simp
        · simp [c]
      · by_cases c : b.length = 0
        · have hn : b = [] := List.eq_nil_of_length_eq_zero c
          subst hn
          simp
        · simp [c]
    | false =>
      refine Ev.neg (by simp) ?_
      refine Ev.cast (hj true) ?_
      unfold pRes
      have hne : b ≠ [] := by
        rintro rfl
        simp at hall
      have h0 : ¬ b.length = 0 := fun e => hne (List.eq_nil_of_length_eq_zero e)
      rcases hcases with rfl | rfl | rfl | rfl
      · simp [hall]
      · simp [hall]
      · simp [h0]
      · simp [h0]
  · refine Ev.neg (by simp; omega) ?_
    refine Ev.cast (hj true) ?_
    have hp : pRes k b h p q = false := by
      unfold pRes
      rw [if_neg (by omega), if_neg (by omega), if_neg (by omega)]
    rw [hp]
    simp
theorem sMin_eq (a b : Int) : spec_Min.f a b = some (if b < a then b else a) := by
  unfold spec_Min.f
  split <;> rfl
def pSum (b : List Int) : Int := b.foldl (fun x y => x + y) 0
def pVal (k : Int) (b : List Int) (h p q : Int) : Int :=
  if pRes k b h p q = true ∧ (k = 1 ∨ k = 2) then (if pSum b % 1000 < 999 then pSum b % 1000 + 1 else 999) else 0
theorem fold_mod (b : List Int) : ∀ x : Int, b.foldl (fun x y => (x + y) % 1000) (x % 1000) = (b.foldl (fun x y => x + y) x) % 1000 := by
  induction b with
  | nil => intro x; rfl
  | cons y b ih =>
    intro x
    rw [List.foldl_cons, List.foldl_cons, ← ih (x + y)]
    congr 1
    omega
theorem pRes_body {k : Int} {b : List Int} {h p q : Int} (hr : pRes k b h p q = true) (hk : k = 1 ∨ k = 2) : b.length ≤ 6 ∧ ∀ y ∈ b, 0 ≤ y ∧ y ≤ 255 := by
  unfold pRes at hr
  rw [if_pos hk] at hr
  simp only [Bool.and_eq_true, decide_eq_true_eq, List.all_eq_true] at hr
  exact ⟨by omega, fun y hy => hr.2.1 y hy⟩
theorem sValue_ev (k : Int) (b : List Int) (h p q : Int) (hb : b.length ≤ 1048576) : Ev (fun n => spec_ValueOfResource.f n k b h p q) (pVal k b h p q) := by
  have hj1 : Ev (fun n => spec_ValueOfResource.j0 n true k b h p q) 0 := by
    refine Ev.round (fun _ => by rw [spec_ValueOfResource.j0]) ?_
    refine Ev.pos rfl ?_
    exact Ev.now _
  unfold spec_ValueOfResource.f pVal
  refine Ev.bind (sIsResource_ev k b h p q hb) ?_
  cases hr : pRes k b h p q with
  | false =>
    refine Ev.neg (by simp) ?_
    exact Ev.cast hj1 (by simp)
  | true =>
    refine Ev.pos rfl ?_
    by_cases hk : k = 1 ∨ k = 2
    · rw [if_pos ⟨rfl, hk⟩, decide_eq_false (show ¬ k > 2 by omega)]
      obtain ⟨hl, hy⟩ := pRes_body hr hk
      refine Ev.round (fun _ => by rw [spec_ValueOfResource.j0]) ?_
      refine Ev.neg (by simp) ?_
      have hf := fold_mod b 0
      have main := ev_foldl (fun n x i => spec_ValueOfResource.l0 n x i k b h p q) b 0 (fun x y => (x + y) % 1000) (fun x => if x < 999 then x + 1 else 999) (fun _ x => 0 ≤ x ∧ x < 1000) 0 ⟨by omega, by omega⟩ ?_ ?_
      · rw [show (0 : Int) = 0 % 1000 from rfl, hf] at main
        exact main
      · intro x hx
        refine Ev.round (fun _ => by rw [spec_ValueOfResource.l0]) ?_
        refine Ev.neg (by omega) ?_
        refine Ev.now_bind (sMin_eq _ _) ?_
        rw [w64 (by omega) (by omega)]
        refine Ev.cast (Ev.now _) ?_
        by_cases c : x < 999
        · rw [if_pos c]
          split <;> omega
        · rw [if_neg c, if_neg (by omega)]
      · intro i x hi hx
        have e1 : wrap64 ((i : Int) + 1) = ((i + 1 : Nat) : Int) := by rw [w64 (by omega) (by omega)]; omega
        have hv := hy _ (getD_mem b i hi 0)
        refine ⟨⟨by omega, by omega⟩, fun r hr2 => ?_⟩
        refine Ev.round (fun _ => by rw [spec_ValueOfResource.l0]) ?_
        refine Ev.pos (by omega) ?_
        refine Ev.pos (by omega) ?_
        have e2 : Int.tmod (wrap64 (x + rd b (i : Int))) 1000 = (x + b.getD i 0) % 1000 := by
          rw [rd_nat, w64 (by omega) (by omega), Int.tmod_eq_emod_of_nonneg (by omega)]
        simp only [e1, e2]
        exact hr2
    · rw [if_neg (fun c => hk c.2)]
      have h34 : k > 2 := by
        unfold pRes at hr
        rw [if_neg hk] at hr
        by_cases h3 : k = 3
        · omega
        · rw [if_neg h3] at hr
          by_cases h4 : k = 4
          · omega
          · rw [if_neg h4] at hr
            simp at hr
      rw [decide_eq_true h34]
      exact hj1
def pFits (m0 m1 aq k : Int) (b : List Int) (h p z : Int) : Bool :=
  pIn m0 0 999 && (pIn m1 0 999 && ((pRes k b h p z && decide (k ≤ 2)) && (pIn aq 0 99 && (pVal k b h p z == (m0 + m1 * aq) % 1000))))
theorem says_bound {m0 m1 q : Int} (a : pIn m0 0 999 = true) (b : pIn m1 0 999 = true) (c : pIn q 0 99 = true) : 0 ≤ m1 * q ∧ m1 * q ≤ 98901 ∧ 0 ≤ m0 ∧ m0 ≤ 999 := by
  simp only [pIn, Bool.and_eq_true, decide_eq_true_eq] at a b c
  have p0 : 0 ≤ m1 * q := Int.mul_nonneg b.1 c.1
  have p1 : m1 * q ≤ 999 * 99 := Int.mul_le_mul b.2 c.2 c.1 (by omega)
  omega
theorem pRes_kind {k : Int} {b : List Int} {h p q : Int} (hr : pRes k b h p q = true) : 1 ≤ k ∧ k ≤ 4 := by
  unfold pRes at hr
  by_cases h1 : k = 1 ∨ k = 2
  · omega
  rw [if_neg h1] at hr
  by_cases h3 : k = 3
  · omega
  rw [if_neg h3] at hr
  by_cases h4 : k = 4
  · omega
  rw [if_neg h4] at hr
  simp at hr
theorem sFits_ev (m0 m1 m2 : Int) (m3 : Bool) (c0 c1 aq ct k : Int) (b : List Int) (h p z : Int) (hf : b.length ≤ 1048576) : Ev (fun n => spec_FitsForm.f n m0 m1 m2 m3 c0 c1 aq ct k b h p z) (pFits m0 m1 aq k b h p z) := by
  unfold spec_FitsForm.f spec_l19Kind.f pFits
  refine Ev.now_and (l1In_eq _ _ _) fun h0 => Ev.now_and (l1In_eq _ _ _) fun h1 => Ev.and (Ev.and (sIsResource_ev _ _ _ _ _ hf) fun _ => Ev.now _) fun _ => Ev.now_and (l1In_eq _ _ _) fun h2 => Ev.bind (sValue_ev _ _ _ _ _ hf) ?_
  obtain ⟨b0, b1, b2, b3⟩ := says_bound h0 h1 h2
  have e1 : wrap64 (m1 * aq) = m1 * aq := w64 (by omega) (by omega)
  have e2 : wrap64 (m0 + m1 * aq) = m0 + m1 * aq := w64 (by omega) (by omega)
  have e3 : Int.tmod (m0 + m1 * aq) 1000 = (m0 + m1 * aq) % 1000 := Int.tmod_eq_emod_of_nonneg (by omega)
  rw [e1, e2, e3]
  exact Ev.now _
def stepFits (m0 m1 a b : Int) (n : Int) (y : S50) : Int := if (y.f0.f0 = a ∧ y.f0.f1 = b) ∧ pFits m0 m1 y.f0.f2 y.f2.f0 y.f2.f1 y.f2.f2.f0 y.f2.f2.f1 y.f2.f2.f2 = true then n + 1 else n
def pCountFits (m0 m1 a b : Int) (l : List S50) : Int := l.foldl (stepFits m0 m1 a b) 0
theorem stepFits_cases (m0 m1 a b n : Int) (y : S50) : stepFits m0 m1 a b n y = n ∨ stepFits m0 m1 a b n y = n + 1 := by
  unfold stepFits
  split
  · exact Or.inr rfl
  · exact Or.inl rfl
theorem sCountFits_ev (m0 m1 m2 : Int) (m3 : Bool) (l : List S50) (a b c : Int) (h : l.length ≤ 1048576) (hf : ∀ y ∈ l, FitimplCapture y) : Ev (fun k => spec_CountFits.f k m0 m1 m2 m3 l a b c) (pCountFits m0 m1 a b l) := by
  unfold spec_CountFits.f
  refine ev_foldl (fun k x i => spec_CountFits.l0 k l x i m0 m1 m2 m3 a b c) l z50 (stepFits m0 m1 a b) (fun x => x) (fun i x => 0 ≤ x ∧ x ≤ (i : Int)) 0 ⟨by omega, by omega⟩ ?_ ?_
  · intro x hx
    refine Ev.round (fun _ => by rw [spec_CountFits.l0]) ?_
    refine Ev.neg (by omega) ?_
    exact Ev.now _
  · intro i x hi hx
    have e1 : wrap64 ((i : Int) + 1) = ((i + 1 : Nat) : Int) := by rw [w64 (by omega) (by omega)]; omega
    have hs := stepFits_cases m0 m1 a b x (l.getD i z50)
    refine ⟨by rcases hs with hs | hs <;> rw [hs] <;> omega, fun r hr => ?_⟩
    have hr' : Ev (fun k => spec_CountFits.l0 k l (stepFits m0 m1 a b x (rd_T50 l (i : Int))) ((i + 1 : Nat) : Int) m0 m1 m2 m3 a b c) r := hr
    have hfy : FitimplCapture (rd_T50 l (i : Int)) := hf _ (getD_mem l i hi z50)
    generalize hy : rd_T50 l (i : Int) = y at hr' hfy
    unfold stepFits at hr'
    refine Ev.round (fun _ => by rw [spec_CountFits.l0]) ?_
    refine Ev.pos (by omega) ?_
    refine Ev.pos (by omega) ?_
    simp only [hy, e1]
    refine Ev.now_bind rfl ?_
    refine Ev.now_bind rfl ?_
    by_cases hm : y.f0.f0 = a ∧ y.f0.f1 = b
    · refine Ev.pos (by simp [hm]) ?_
      refine Ev.bind (sFits_ev m0 m1 m2 m3 _ _ _ _ _ _ _ _ _ hfy) ?_
      cases hp : pFits m0 m1 y.f0.f2 y.f2.f0 y.f2.f1 y.f2.f2.f0 y.f2.f2.f1 y.f2.f2.f2 with
      | true =>
        rw [if_pos ⟨hm, hp⟩] at hr'
        refine Ev.pos rfl ?_
        rw [w64 (by omega) (by omega)]
        exact hr'
      | false =>
        rw [if_neg (fun c => by simp [hp] at c)] at hr'
        exact Ev.neg (by simp) hr'
    · rw [if_neg (fun c => hm c.1)] at hr'
      exact Ev.neg (by simpa using fun h1 h2 => hm ⟨h1, h2⟩) hr'
theorem InRange_eq (a b c : Int) : impl_InRange.f a b c = some (decide (b ≤ a) && decide (a ≤ c)) := by
  unfold impl_InRange.f
  by_cases h : b ≤ a <;> simp [h]
theorem iIsAddress_eq (h p q : Int) : impl_IsAddress.f h p q = some (pAddr h p q) := by
  simp only [impl_IsAddress.f, InRange_eq, Option.bind_some, some_and]
theorem allIn_ev (l : List Int) (a b : Int) (h : l.length ≤ 1048576) : Ev (fun k => impl_allIn.f k l a b) (l.all (pIn · a b)) := by
  unfold impl_allIn.f
  refine Ev.cast (ev_all (fun k i => impl_allIn.l0 k a b l (l.length : Int) i) l 0 (pIn · a b) true (fun k => by rw [impl_allIn.l0, if_neg (by omega)]) ?_ ?_) (Bool.and_true _)
  · intro i hi hp r hr
    have e1 : wrap64 ((i : Int) + 1) = ((i + 1 : Nat) : Int) := by rw [w64 (by omega) (by omega)]; omega
    refine Ev.round (fun _ => by rw [impl_allIn.l0]) ?_
    refine Ev.pos (by omega) ?_
    refine Ev.pos (by omega) ?_
    refine Ev.pos (by omega) ?_
    refine Ev.now_bind (InRange_eq _ _ _) ?_
    refine Ev.pos ?_ ?_
    · rw [rd_nat]; exact hp
    · simp only [e1]; exact hr
  · intro i hi hp
    refine Ev.round (fun _ => by rw [impl_allIn.l0]) ?_
    refine Ev.pos (by omega) ?_
    refine Ev.pos (by omega) ?_
    refine Ev.pos (by omega) ?_
    refine Ev.now_bind (InRange_eq _ _ _) ?_
    refine Ev.neg ?_ (Ev.now _)
    rw [rd_nat]; exact ne_true_of_eq_false hp
theorem iIsResource_ev (k : Int) (b : List Int) (h p q : Int) (hb : b.length ≤ 1048576) : Ev (fun n => impl_IsResource.f n k b h p q) (pRes k b h p q) := by
  have hj : ∀ x : Bool, (x = true ↔ k = 1 ∨ k = 2) → Ev (fun n => impl_IsResource.j0 n k x k b h p q) (pRes k b h p q) := by
    intro x hx
    refine Ev.round (fun _ => by rw [impl_IsResource.j0]) ?_
    unfold pRes
    cases x with
    | true =>
      refine Ev.rpos (hx.1 rfl) ?_
      refine Ev.pos rfl ?_
      exact Ev.if_and fun _ => Ev.and (allIn_ev b 0 255 hb) fun _ => Ev.now _
    | false =>
      have hno : ¬ (k = 1 ∨ k = 2) := fun c => by simpa using hx.2 c
      refine Ev.rneg hno ?_
      refine Ev.neg (by simp) ?_
      by_cases h3 : k = 3
      · refine Ev.rpos h3 ?_
        refine Ev.pos h3 ?_
        exact Ev.if_and fun _ => Ev.now_bind (iIsAddress_eq _ _ _) (Ev.now _)
      · refine Ev.rneg h3 ?_
        refine Ev.neg h3 ?_
        by_cases h4 : k = 4
        · refine Ev.rpos h4 ?_
          refine Ev.pos h4 ?_
          exact Ev.if_and fun _ => Ev.now _
        · refine Ev.rneg h4 ?_
          refine Ev.neg h4 ?_
          exact Ev.now _
  unfold impl_IsResource.f
  by_cases h1 : k = 1
  · refine Ev.pos h1 (hj _ ?_)
    simp [h1]
  · refine Ev.neg h1 (hj _ ?_)
    simp [h1]
theorem hasBody_eq (k : Int) : impl_hasBody.f k = some (decide (k = 1 ∨ k = 2)) := by
  unfold impl_hasBody.f
  by_cases h : k = 1
  · simp [h]
  · by_cases h2 : k = 2
    · simp [h2]
    · simp [h, h2]
theorem iValue_ev (k : Int) (b : List Int) (h p q : Int) (hb : b.length ≤ 1048576) : Ev (fun n => impl_ValueOfResource.f n k b h p q) (pVal k b h p q) := by
  have hj1 : Ev (fun n => impl_ValueOfResource.j0 n true k b h p q) 0 := by
    refine Ev.round (fun _ => by rw [impl_ValueOfResource.j0]) ?_
    refine Ev.pos rfl ?_
    exact Ev.now _
  unfold impl_ValueOfResource.f pVal
  refine Ev.bind (iIsResource_ev k b h p q hb) ?_
  cases hr : pRes k b h p q with
  | false =>
    refine Ev.neg (by simp) ?_
    exact Ev.cast hj1 (by simp)
  | true =>
    refine Ev.pos rfl ?_
    refine Ev.now_bind (hasBody_eq k) ?_
    by_cases hk : k = 1 ∨ k = 2
    · rw [if_pos ⟨rfl, hk⟩, decide_eq_true hk]
      obtain ⟨hl, hy⟩ := pRes_body hr hk
      refine Ev.round (fun _ => by rw [impl_ValueOfResource.j0]) ?_
      refine Ev.neg (by simp) ?_
      refine ev_foldl (fun n x i => impl_ValueOfResource.l0 n x b (b.length : Int) i) b 0 (fun x y => x + y) (fun x => if x % 1000 < 999 then x % 1000 + 1 else 999) (fun i x => 0 ≤ x ∧ x ≤ 255 * (i : Int)) 0 ⟨by omega, by omega⟩ ?_ ?_
      · intro x hx
        have e2 : Int.tmod x 1000 = x % 1000 := Int.tmod_eq_emod_of_nonneg (by omega)
        refine Ev.round (fun _ => by rw [impl_ValueOfResource.l0]) ?_
        refine Ev.neg (by omega) ?_
        simp only [e2]
        by_cases c : x % 1000 < 999
        · refine Ev.rpos c ?_
          refine Ev.pos c ?_
          rw [w64 (by omega) (by omega)]
          exact Ev.now _
        · refine Ev.rneg c ?_
          refine Ev.neg c ?_
          exact Ev.cast (Ev.now _) (by omega)
      · intro i x hi hx
        have e1 : wrap64 ((i : Int) + 1) = ((i + 1 : Nat) : Int) := by rw [w64 (by omega) (by omega)]; omega
        have hv := hy _ (getD_mem b i hi 0)
        refine ⟨⟨by omega, by omega⟩, fun r hr2 => ?_⟩
        refine Ev.round (fun _ => by rw [impl_ValueOfResource.l0]) ?_
        refine Ev.pos (by omega) ?_
        refine Ev.pos (by omega) ?_
        refine Ev.pos (by omega) ?_
        have e2 : wrap64 (x + rd b (i : Int)) = x + b.getD i 0 := by
          rw [rd_nat, w64 (by omega) (by omega)]
        simp only [e1, e2]
        exact hr2
    · rw [if_neg (fun c => hk c.2), decide_eq_false hk]
      exact hj1
theorem iMod1000_eq (a : Int) (h0 : 0 ≤ a) (h1 : a ≤ 4611686018427387904) : impl_Mod.f a 1000 = some (a % 1000) := by
  unfold impl_Mod.f
  rw [InRange_eq]
  have e1 : Int.tmod a 1000 = a % 1000 := Int.tmod_eq_emod_of_nonneg h0
  have e2 : Int.tmod (a % 1000 + 1000) 1000 = a % 1000 := by
    rw [Int.tmod_eq_emod_of_nonneg (by omega)]
    omega
  simp only [Option.bind_some, e1]
  rw [w64 (by omega) (by omega), e2]
  simp
theorem iSays_eq (m0 m1 m2 : Int) (m3 : Bool) (q : Int) (h0 : pIn m0 0 999 = true) (h1 : pIn m1 0 999 = true) (h2 : pIn q 0 99 = true) : impl_Model_says.f m0 m1 m2 m3 q = some ((m0 + m1 * q) % 1000) := by
  obtain ⟨b0, b1, b2, b3⟩ := says_bound h0 h1 h2
  unfold impl_Model_says.f
  rw [w64 (n := m1 * q) (by omega) (by omega), w64 (n := m0 + m1 * q) (by omega) (by omega), iMod1000_eq _ (by omega) (by omega)]
  rfl
theorem iFits_ev (m0 m1 m2 : Int) (m3 : Bool) (c0 c1 aq ct k : Int) (b : List Int) (h p z : Int) (hf : b.length ≤ 1048576) : Ev (fun n => impl_FitsForm.f n m0 m1 m2 m3 c0 c1 aq ct k b h p z) (pFits m0 m1 aq k b h p z) := by
  unfold impl_FitsForm.f pFits
  refine Ev.now_and (InRange_eq _ _ _) fun h0 => Ev.now_and (InRange_eq _ _ _) fun h1 => ?_
  rw [Bool.and_assoc]
  refine Ev.and (iIsResource_ev _ _ _ _ _ hf) fun hr => ?_
  have hk := pRes_kind hr
  have e0 : decide (k ≤ 2) = decide (k = 1 ∨ k = 2) := by
    apply decide_eq_decide.2
    omega
  rw [e0]
  refine Ev.now_and (hasBody_eq _) fun _ => Ev.now_and (InRange_eq _ _ _) fun h2 => Ev.bind (iValue_ev _ _ _ _ _ hf) ?_
  exact Ev.now_bind (iSays_eq m0 m1 m2 m3 _ h0 h1 h2) (Ev.now _)
theorem iCountFits_ev (m0 m1 m2 : Int) (m3 : Bool) (l : List S50) (a b c : Int) (h : l.length ≤ 1048576) (hf : ∀ y ∈ l, FitimplCapture y) : Ev (fun k => impl_CountFits.f k m0 m1 m2 m3 l a b c) (pCountFits m0 m1 a b l) := by
  unfold impl_CountFits.f
  refine ev_foldl (fun k x i => impl_CountFits.l0 k x l (l.length : Int) i m0 m1 m2 m3 a b c) l z50 (stepFits m0 m1 a b) (fun x => x) (fun i x => 0 ≤ x ∧ x ≤ (i : Int)) 0 ⟨by omega, by omega⟩ ?_ ?_
  · intro x hx
    refine Ev.round (fun _ => by rw [impl_CountFits.l0]) ?_
    refine Ev.neg (by omega) ?_
    exact Ev.now _
  · intro i x hi hx
    have e1 : wrap64 ((i : Int) + 1) = ((i + 1 : Nat) : Int) := by rw [w64 (by omega) (by omega)]; omega
    have hs := stepFits_cases m0 m1 a b x (l.getD i z50)
    refine ⟨by rcases hs with hs | hs <;> rw [hs] <;> omega, fun r hr => ?_⟩
    have hr' : Ev (fun k => impl_CountFits.l0 k (stepFits m0 m1 a b x (rd_T50 l (i : Int))) l (l.length : Int) ((i + 1 : Nat) : Int) m0 m1 m2 m3 a b c) r := hr
    have hfy : FitimplCapture (rd_T50 l (i : Int)) := hf _ (getD_mem l i hi z50)
    generalize hy : rd_T50 l (i : Int) = y at hr' hfy
    unfold stepFits at hr'
    have hsf : impl_sameForm.f y.f0.f0 y.f0.f1 y.f0.f2 y.f1 y.f2.f0 y.f2.f1 y.f2.f2.f0 y.f2.f2.f1 y.f2.f2.f2 a b c = some (decide (y.f0.f0 = a ∧ y.f0.f1 = b)) := by
      unfold impl_sameForm.f
      by_cases h1 : y.f0.f0 = a
      · by_cases h2 : y.f0.f1 = b
        · simp [h1, h2]
        · simp [h1, h2]
      · simp [h1]
    refine Ev.round (fun _ => by rw [impl_CountFits.l0]) ?_
    refine Ev.pos (by omega) ?_
    refine Ev.pos (by omega) ?_
    refine Ev.pos (by omega) ?_
    simp only [hy, e1]
    refine Ev.now_bind hsf ?_
    by_cases hm : y.f0.f0 = a ∧ y.f0.f1 = b
    · refine Ev.pos (by simp [hm]) ?_
      refine Ev.bind (iFits_ev m0 m1 m2 m3 _ _ _ _ _ _ _ _ _ hfy) ?_
      cases hp : pFits m0 m1 y.f0.f2 y.f2.f0 y.f2.f1 y.f2.f2.f0 y.f2.f2.f1 y.f2.f2.f2 with
      | true =>
        rw [if_pos ⟨hm, hp⟩] at hr'
        refine Ev.pos rfl ?_
        rw [w64 (by omega) (by omega)]
        exact hr'
      | false =>
        rw [if_neg (fun c => by simp [hp] at c)] at hr'
        exact Ev.neg (by simp) hr'
    · rw [if_neg (fun c => hm c.1)] at hr'
      exact Ev.neg (by simpa using fun h1 h2 => hm ⟨h1, h2⟩) hr'
theorem FnExactCountFits (a0_0 : Int) (a0_1 : Int) (a0_2 : Int) (a0_3 : Bool) (l1 : List S41) (a2_0 : Int) (a2_1 : Int) (a2_2 : Int) (h0 : (Lit.int .i64 a0_0).wf = true) (h1 : (Lit.int .i64 a0_1).wf = true) (h2 : (Lit.int .i64 a0_2).wf = true) (h3 : True) (h4 : (l1.length ≤ maxLen ∧ ∀ e_ ∈ l1, W41 e_)) (h5 : (Lit.int .i64 a2_0).wf = true) (h6 : (Lit.int .i64 a2_1).wf = true) (h7 : (Lit.int .i64 a2_2).wf = true) : ∃ k, laws_FnExactCountFits.f k a0_0 a0_1 a0_2 a0_3 l1 a2_0 a2_1 a2_2 = some true := by
  obtain ⟨r, e, b, g⟩ := szCaptureS_some l1 1048576 ⟨h4.1, fun y hy => (h4.2 y hy).2.2.2.1.1⟩ (by omega) (by omega)
  refine Ev.rounds ?_
  unfold laws_FnExactCountFits.f
  refine Ev.bind e ?_
  by_cases c : r < 0
  · exact Ev.pos c (Ev.now _)
  obtain ⟨hl, hy⟩ := g (by omega)
  have hm : (l1.map cvCapture).length ≤ 1048576 := by simpa using hl
  have hf : ∀ y ∈ l1.map cvCapture, FitimplCapture y := by
    intro y h
    obtain ⟨z, hz, rfl⟩ := List.mem_map.1 h
    exact hy z hz
  have t := toCaptureS_ev l1 hl hy
  refine Ev.neg c ?_
  refine Ev.now_bind rfl ?_
  refine Ev.bind t ?_
  refine Ev.now_bind rfl ?_
  refine Ev.bind (sCountFits_ev _ _ _ _ _ _ _ _ hm hf) ?_
  refine Ev.bind t ?_
  refine Ev.now_bind rfl ?_
  refine Ev.now_bind rfl ?_
  refine Ev.bind (iCountFits_ev _ _ _ _ _ _ _ _ hm hf) ?_
  refine Ev.pos rfl ?_
  refine Ev.bind t ?_
  refine Ev.bind (eqCaptureS_refl _ hm hf) ?_
  refine Ev.pos rfl ?_
  exact Ev.now _
end Go.Proofs.Ytnhnfomfeicilaa.Pure
