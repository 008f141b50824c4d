/- The program's NearestAt and the reference's return the same choice: the captures are passed in one order and compared in the same ways; the arguments are as they were. No condition. -/
import Derived.Test.YtegaambhmpoakaaStdFnExactNearestAt
namespace Go.Proofs.Ytegaambhmpoakaa.Pure
open Go.RowKit Go.Proofs.Ytegaambhmpoakaa.MFnExactNearestAt Go.Proofs.YtegaambhmpoakaaW.PrintWords Go.Proofs.YtegaambhmpoakaaW.PrintLast Go.Proofs.YtegaambhmpoakaaW.PrintMore Go.Proofs.Ytegaambhmpoakaa.Gen
set_option linter.unusedVariables false
set_option linter.unusedSimpArgs false

def W24 (y : S24) : Prop := (Lit.int .i64 y.f0).wf = true ∧ (Lit.int .i64 y.f1).wf = true ∧ (Lit.int .i64 y.f2).wf = true
def W129 (y : S129) : Prop := (Lit.int .i64 y.f0).wf = true ∧ (y.f1.length ≤ maxLen ∧ ∀ e_ ∈ y.f1, (Lit.int .i64 e_).wf = true) ∧ W24 y.f2
def W131 (y : S131) : Prop := W24 y.f0 ∧ (Lit.int .i64 y.f1).wf = true ∧ W129 y.f2
def pDist (h p q a b c : Int) : Int := if (h == a && (p == b && (q == c))) = true then 0 else if h = a ∧ p = b then 1 else if h = a then 2 else 3
def pOff (l : List S93) (t i : Int) : Int := mx (wrap64 ((rd_T93 l i).f1 - t)) (wrap64 (t - (rd_T93 l i).f1))
def nearStep (l : List S93) (a b c t far : Int) (x : Int) (i : Nat) : Int :=
  if pDist (rd_T93 l (i : Int)).f0.f0 (rd_T93 l (i : Int)).f0.f1 (rd_T93 l (i : Int)).f0.f2 a b c = far then
    (if x < 0 then (i : Int) else if pOff l t (i : Int) < pOff l t x then (i : Int) else if pOff l t (i : Int) = pOff l t x ∧ (rd_T93 l (i : Int)).f1 < (rd_T93 l x).f1 then (i : Int) else x)
  else x
theorem nearStep_in (l : List S93) (a b c t far : Int) (x : Int) (i : Nat) (h : -1 ≤ x ∧ x < (i : Int)) : -1 ≤ nearStep l a b c t far x i ∧ nearStep l a b c t far x i < ((i + 1 : Nat) : Int) := by
  unfold nearStep
  split
  · split
    · omega
    · split
      · omega
      · split <;> omega
  · omega
def pNear (l : List S93) (a b c t far : Int) : Int := (List.range l.length).foldl (nearStep l a b c t far) (-1)
theorem pNear_in (l : List S93) (a b c t far : Int) : -1 ≤ pNear l a b c t far ∧ pNear l a b c t far < (l.length : Int) ∨ pNear l a b c t far = -1 := by
  have key : ∀ n : Nat, (-1 : Int) ≤ (List.range n).foldl (nearStep l a b c t far) (-1) ∧ ((List.range n).foldl (nearStep l a b c t far) (-1) < (n : Int)) := by
    intro n
    induction n with
    | zero => exact ⟨Int.le_refl _, show (-1 : Int) < ((0 : Nat) : Int) by decide⟩
    | succ n ih =>
      rw [List.range_succ, List.foldl_append]
      exact nearStep_in l a b c t far _ n ih
  exact Or.inl (key l.length)
theorem range_get (n i : Nat) (h : i < n) : (List.range n).getD i 0 = i := by
  rw [getD_in _ _ (by simpa using h), List.getElem_range]
theorem sMax16_eq (a b : Int) : spec_Max.f a b = some (mx a b) := by
  unfold spec_Max.f mx
  by_cases h : a < b
  · rw [if_pos h, if_pos h]
  · rw [if_neg h, if_neg h]
theorem sDist_eq (h p q a b c : Int) : spec_DistanceOf.f h p q a b c = some (pDist h p q a b c) := by
  unfold spec_DistanceOf.f spec_WithoutQuery.f pDist
  by_cases h1 : (h == a && (p == b && (q == c))) = true
  · rw [if_pos h1, if_pos h1]
  · rw [if_neg h1, if_neg h1]
    simp only [Option.bind_some]
    by_cases h2 : h = a
    · by_cases h3 : p = b
      · simp [h2, h3]
      · simp [h2, h3]
    · simp [h2]
theorem sOff_eq (l : List S93) (i t : Int) (h0 : 0 ≤ i) (h1 : i < (l.length : Int)) : spec_l16Off.f l i t = some (pOff l t i) := by
  unfold spec_l16Off.f pOff
  rw [if_pos h0, if_pos h1, sMax16_eq]
  rfl
theorem sNear_ev (l : List S93) (a b c t far : Int) (h : l.length ≤ 1048576) : Ev (fun k => spec_l16Best.f k l a b c t far) (pNear l a b c t far) := by
  unfold spec_l16Best.f pNear
  refine ev_foldl (fun k x i => spec_l16Best.l0 k l t far x i a b c) (List.range l.length) 0 (nearStep l a b c t far) (fun x => x) (fun i x => -1 ≤ x ∧ x < (i : Int)) (-1) ⟨by omega, by omega⟩ ?_ ?_
  · intro x hx
    simp only [List.length_range] at hx ⊢
    refine Ev.round (fun _ => by rw [spec_l16Best.l0]) ?_
    exact Ev.neg (by omega) (Ev.now _)
  · intro i x hi hx
    rw [List.length_range] at hi
    rw [range_get _ _ hi]
    have e1 : wrap64 ((i : Int) + 1) = ((i + 1 : Nat) : Int) := by rw [w64 (by omega) (by omega)]; omega
    refine ⟨nearStep_in l a b c t far x i hx, fun r hr => ?_⟩
    refine Ev.round (fun _ => by rw [spec_l16Best.l0]) ?_
    refine Ev.pos (by omega) ?_
    refine Ev.pos (by omega) ?_
    refine Ev.now_bind (sDist_eq _ _ _ _ _ _) ?_
    simp only [e1]
    unfold nearStep at hr
    by_cases c1 : pDist (rd_T93 l (i : Int)).f0.f0 (rd_T93 l (i : Int)).f0.f1 (rd_T93 l (i : Int)).f0.f2 a b c = far
    · rw [if_pos c1] at hr
      refine Ev.pos c1 ?_
      by_cases c2 : x < 0
      · rw [if_pos c2] at hr
        exact Ev.pos c2 hr
      · rw [if_neg c2] at hr
        refine Ev.neg c2 ?_
        refine Ev.now_bind (sOff_eq l _ t (by omega) (by omega)) ?_
        refine Ev.now_bind (sOff_eq l _ t (by omega) (by omega)) ?_
        by_cases c3 : pOff l t (i : Int) < pOff l t x
        · rw [if_pos c3] at hr
          exact Ev.pos c3 hr
        · rw [if_neg c3] at hr
          refine Ev.neg c3 ?_
          by_cases c4 : pOff l t (i : Int) = pOff l t x
          · refine Ev.pos c4 ?_
            refine Ev.pos (by omega) ?_
            refine Ev.pos (by omega) ?_
            by_cases c5 : (rd_T93 l (i : Int)).f1 < (rd_T93 l x).f1
            · rw [if_pos ⟨c4, c5⟩] at hr
              exact Ev.pos c5 hr
            · rw [if_neg (fun z => c5 z.2)] at hr
              exact Ev.neg c5 hr
          · rw [if_neg (fun z => c4 z.1)] at hr
            exact Ev.neg c4 hr
    · rw [if_neg c1] at hr
      exact Ev.neg c1 hr
theorem l1In_eq (a b c : Int) : spec_l1In.f a b c = some (decide (b ≤ a) && decide (a ≤ c)) := by
  unfold spec_l1In.f
  by_cases h : b ≤ a <;> simp [h]
theorem sIsAddress_eq (h p q : Int) : spec_IsAddress.f h p q = some (pAddr h p q) := by
  simp only [spec_IsAddress.f, l1In_eq, Option.bind_some, some_and]
theorem l5Bytes_ev (l : List Int) (h : l.length ≤ 1048576) : Ev (fun k => spec_l5Bytes.f k l) (l.all (pIn · 0 255)) := by
  unfold spec_l5Bytes.f
  refine Ev.cast (ev_all (fun k i => spec_l5Bytes.l0 k l i) l 0 (pIn · 0 255) true (fun k => by rw [spec_l5Bytes.l0, if_neg (by omega)]) ?_ ?_) (Bool.and_true _)
  · intro i hi hp r hr
    have e1 : wrap64 ((i : Int) + 1) = ((i + 1 : Nat) : Int) := by rw [w64 (by omega) (by omega)]; omega
    refine Ev.round (fun _ => by rw [spec_l5Bytes.l0]) ?_
    refine Ev.pos (by omega) ?_
    refine Ev.pos (by omega) ?_
    refine Ev.now_bind (l1In_eq _ _ _) ?_
    refine Ev.pos ?_ ?_
    · rw [rd_nat]; exact hp
    · simp only [e1]; exact hr
  · intro i hi hp
    refine Ev.round (fun _ => by rw [spec_l5Bytes.l0]) ?_
    refine Ev.pos (by omega) ?_
    refine Ev.pos (by omega) ?_
    refine Ev.now_bind (l1In_eq _ _ _) ?_
    refine Ev.neg ?_ (Ev.now _)
    rw [rd_nat]; exact ne_true_of_eq_false hp
def pRes (k : Int) (b : List Int) (h p q : Int) : Bool :=
  if k = 1 ∨ k = 2 then decide ((b.length : Int) ≤ 6) && (b.all (pIn · 0 255) && pZero h p q)
  else if k = 3 then decide ((b.length : Int) = 0) && pAddr h p q
  else if k = 4 then decide ((b.length : Int) = 0) && pZero h p q
  else false
theorem sIsResource_ev (k : Int) (b : List Int) (h p q : Int) (hb : b.length ≤ 1048576) : Ev (fun n => spec_IsResource.f n k b h p q) (pRes k b h p q) := by
  have hj : ∀ x : Bool, Ev (fun n => spec_IsResource.j0 n x k b h p q) (!x && (if k = 3 then pAddr h p q && ((b.length : Int) == 0) else (pZero h p q && (if k = 4 then ((b.length : Int) == 0) else true)))) := by
    intro x
    refine Ev.round (fun _ => by rw [spec_IsResource.j0]) ?_
    cases x with
    | true => exact Ev.pos rfl (Ev.now _)
    | false =>
      refine Ev.neg (by simp) ?_
      by_cases h3 : k = 3
      · refine Ev.pos h3 ?_
        simp only [h3, if_true, Bool.not_false, Bool.true_and]
        exact Ev.now_and (sIsAddress_eq _ _ _) fun _ => Ev.now _
      · refine Ev.neg h3 ?_
        simp only [h3, if_false, Bool.not_false, Bool.true_and]
        by_cases hz : pZero h p q = true
        · refine Ev.pos hz ?_
          by_cases h4 : k = 4
          · refine Ev.pos h4 ?_
            exact Ev.cast (Ev.now _) (by simp [h4, hz])
          · refine Ev.neg h4 ?_
            exact Ev.cast (Ev.now _) (by simp [h4, hz])
        · refine Ev.neg hz ?_
          exact Ev.cast (Ev.now _) (by simp [hz])
  unfold spec_IsResource.f
  refine Ev.now_bind (l1In_eq _ _ _) ?_
  by_cases hk : 1 ≤ k ∧ k ≤ 4
  · refine Ev.pos (by simp [hk]) ?_
    refine Ev.bind (l5Bytes_ev b hb) ?_
    have hcases : k = 1 ∨ k = 2 ∨ k = 3 ∨ k = 4 := by omega
    cases hall : b.all (pIn · 0 255) with
    | true =>
      refine Ev.pos rfl ?_
      refine Ev.cast (hj _) ?_
      unfold pRes
      have h6 : decide ((b.length : Int) > 6) = !decide ((b.length : Int) ≤ 6) := by
        by_cases c : (b.length : Int) ≤ 6
        · have : ¬ (b.length : Int) > 6 := by omega
          simp [c, this]
        · have : (b.length : Int) > 6 := by omega
          simp [c, this]
      rw [h6]
      rcases hcases with rfl | rfl | rfl | rfl
      · simp [hall]
      · simp [hall]
      · by_cases c : b.length = 0
        · have hn : b = [] := List.eq_nil_of_length_eq_zero c
          subst hn
          simp
        · simp [c]
      · by_cases c : b.length = 0
        · have hn : b = [] := List.eq_nil_of_length_eq_zero c
          subst hn
          simp
        · simp [c]
    | false =>
      refine Ev.neg (by simp) ?_
      refine Ev.cast (hj true) ?_
      unfold pRes
      have hne : b ≠ [] := by
        rintro rfl
        simp at hall
      have h0 : ¬ b.length = 0 := fun e => hne (List.eq_nil_of_length_eq_zero e)
      rcases hcases with rfl | rfl | rfl | rfl
      · simp [hall]
      · simp [hall]
      · simp [h0]
      · simp [h0]
  · refine Ev.neg (by simp; omega) ?_
    refine Ev.cast (hj true) ?_
    have hp : pRes k b h p q = false := by
      unfold pRes
      rw [if_neg (by omega), if_neg (by omega), if_neg (by omega)]
    rw [hp]
    simp
def pCapture (y : S93) : Bool := pAddr y.f0.f0 y.f0.f1 y.f0.f2 && (pIn y.f1 0 2000 && pRes y.f2.f0 y.f2.f1 y.f2.f2.f0 y.f2.f2.f1 y.f2.f2.f2)
def pAreCaptures (l : List S93) : Bool := l.all pCapture && decide ((l.length : Int) ≤ 20)
theorem sAreCaptures_ev (l : List S93) (h : l.length ≤ 1048576) (hf : ∀ y ∈ l, FitimplCapture y) : Ev (fun k => spec_AreCaptures.f k l) (pAreCaptures l) := by
  unfold spec_AreCaptures.f pAreCaptures
  refine ev_all (fun k i => spec_AreCaptures.l0 k l i) l z93 pCapture _ (fun k => by rw [spec_AreCaptures.l0, if_neg (by omega)]) ?_ ?_
  · intro i hi hp r hr
    have e1 : wrap64 ((i : Int) + 1) = ((i + 1 : Nat) : Int) := by rw [w64 (by omega) (by omega)]; omega
    have hp' : pCapture (rd_T93 l (i : Int)) = true := hp
    have hfy : FitimplCapture (rd_T93 l (i : Int)) := hf _ (getD_mem l i hi z93)
    generalize hy : rd_T93 l (i : Int) = y at hp' hfy
    unfold pCapture at hp'
    simp only [Bool.and_eq_true] at hp'
    obtain ⟨p1, p2, p3⟩ := hp'
    refine Ev.round (fun _ => by rw [spec_AreCaptures.l0]) ?_
    refine Ev.pos (by omega) ?_
    refine Ev.pos (by omega) ?_
    simp only [hy, e1]
    refine Ev.now_bind (sIsAddress_eq _ _ _) ?_
    refine Ev.pos (by simp [p1]) ?_
    refine Ev.now_bind (l1In_eq _ _ _) ?_
    refine Ev.pos (by simp [p2]) ?_
    refine Ev.bind (sIsResource_ev _ _ _ _ _ hfy) ?_
    exact Ev.pos p3 hr
  · intro i hi hp
    have hp' : pCapture (rd_T93 l (i : Int)) = false := hp
    have hfy : FitimplCapture (rd_T93 l (i : Int)) := hf _ (getD_mem l i hi z93)
    generalize hy : rd_T93 l (i : Int) = y at hp' hfy
    unfold pCapture at hp'
    refine Ev.round (fun _ => by rw [spec_AreCaptures.l0]) ?_
    refine Ev.pos (by omega) ?_
    refine Ev.pos (by omega) ?_
    simp only [hy]
    refine Ev.now_bind (sIsAddress_eq _ _ _) ?_
    cases p1 : pAddr y.f0.f0 y.f0.f1 y.f0.f2 with
    | false => exact Ev.neg (by simp) (Ev.now _)
    | true =>
      rw [p1, Bool.true_and] at hp'
      refine Ev.pos rfl ?_
      refine Ev.now_bind (l1In_eq _ _ _) ?_
      cases p2 : pIn y.f1 0 2000 with
      | false => exact Ev.neg (ne_true_of_eq_false p2) (Ev.now _)
      | true =>
        rw [p2, Bool.true_and] at hp'
        refine Ev.pos p2 ?_
        refine Ev.bind (sIsResource_ev _ _ _ _ _ hfy) ?_
        refine Ev.neg (ne_true_of_eq_false hp') ?_
        exact Ev.now _
def pNearestAt (l : List S93) (a b c t : Int) : Int × Int :=
  if pAreCaptures l = true ∧ pIn t 0 2000 = true then
    if pNear l a b c t 0 ≥ 0 then (if (rd_T93 l (pNear l a b c t 0)).f1 = t then (0, pNear l a b c t 0) else (1, pNear l a b c t 0))
    else if pNear l a b c t 1 ≥ 0 then (2, pNear l a b c t 1) else (3, -1)
  else (3, -1)
theorem sNearestAt_ev (l : List S93) (a b c t : Int) (h : l.length ≤ 1048576) (hf : ∀ y ∈ l, FitimplCapture y) : Ev (fun k => spec_NearestAt.f k l a b c t) (pNearestAt l a b c t) := by
  have hj : ∀ x : Bool, (x = false ↔ pAreCaptures l = true ∧ pIn t 0 2000 = true) → Ev (fun k => spec_NearestAt.j0 k l t x a b c) (pNearestAt l a b c t) := by
    intro x hx
    unfold pNearestAt
    refine Ev.round (fun _ => by rw [spec_NearestAt.j0]) ?_
    cases x with
    | true =>
      rw [if_neg (fun z => by have := hx.2 z; simp at this)]
      exact Ev.pos rfl (Ev.now _)
    | false =>
      rw [if_pos (hx.1 rfl)]
      refine Ev.neg (by simp) ?_
      refine Ev.bind (sNear_ev l a b c t 0 h) ?_
      have hr := pNear_in l a b c t 0
      generalize pNear l a b c t 0 = n0 at hr
      by_cases c0 : n0 ≥ 0
      · refine Ev.rpos c0 ?_
        refine Ev.pos c0 ?_
        refine Ev.pos c0 ?_
        refine Ev.pos (by omega) ?_
        by_cases c1 : (rd_T93 l n0).f1 = t
        · refine Ev.rpos c1 ?_
          exact Ev.pos c1 (Ev.now _)
        · refine Ev.rneg c1 ?_
          exact Ev.neg c1 (Ev.now _)
      · refine Ev.rneg c0 ?_
        refine Ev.neg c0 ?_
        refine Ev.bind (sNear_ev l a b c t 1 h) ?_
        by_cases c2 : pNear l a b c t 1 ≥ 0
        · refine Ev.rpos c2 ?_
          exact Ev.pos c2 (Ev.now _)
        · refine Ev.rneg c2 ?_
          exact Ev.neg c2 (Ev.now _)
  unfold spec_NearestAt.f
  refine Ev.bind (sAreCaptures_ev l h hf) ?_
  cases c1 : pAreCaptures l with
  | false =>
    refine Ev.neg (by simp) ?_
    exact hj true (by simp [c1])
  | true =>
    refine Ev.pos rfl ?_
    refine Ev.now_bind (l1In_eq _ _ _) ?_
    refine hj _ ?_
    simp [c1, pIn]
theorem iDist_eq (h p q a b c : Int) : impl_DistanceOf.f h p q a b c = some (pDist h p q a b c) := by
  unfold impl_DistanceOf.f pDist
  by_cases h1 : (h == a && (p == b && (q == c))) = true
  · rw [if_pos h1, if_pos h1]
  · rw [if_neg h1, if_neg h1]
    by_cases h2 : h = a
    · by_cases h3 : p = b
      · simp [h2, h3]
      · simp [h2, h3]
    · simp [h2]
theorem iNear_ev (l : List S93) (a b c t far : Int) (h : l.length ≤ 1048576) : Ev (fun k => impl_nearest.f k l a b c t far) (pNear l a b c t far) := by
  unfold impl_nearest.f pNear
  refine ev_foldl (fun k x i => impl_nearest.l0 k l t far x l (l.length : Int) i a b c) (List.range l.length) 0 (nearStep l a b c t far) (fun x => x) (fun i x => -1 ≤ x ∧ x < (i : Int)) (-1) ⟨by omega, by omega⟩ ?_ ?_
  · intro x hx
    simp only [List.length_range] at hx ⊢
    refine Ev.round (fun _ => by rw [impl_nearest.l0]) ?_
    exact Ev.neg (by omega) (Ev.now _)
  · intro i x hi hx
    rw [List.length_range] at hi
    rw [range_get _ _ hi]
    have e1 : wrap64 ((i : Int) + 1) = ((i + 1 : Nat) : Int) := by rw [w64 (by omega) (by omega)]; omega
    refine ⟨nearStep_in l a b c t far x i hx, fun r hr => ?_⟩
    refine Ev.round (fun _ => by rw [impl_nearest.l0]) ?_
    refine Ev.pos (by omega) ?_
    refine Ev.pos (by omega) ?_
    refine Ev.pos (by omega) ?_
    refine Ev.now_bind (iDist_eq _ _ _ _ _ _) ?_
    simp only [e1]
    unfold nearStep at hr
    by_cases c1 : pDist (rd_T93 l (i : Int)).f0.f0 (rd_T93 l (i : Int)).f0.f1 (rd_T93 l (i : Int)).f0.f2 a b c = far
    · rw [if_pos c1] at hr
      refine Ev.pos c1 ?_
      by_cases c2 : x < 0
      · rw [if_pos c2] at hr
        exact Ev.pos c2 hr
      · rw [if_neg c2] at hr
        refine Ev.neg c2 ?_
        refine Ev.now_bind rfl ?_
        refine Ev.pos (by omega) ?_
        refine Ev.pos (by omega) ?_
        refine Ev.now_bind rfl ?_
        by_cases c3 : pOff l t (i : Int) < pOff l t x
        · rw [if_pos c3] at hr
          exact Ev.pos c3 hr
        · rw [if_neg c3] at hr
          refine Ev.neg c3 ?_
          by_cases c4 : pOff l t (i : Int) = pOff l t x
          · refine Ev.pos c4 ?_
            by_cases c5 : (rd_T93 l (i : Int)).f1 < (rd_T93 l x).f1
            · rw [if_pos ⟨c4, c5⟩] at hr
              exact Ev.pos c5 hr
            · rw [if_neg (fun z => c5 z.2)] at hr
              exact Ev.neg c5 hr
          · rw [if_neg (fun z => c4 z.1)] at hr
            exact Ev.neg c4 hr
    · rw [if_neg c1] at hr
      exact Ev.neg c1 hr
theorem InRange_eq (a b c : Int) : impl_InRange.f a b c = some (decide (b ≤ a) && decide (a ≤ c)) := by
  unfold impl_InRange.f
  by_cases h : b ≤ a <;> simp [h]
theorem iIsAddress_eq (h p q : Int) : impl_IsAddress.f h p q = some (pAddr h p q) := by
  simp only [impl_IsAddress.f, InRange_eq, Option.bind_some, some_and]
theorem allIn_ev (l : List Int) (a b : Int) (h : l.length ≤ 1048576) : Ev (fun k => impl_allIn.f k l a b) (l.all (pIn · a b)) := by
  unfold impl_allIn.f
  refine Ev.cast (ev_all (fun k i => impl_allIn.l0 k a b l (l.length : Int) i) l 0 (pIn · a b) true (fun k => by rw [impl_allIn.l0, if_neg (by omega)]) ?_ ?_) (Bool.and_true _)
  · intro i hi hp r hr
    have e1 : wrap64 ((i : Int) + 1) = ((i + 1 : Nat) : Int) := by rw [w64 (by omega) (by omega)]; omega
    refine Ev.round (fun _ => by rw [impl_allIn.l0]) ?_
    refine Ev.pos (by omega) ?_
    refine Ev.pos (by omega) ?_
    refine Ev.pos (by omega) ?_
    refine Ev.now_bind (InRange_eq _ _ _) ?_
    refine Ev.pos ?_ ?_
    · rw [rd_nat]; exact hp
    · simp only [e1]; exact hr
  · intro i hi hp
    refine Ev.round (fun _ => by rw [impl_allIn.l0]) ?_
    refine Ev.pos (by omega) ?_
    refine Ev.pos (by omega) ?_
    refine Ev.pos (by omega) ?_
    refine Ev.now_bind (InRange_eq _ _ _) ?_
    refine Ev.neg ?_ (Ev.now _)
    rw [rd_nat]; exact ne_true_of_eq_false hp
theorem iIsResource_ev (k : Int) (b : List Int) (h p q : Int) (hb : b.length ≤ 1048576) : Ev (fun n => impl_IsResource.f n k b h p q) (pRes k b h p q) := by
  have hj : ∀ x : Bool, (x = true ↔ k = 1 ∨ k = 2) → Ev (fun n => impl_IsResource.j0 n k x k b h p q) (pRes k b h p q) := by
    intro x hx
    refine Ev.round (fun _ => by rw [impl_IsResource.j0]) ?_
    unfold pRes
    cases x with
    | true =>
      refine Ev.rpos (hx.1 rfl) ?_
      refine Ev.pos rfl ?_
      exact Ev.if_and fun _ => Ev.and (allIn_ev b 0 255 hb) fun _ => Ev.now _
    | false =>
      have hno : ¬ (k = 1 ∨ k = 2) := fun c => by simpa using hx.2 c
      refine Ev.rneg hno ?_
      refine Ev.neg (by simp) ?_
      by_cases h3 : k = 3
      · refine Ev.rpos h3 ?_
        refine Ev.pos h3 ?_
        exact Ev.if_and fun _ => Ev.now_bind (iIsAddress_eq _ _ _) (Ev.now _)
      · refine Ev.rneg h3 ?_
        refine Ev.neg h3 ?_
        by_cases h4 : k = 4
        · refine Ev.rpos h4 ?_
          refine Ev.pos h4 ?_
          exact Ev.if_and fun _ => Ev.now _
        · refine Ev.rneg h4 ?_
          refine Ev.neg h4 ?_
          exact Ev.now _
  unfold impl_IsResource.f
  by_cases h1 : k = 1
  · refine Ev.pos h1 (hj _ ?_)
    simp [h1]
  · refine Ev.neg h1 (hj _ ?_)
    simp [h1]
theorem iAreCapturesLit_ev (y : S93) (hf : FitimplCapture y) : Ev (fun k => impl_AreCaptures_lit1.f k y.f0.f0 y.f0.f1 y.f0.f2 y.f1 y.f2.f0 y.f2.f1 y.f2.f2.f0 y.f2.f2.f1 y.f2.f2.f2) (!pCapture y) := by
  unfold impl_AreCaptures_lit1.f pCapture
  refine Ev.now_bind (iIsAddress_eq _ _ _) ?_
  cases p1 : pAddr y.f0.f0 y.f0.f1 y.f0.f2 with
  | false => exact Ev.neg (by simp) (Ev.now _)
  | true =>
    refine Ev.pos rfl ?_
    refine Ev.now_bind (InRange_eq _ _ _) ?_
    cases p2 : pIn y.f1 0 2000 with
    | false => exact Ev.neg (ne_true_of_eq_false p2) (Ev.now _)
    | true =>
      refine Ev.pos p2 ?_
      rw [Bool.true_and, Bool.true_and]
      exact Ev.no (iIsResource_ev _ _ _ _ _ hf)
theorem iAreCaptures_ev (l : List S93) (h : l.length ≤ 1048576) (hf : ∀ y ∈ l, FitimplCapture y) : Ev (fun k => impl_AreCaptures.f k l) (pAreCaptures l) := by
  unfold impl_AreCaptures.f pAreCaptures
  rw [Bool.and_comm]
  refine Ev.if_and fun _ => ?_
  rw [← any_not]
  refine Ev.no ?_
  unfold slices_ContainsFunc_134.f
  have hf : ∃ r : Int, Ev (fun k => slices_IndexFunc_134.l0 k l (l.length : Int) 0) r ∧ decide (r ≥ 0) = l.any (fun y => !pCapture y) := by
    refine ev_find (fun k i => slices_IndexFunc_134.l0 k l (l.length : Int) i) l z93 (fun y => !pCapture y) (fun k => by rw [slices_IndexFunc_134.l0, if_neg (by omega)]) ?_ ?_
    · intro i hi hp
      refine Ev.round (fun _ => by rw [slices_IndexFunc_134.l0]) ?_
      refine Ev.pos (by omega) ?_
      refine Ev.pos (by omega) ?_
      refine Ev.pos (by omega) ?_
      refine Ev.bind (iAreCapturesLit_ev (rd_T93 l (i : Int)) (hf _ (getD_mem l i hi z93))) ?_
      refine Ev.pos hp ?_
      exact Ev.now _
    · intro i hi hp r hr
      have e1 : wrap64 ((i : Int) + 1) = ((i + 1 : Nat) : Int) := by rw [w64 (by omega) (by omega)]; omega
      refine Ev.round (fun _ => by rw [slices_IndexFunc_134.l0]) ?_
      refine Ev.pos (by omega) ?_
      refine Ev.pos (by omega) ?_
      refine Ev.pos (by omega) ?_
      refine Ev.bind (iAreCapturesLit_ev (rd_T93 l (i : Int)) (hf _ (getD_mem l i hi z93))) ?_
      refine Ev.neg (ne_true_of_eq_false hp) ?_
      simp only [e1]
      exact hr
  obtain ⟨r, hr, hd⟩ := hf
  rw [← hd]
  exact Ev.bind hr (Ev.now _)
theorem iNearestAt_ev (l : List S93) (a b c t : Int) (h : l.length ≤ 1048576) (hf : ∀ y ∈ l, FitimplCapture y) : Ev (fun k => impl_NearestAt.f k l a b c t) (pNearestAt l a b c t) := by
  have hj : ∀ x : Bool, (x = false ↔ pAreCaptures l = true ∧ pIn t 0 2000 = true) → Ev (fun k => impl_NearestAt.j0 k l t x a b c) (pNearestAt l a b c t) := by
    intro x hx
    unfold pNearestAt
    refine Ev.round (fun _ => by rw [impl_NearestAt.j0]) ?_
    cases x with
    | true =>
      rw [if_neg (fun z => by have := hx.2 z; simp at this)]
      exact Ev.pos rfl (Ev.now _)
    | false =>
      rw [if_pos (hx.1 rfl)]
      refine Ev.neg (by simp) ?_
      refine Ev.bind (iNear_ev l a b c t 0 h) ?_
      have hr := pNear_in l a b c t 0
      generalize pNear l a b c t 0 = n0 at hr
      by_cases c0 : n0 ≥ 0
      · refine Ev.rpos c0 ?_
        refine Ev.pos c0 ?_
        refine Ev.pos c0 ?_
        refine Ev.pos (by omega) ?_
        by_cases c1 : (rd_T93 l n0).f1 = t
        · refine Ev.rpos c1 ?_
          exact Ev.pos c1 (Ev.now _)
        · refine Ev.rneg c1 ?_
          exact Ev.neg c1 (Ev.now _)
      · refine Ev.rneg c0 ?_
        refine Ev.neg c0 ?_
        refine Ev.bind (iNear_ev l a b c t 1 h) ?_
        by_cases c2 : pNear l a b c t 1 ≥ 0
        · refine Ev.rpos c2 ?_
          exact Ev.pos c2 (Ev.now _)
        · refine Ev.rneg c2 ?_
          exact Ev.neg c2 (Ev.now _)
  unfold impl_NearestAt.f
  refine Ev.now_bind (InRange_eq _ _ _) ?_
  cases c1 : pIn t 0 2000 with
  | false =>
    refine Ev.neg (ne_true_of_eq_false c1) ?_
    exact hj true (by simp [c1])
  | true =>
    refine Ev.pos c1 ?_
    refine Ev.bind (iAreCaptures_ev l h hf) ?_
    refine hj _ ?_
    simp [c1]
theorem FnExactNearestAt (l0 : List S131) (a1_0 : Int) (a1_1 : Int) (a1_2 : Int) (a2 : Int) (h0 : (l0.length ≤ maxLen ∧ ∀ e_ ∈ l0, W131 e_)) (h1 : (Lit.int .i64 a1_0).wf = true) (h2 : (Lit.int .i64 a1_1).wf = true) (h3 : (Lit.int .i64 a1_2).wf = true) (h4 : (Lit.int .i64 a2).wf = true) : ∃ k, laws_FnExactNearestAt.f k l0 a1_0 a1_1 a1_2 a2 = some true := by
  obtain ⟨r, e, b, g⟩ := szCaptureS_some l0 1048576 ⟨h0.1, fun y hy => (h0.2 y hy).2.2.2.1.1⟩ (by omega) (by omega)
  refine Ev.rounds ?_
  unfold laws_FnExactNearestAt.f
  refine Ev.bind e ?_
  by_cases c : r < 0
  · exact Ev.pos c (Ev.now _)
  obtain ⟨hl, hy⟩ := g (by omega)
  have hm : (l0.map cvCapture).length ≤ 1048576 := by simpa using hl
  have hf : ∀ y ∈ l0.map cvCapture, FitimplCapture y := by
    intro y h
    obtain ⟨z, hz, rfl⟩ := List.mem_map.1 h
    exact hy z hz
  have t := toCaptureS_ev l0 hl hy
  refine Ev.neg c ?_
  refine Ev.bind t ?_
  refine Ev.now_bind (toAddress_eq _ _ _) ?_
  refine Ev.bind (sNearestAt_ev _ _ _ _ _ hm hf) ?_
  refine Ev.bind t ?_
  refine Ev.now_bind (toAddress_eq _ _ _) ?_
  refine Ev.bind (iNearestAt_ev _ _ _ _ _ hm hf) ?_
  refine Ev.now_bind (eqChoice_refl _ _) ?_
  refine Ev.pos rfl ?_
  refine Ev.bind t ?_
  refine Ev.bind (eqCaptureS_refl _ hm hf) ?_
  refine Ev.pos rfl ?_
  exact Ev.now _
end Go.Proofs.Ytegaambhmpoakaa.Pure
