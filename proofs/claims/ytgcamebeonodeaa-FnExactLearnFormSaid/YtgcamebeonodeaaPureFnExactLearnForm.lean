/- The program's LearnForm and the reference's return the same model: the same captures count, the same other one is looked for, and the same least step is found; the arguments are as they were. No condition. -/
import Derived.Test.YtgcamebeonodeaaStdFnExactLearnForm
namespace Go.Proofs.Ytgcamebeonodeaa.Pure
open Go.RowKit Go.Proofs.Ytgcamebeonodeaa.MFnExactLearnForm Go.Proofs.YtgcamebeonodeaaW.PrintWords Go.Proofs.YtgcamebeonodeaaW.PrintLast Go.Proofs.YtgcamebeonodeaaW.PrintMore Go.Proofs.Ytgcamebeonodeaa.Gen
set_option linter.unusedVariables false
set_option linter.unusedSimpArgs false

def W82 (y : S82) : Prop := (Lit.int .i64 y.f0).wf = true ∧ (Lit.int .i64 y.f1).wf = true ∧ (Lit.int .i64 y.f2).wf = true
def W141 (y : S141) : Prop := (Lit.int .i64 y.f0).wf = true ∧ (y.f1.length ≤ maxLen ∧ ∀ e_ ∈ y.f1, (Lit.int .i64 e_).wf = true) ∧ W82 y.f2
def W143 (y : S143) : Prop := W82 y.f0 ∧ (Lit.int .i64 y.f1).wf = true ∧ W141 y.f2
theorem l1In_eq (a b c : Int) : spec_l1In.f a b c = some (decide (b ≤ a) && decide (a ≤ c)) := by
  unfold spec_l1In.f
  by_cases h : b ≤ a <;> simp [h]
theorem sIsAddress_eq (h p q : Int) : spec_IsAddress.f h p q = some (pAddr h p q) := by
  simp only [spec_IsAddress.f, l1In_eq, Option.bind_some, some_and]
theorem l5Bytes_ev (l : List Int) (h : l.length ≤ 1048576) : Ev (fun k => spec_l5Bytes.f k l) (l.all (pIn · 0 255)) := by
  unfold spec_l5Bytes.f
  refine Ev.cast (ev_all (fun k i => spec_l5Bytes.l0 k l i) l 0 (pIn · 0 255) true (fun k => by rw [spec_l5Bytes.l0, if_neg (by omega)]) ?_ ?_) (Bool.and_true _)
  · intro i hi hp r hr
    have e1 : wrap64 ((i : Int) + 1) = ((i + 1 : Nat) : Int) := by rw [w64 (by omega) (by omega)]; omega
    refine Ev.round (fun _ => by rw [spec_l5Bytes.l0]) ?_
    refine Ev.pos (by omega) ?_
    refine Ev.pos (by omega) ?_
    refine Ev.now_bind (l1In_eq _ _ _) ?_
    refine Ev.pos ?_ ?_
    · rw [rd_nat]; exact hp
    · simp only [e1]; exact hr
  · intro i hi hp
    refine Ev.round (fun _ => by rw [spec_l5Bytes.l0]) ?_
    refine Ev.pos (by omega) ?_
    refine Ev.pos (by omega) ?_
    refine Ev.now_bind (l1In_eq _ _ _) ?_
    refine Ev.neg ?_ (Ev.now _)
    rw [rd_nat]; exact ne_true_of_eq_false hp
def pRes (k : Int) (b : List Int) (h p q : Int) : Bool :=
  if k = 1 ∨ k = 2 then decide ((b.length : Int) ≤ 6) && (b.all (pIn · 0 255) && pZero h p q)
  else if k = 3 then decide ((b.length : Int) = 0) && pAddr h p q
  else if k = 4 then decide ((b.length : Int) = 0) && pZero h p q
  else false
theorem sIsResource_ev (k : Int) (b : List Int) (h p q : Int) (hb : b.length ≤ 1048576) : Ev (fun n => spec_IsResource.f n k b h p q) (pRes k b h p q) := by
  have hj : ∀ x : Bool, Ev (fun n => spec_IsResource.j0 n x k b h p q) (!x && (if k = 3 then pAddr h p q && ((b.length : Int) == 0) else (pZero h p q && (if k = 4 then ((b.length : Int) == 0) else true)))) := by
    intro x
    refine Ev.round (fun _ => by rw [spec_IsResource.j0]) ?_
    cases x with
    | true => exact Ev.pos rfl (Ev.now _)
    | false =>
      refine Ev.neg (by simp) ?_
      by_cases h3 : k = 3
      · refine Ev.pos h3 ?_
        simp only [h3, if_true, Bool.not_false, Bool.true_and]
        exact Ev.now_and (sIsAddress_eq _ _ _) fun _ => Ev.now _
      · refine Ev.neg h3 ?_
        simp only [h3, if_false, Bool.not_false, Bool.true_and]
        by_cases hz : pZero h p q = true
        · refine Ev.pos hz ?_
          by_cases h4 : k = 4
          · refine Ev.pos h4 ?_
            exact Ev.cast (Ev.now _) (by simp [h4, hz])
          · refine Ev.neg h4 ?_
            exact Ev.cast (Ev.now _) (by simp [h4, hz])
        · refine Ev.neg hz ?_
          exact Ev.cast (Ev.now _) (by simp [hz])
  unfold spec_IsResource.f
  refine Ev.now_bind (l1In_eq _ _ _) ?_
  by_cases hk : 1 ≤ k ∧ k ≤ 4
  · refine Ev.pos (by simp [hk]) ?_
    refine Ev.bind (l5Bytes_ev b hb) ?_
    have hcases : k = 1 ∨ k = 2 ∨ k = 3 ∨ k = 4 := by omega
    cases hall : b.all (pIn · 0 255) with
    | true =>
      refine Ev.pos rfl ?_
      refine Ev.cast (hj _) ?_
      unfold pRes
      have h6 : decide ((b.length : Int) > 6) = !decide ((b.length : Int) ≤ 6) := by
        by_cases c : (b.length : Int) ≤ 6
        · have : ¬ (b.length : Int) > 6 := by omega
          simp [c, this]
        · have : (b.length : Int) > 6 := by omega
          simp [c, this]
      rw [h6]
      rcases hcases with rfl | rfl | rfl | rfl
      · simp [hall]
      · simp [hall]
      · by_cases c : b.length = 0
        · have hn : b = [] := List.eq_nil_of_length_eq_zero c
          subst hn
          simp
        · simp [c]
      · by_cases c : b.length = 0
        · have hn : b = [] := List.eq_nil_of_length_eq_zero c
          subst hn
          simp
        · simp [c]
    | false =>
      refine Ev.neg (by simp) ?_
      refine Ev.cast (hj true) ?_
      unfold pRes
      have hne : b ≠ [] := by
        rintro rfl
        simp at hall
      have h0 : ¬ b.length = 0 := fun e => hne (List.eq_nil_of_length_eq_zero e)
      rcases hcases with rfl | rfl | rfl | rfl
      · simp [hall]
      · simp [hall]
      · simp [h0]
      · simp [h0]
  · refine Ev.neg (by simp; omega) ?_
    refine Ev.cast (hj true) ?_
    have hp : pRes k b h p q = false := by
      unfold pRes
      rw [if_neg (by omega), if_neg (by omega), if_neg (by omega)]
    rw [hp]
    simp
def pCapture (y : S40) : Bool := pAddr y.f0.f0 y.f0.f1 y.f0.f2 && (pIn y.f1 0 2000 && pRes y.f2.f0 y.f2.f1 y.f2.f2.f0 y.f2.f2.f1 y.f2.f2.f2)
def pAreCaptures (l : List S40) : Bool := l.all pCapture && decide ((l.length : Int) ≤ 20)
theorem sAreCaptures_ev (l : List S40) (h : l.length ≤ 1048576) (hf : ∀ y ∈ l, FitimplCapture y) : Ev (fun k => spec_AreCaptures.f k l) (pAreCaptures l) := by
  unfold spec_AreCaptures.f pAreCaptures
  refine ev_all (fun k i => spec_AreCaptures.l0 k l i) l z40 pCapture _ (fun k => by rw [spec_AreCaptures.l0, if_neg (by omega)]) ?_ ?_
  · intro i hi hp r hr
    have e1 : wrap64 ((i : Int) + 1) = ((i + 1 : Nat) : Int) := by rw [w64 (by omega) (by omega)]; omega
    have hp' : pCapture (rd_T40 l (i : Int)) = true := hp
    have hfy : FitimplCapture (rd_T40 l (i : Int)) := hf _ (getD_mem l i hi z40)
    generalize hy : rd_T40 l (i : Int) = y at hp' hfy
    unfold pCapture at hp'
    simp only [Bool.and_eq_true] at hp'
    obtain ⟨p1, p2, p3⟩ := hp'
    refine Ev.round (fun _ => by rw [spec_AreCaptures.l0]) ?_
    refine Ev.pos (by omega) ?_
    refine Ev.pos (by omega) ?_
    simp only [hy, e1]
    refine Ev.now_bind (sIsAddress_eq _ _ _) ?_
    refine Ev.pos (by simp [p1]) ?_
    refine Ev.now_bind (l1In_eq _ _ _) ?_
    refine Ev.pos (by simp [p2]) ?_
    refine Ev.bind (sIsResource_ev _ _ _ _ _ hfy) ?_
    exact Ev.pos p3 hr
  · intro i hi hp
    have hp' : pCapture (rd_T40 l (i : Int)) = false := hp
    have hfy : FitimplCapture (rd_T40 l (i : Int)) := hf _ (getD_mem l i hi z40)
    generalize hy : rd_T40 l (i : Int) = y at hp' hfy
    unfold pCapture at hp'
    refine Ev.round (fun _ => by rw [spec_AreCaptures.l0]) ?_
    refine Ev.pos (by omega) ?_
    refine Ev.pos (by omega) ?_
    simp only [hy]
    refine Ev.now_bind (sIsAddress_eq _ _ _) ?_
    cases p1 : pAddr y.f0.f0 y.f0.f1 y.f0.f2 with
    | false => exact Ev.neg (by simp) (Ev.now _)
    | true =>
      rw [p1, Bool.true_and] at hp'
      refine Ev.pos rfl ?_
      refine Ev.now_bind (l1In_eq _ _ _) ?_
      cases p2 : pIn y.f1 0 2000 with
      | false => exact Ev.neg (ne_true_of_eq_false p2) (Ev.now _)
      | true =>
        rw [p2, Bool.true_and] at hp'
        refine Ev.pos p2 ?_
        refine Ev.bind (sIsResource_ev _ _ _ _ _ hfy) ?_
        refine Ev.neg (ne_true_of_eq_false hp') ?_
        exact Ev.now _
theorem sMin_eq (a b : Int) : spec_Min.f a b = some (if b < a then b else a) := by
  unfold spec_Min.f
  split <;> rfl
def pSum (b : List Int) : Int := b.foldl (fun x y => x + y) 0
def pVal (k : Int) (b : List Int) (h p q : Int) : Int :=
  if pRes k b h p q = true ∧ (k = 1 ∨ k = 2) then (if pSum b % 1000 < 999 then pSum b % 1000 + 1 else 999) else 0
theorem fold_mod (b : List Int) : ∀ x : Int, b.foldl (fun x y => (x + y) % 1000) (x % 1000) = (b.foldl (fun x y => x + y) x) % 1000 := by
  induction b with
  | nil => intro x; rfl
  | cons y b ih =>
    intro x
    rw [List.foldl_cons, List.foldl_cons, ← ih (x + y)]
    congr 1
    omega
theorem pRes_body {k : Int} {b : List Int} {h p q : Int} (hr : pRes k b h p q = true) (hk : k = 1 ∨ k = 2) : b.length ≤ 6 ∧ ∀ y ∈ b, 0 ≤ y ∧ y ≤ 255 := by
  unfold pRes at hr
  rw [if_pos hk] at hr
  simp only [Bool.and_eq_true, decide_eq_true_eq, List.all_eq_true] at hr
  exact ⟨by omega, fun y hy => hr.2.1 y hy⟩
theorem sValue_ev (k : Int) (b : List Int) (h p q : Int) (hb : b.length ≤ 1048576) : Ev (fun n => spec_ValueOfResource.f n k b h p q) (pVal k b h p q) := by
  have hj1 : Ev (fun n => spec_ValueOfResource.j0 n true k b h p q) 0 := by
    refine Ev.round (fun _ => by rw [spec_ValueOfResource.j0]) ?_
    refine Ev.pos rfl ?_
    exact Ev.now _
  unfold spec_ValueOfResource.f pVal
  refine Ev.bind (sIsResource_ev k b h p q hb) ?_
  cases hr : pRes k b h p q with
  | false =>
    refine Ev.neg (by simp) ?_
    exact Ev.cast hj1 (by simp)
  | true =>
    refine Ev.pos rfl ?_
    by_cases hk : k = 1 ∨ k = 2
    · rw [if_pos ⟨rfl, hk⟩, decide_eq_false (show ¬ k > 2 by omega)]
      obtain ⟨hl, hy⟩ := pRes_body hr hk
      refine Ev.round (fun _ => by rw [spec_ValueOfResource.j0]) ?_
      refine Ev.neg (by simp) ?_
      have hf := fold_mod b 0
      have main := ev_foldl (fun n x i => spec_ValueOfResource.l0 n x i k b h p q) b 0 (fun x y => (x + y) % 1000) (fun x => if x < 999 then x + 1 else 999) (fun _ x => 0 ≤ x ∧ x < 1000) 0 ⟨by omega, by omega⟩ ?_ ?_
      · rw [show (0 : Int) = 0 % 1000 from rfl, hf] at main
        exact main
      · intro x hx
        refine Ev.round (fun _ => by rw [spec_ValueOfResource.l0]) ?_
        refine Ev.neg (by omega) ?_
        refine Ev.now_bind (sMin_eq _ _) ?_
        rw [w64 (by omega) (by omega)]
        refine Ev.cast (Ev.now _) ?_
        by_cases c : x < 999
        · rw [if_pos c]
          split <;> omega
        · rw [if_neg c, if_neg (by omega)]
      · intro i x hi hx
        have e1 : wrap64 ((i : Int) + 1) = ((i + 1 : Nat) : Int) := by rw [w64 (by omega) (by omega)]; omega
        have hv := hy _ (getD_mem b i hi 0)
        refine ⟨⟨by omega, by omega⟩, fun r hr2 => ?_⟩
        refine Ev.round (fun _ => by rw [spec_ValueOfResource.l0]) ?_
        refine Ev.pos (by omega) ?_
        refine Ev.pos (by omega) ?_
        have e2 : Int.tmod (wrap64 (x + rd b (i : Int))) 1000 = (x + b.getD i 0) % 1000 := by
          rw [rd_nat, w64 (by omega) (by omega), Int.tmod_eq_emod_of_nonneg (by omega)]
        simp only [e1, e2]
        exact hr2
    · rw [if_neg (fun c => hk c.2)]
      have h34 : k > 2 := by
        unfold pRes at hr
        rw [if_neg hk] at hr
        by_cases h3 : k = 3
        · omega
        · rw [if_neg h3] at hr
          by_cases h4 : k = 4
          · omega
          · rw [if_neg h4] at hr
            simp at hr
      rw [decide_eq_true h34]
      exact hj1
def pFits (m0 m1 aq k : Int) (b : List Int) (h p z : Int) : Bool :=
  pIn m0 0 999 && (pIn m1 0 999 && ((pRes k b h p z && decide (k ≤ 2)) && (pIn aq 0 99 && (pVal k b h p z == (m0 + m1 * aq) % 1000))))
theorem says_bound {m0 m1 q : Int} (a : pIn m0 0 999 = true) (b : pIn m1 0 999 = true) (c : pIn q 0 99 = true) : 0 ≤ m1 * q ∧ m1 * q ≤ 98901 ∧ 0 ≤ m0 ∧ m0 ≤ 999 := by
  simp only [pIn, Bool.and_eq_true, decide_eq_true_eq] at a b c
  have p0 : 0 ≤ m1 * q := Int.mul_nonneg b.1 c.1
  have p1 : m1 * q ≤ 999 * 99 := Int.mul_le_mul b.2 c.2 c.1 (by omega)
  omega
theorem pRes_kind {k : Int} {b : List Int} {h p q : Int} (hr : pRes k b h p q = true) : 1 ≤ k ∧ k ≤ 4 := by
  unfold pRes at hr
  by_cases h1 : k = 1 ∨ k = 2
  · omega
  rw [if_neg h1] at hr
  by_cases h3 : k = 3
  · omega
  rw [if_neg h3] at hr
  by_cases h4 : k = 4
  · omega
  rw [if_neg h4] at hr
  simp at hr
theorem sFits_ev (m0 m1 m2 : Int) (m3 : Bool) (c0 c1 aq ct k : Int) (b : List Int) (h p z : Int) (hf : b.length ≤ 1048576) : Ev (fun n => spec_FitsForm.f n m0 m1 m2 m3 c0 c1 aq ct k b h p z) (pFits m0 m1 aq k b h p z) := by
  unfold spec_FitsForm.f spec_l19Kind.f pFits
  refine Ev.now_and (l1In_eq _ _ _) fun h0 => Ev.now_and (l1In_eq _ _ _) fun h1 => Ev.and (Ev.and (sIsResource_ev _ _ _ _ _ hf) fun _ => Ev.now _) fun _ => Ev.now_and (l1In_eq _ _ _) fun h2 => Ev.bind (sValue_ev _ _ _ _ _ hf) ?_
  obtain ⟨b0, b1, b2, b3⟩ := says_bound h0 h1 h2
  have e1 : wrap64 (m1 * aq) = m1 * aq := w64 (by omega) (by omega)
  have e2 : wrap64 (m0 + m1 * aq) = m0 + m1 * aq := w64 (by omega) (by omega)
  have e3 : Int.tmod (m0 + m1 * aq) 1000 = (m0 + m1 * aq) % 1000 := Int.tmod_eq_emod_of_nonneg (by omega)
  rw [e1, e2, e3]
  exact Ev.now _
theorem InRange_eq (a b c : Int) : impl_InRange.f a b c = some (decide (b ≤ a) && decide (a ≤ c)) := by
  unfold impl_InRange.f
  by_cases h : b ≤ a <;> simp [h]
theorem tmod1000 (a : Int) : Int.tmod (Int.tmod a 1000 + 1000) 1000 = a % 1000 ∧ -1000 < Int.tmod a 1000 ∧ Int.tmod a 1000 < 1000 := by
  rcases Int.le_total 0 a with h | h
  · rw [Int.tmod_eq_emod_of_nonneg h, Int.tmod_eq_emod_of_nonneg (by omega)]
    omega
  · obtain ⟨m, rfl⟩ : ∃ m : Int, a = -m := ⟨-a, by omega⟩
    rw [Int.neg_tmod, Int.tmod_eq_emod_of_nonneg (by omega : 0 ≤ m), Int.tmod_eq_emod_of_nonneg (by omega)]
    omega
theorem sMod_eq (a : Int) : spec_Mod.f a 1000 = some (a % 1000) := by
  obtain ⟨h1, h2, h3⟩ := tmod1000 a
  unfold spec_Mod.f
  rw [l1In_eq, w64 (by omega) (by omega), h1]
  simp
theorem iMod_eq (a : Int) : impl_Mod.f a 1000 = some (a % 1000) := by
  obtain ⟨h1, h2, h3⟩ := tmod1000 a
  unfold impl_Mod.f
  rw [InRange_eq, w64 (by omega) (by omega), h1]
  simp
abbrev Mdl := Int × Int × Int × Bool
def valOf (y : S40) : Int := pVal y.f2.f0 y.f2.f1 y.f2.f2.f0 y.f2.f2.f1 y.f2.f2.f2
theorem pVal_in (k : Int) (b : List Int) (h p q : Int) : 0 ≤ pVal k b h p q ∧ pVal k b h p q ≤ 999 := by
  unfold pVal
  split
  · split
    · omega
    · omega
  · omega
def pMine (a p : Int) (y : S40) : Bool := (y.f0.f0 == a && y.f0.f1 == p) && decide (y.f2.f0 = 1 ∨ y.f2.f0 = 2)
def pFit (b s : Int) (y : S40) : Bool := valOf y == (b + s * y.f0.f2) % 1000
def pHit (v q : Int) (y : S40) (s : Int) : Bool := pFit ((v - s * q) % 1000) s y
def pSearch (v q : Int) (y : S40) : Nat → Option Int
  | 0 => none
  | d + 1 => if pHit v q y (1000 - ((d : Int) + 1)) = true then some (1000 - ((d : Int) + 1)) else pSearch v q y d
theorem pSearch_in (v q : Int) (y : S40) (s : Int) : ∀ d : Nat, d ≤ 1000 → pSearch v q y d = some s → 0 ≤ s ∧ s ≤ 999 := by
  intro d
  induction d with
  | zero => intro _ h; cases h
  | succ d ih =>
    intro hd h
    unfold pSearch at h
    split at h
    · have := Option.some.inj h
      omega
    · exact ih (by omega) h
def finOf (m : List S40) (b s : Int) : Mdl := (b, s, (m.length : Int), m.all (pFit b s))
def learnOf (m : List S40) (v q : Int) (o : Option S40) : Mdl :=
  match o with
  | none => finOf m v 0
  | some y => match pSearch v q y 1000 with
    | none => finOf m v 0
    | some s => finOf m ((v - s * q) % 1000) s
def pOther (q : Int) (y : S40) : Bool := !(y.f0.f2 == q)
def pModel (m : List S40) : Mdl := if (m.length : Int) = 0 then (0, 0, 0, true) else learnOf m (valOf (rd_T40 m 0)) (rd_T40 m 0).f0.f2 (m.find? (pOther (rd_T40 m 0).f0.f2))
def mineStep (a p : Int) (s : List S40) (y : S40) : List S40 := if pMine a p y = true then s ++ [y] else s
def pLearn (l : List S40) (a p q : Int) : Mdl := if pAreCaptures l = true ∧ pAddr a p q = true then pModel (l.foldl (mineStep a p) []) else (0, 0, 0, false)
/-- What stands on the list of those that count. -/
def GoodC (a p : Int) (y : S40) : Prop := FitimplCapture y ∧ pIn y.f0.f2 0 99 = true ∧ pRes y.f2.f0 y.f2.f1 y.f2.f2.f0 y.f2.f2.f1 y.f2.f2.f2 = true ∧ (y.f2.f0 = 1 ∨ y.f2.f0 = 2) ∧ y.f0.f0 = a ∧ y.f0.f1 = p
theorem goodC_of {a p : Int} {y : S40} (hf : FitimplCapture y) (hc : pCapture y = true) (hm : pMine a p y = true) : GoodC a p y := by
  unfold pCapture at hc
  unfold pMine at hm
  simp only [Bool.and_eq_true, decide_eq_true_eq, beq_iff_eq] at hc hm
  refine ⟨hf, ?_, hc.2.2, hm.2, hm.1.1, hm.1.2⟩
  have h1 := hc.1
  simp [pIn] at h1 ⊢
  omega
theorem pFits_good {a p b s : Int} {y : S40} (h : GoodC a p y) (hb : 0 ≤ b ∧ b ≤ 999) (hs : 0 ≤ s ∧ s ≤ 999) : pFits b s y.f0.f2 y.f2.f0 y.f2.f1 y.f2.f2.f0 y.f2.f2.f1 y.f2.f2.f2 = pFit b s y := by
  obtain ⟨_, h1, h2, h3, _⟩ := h
  have e0 : pIn b 0 999 = true := by simp only [pIn, Bool.and_eq_true, decide_eq_true_eq]; exact hb
  have e1 : pIn s 0 999 = true := by simp only [pIn, Bool.and_eq_true, decide_eq_true_eq]; exact hs
  have e2 : decide (y.f2.f0 ≤ 2) = true := decide_eq_true (by omega)
  unfold pFits pFit valOf
  rw [e0, e1, h2, e2, h1]
  simp only [Bool.true_and]
theorem mul_in {s q : Int} (hs : 0 ≤ s ∧ s ≤ 999) (hq : pIn q 0 99 = true) : 0 ≤ s * q ∧ s * q ≤ 98901 := by
  simp only [pIn, Bool.and_eq_true, decide_eq_true_eq] at hq
  have p0 : 0 ≤ s * q := Int.mul_nonneg hs.1 hq.1
  have p1 : s * q ≤ 999 * 99 := Int.mul_le_mul hs.2 hq.2 hq.1 (by omega)
  omega
theorem mine_good (a p : Int) (l : List S40) (hf : ∀ y ∈ l, FitimplCapture y) (hc : pAreCaptures l = true) : ∀ y ∈ l, FitimplCapture y ∧ pCapture y = true := by
  unfold pAreCaptures at hc
  simp only [Bool.and_eq_true, List.all_eq_true] at hc
  exact fun y hy => ⟨hf y hy, hc.1 y hy⟩
theorem sStep_ev {a p : Int} {x y : S40} (hx : GoodC a p x) (hy : GoodC a p y) : Ev (fun k => spec_l19Step.f k x.f0.f0 x.f0.f1 x.f0.f2 x.f1 x.f2.f0 x.f2.f1 x.f2.f2.f0 x.f2.f2.f1 x.f2.f2.f2 y.f0.f0 y.f0.f1 y.f0.f2 y.f1 y.f2.f0 y.f2.f1 y.f2.f2.f0 y.f2.f2.f1 y.f2.f2.f2) (match pSearch (valOf x) x.f0.f2 y 1000 with | none => ((-1 : Int), (-1 : Int)) | some s => (s, (valOf x - s * x.f0.f2) % 1000)) := by
  unfold spec_l19Step.f
  have hv := pVal_in x.f2.f0 x.f2.f1 x.f2.f2.f0 x.f2.f2.f1 x.f2.f2.f2
  have key : ∀ d : Nat, d ≤ 1000 → ∀ n : Int, n = 1000 - (d : Int) → Ev (fun k => spec_l19Step.l0 k n x.f0.f0 x.f0.f1 x.f0.f2 x.f1 x.f2.f0 x.f2.f1 x.f2.f2.f0 x.f2.f2.f1 x.f2.f2.f2 y.f0.f0 y.f0.f1 y.f0.f2 y.f1 y.f2.f0 y.f2.f1 y.f2.f2.f0 y.f2.f2.f1 y.f2.f2.f2) (match pSearch (valOf x) x.f0.f2 y d with | none => ((-1 : Int), (-1 : Int)) | some s => (s, (valOf x - s * x.f0.f2) % 1000)) := by
    intro d
    induction d with
    | zero =>
      intro _ n hn
      refine Ev.round (fun _ => by rw [spec_l19Step.l0]) ?_
      exact Ev.neg (by omega) (Ev.now _)
    | succ d ih =>
      intro hd n hn
      have h := ih (by omega) (n + 1) (by omega)
      have hm := mul_in (s := n) ⟨by omega, by omega⟩ hx.2.1
      have e1 : wrap64 (n + 1) = n + 1 := w64 (by omega) (by omega)
      have e2 : wrap64 (n * x.f0.f2) = n * x.f0.f2 := w64 (by omega) (by omega)
      have e3 : wrap64 (valOf x - n * x.f0.f2) = valOf x - n * x.f0.f2 := by
        have hv' : 0 ≤ valOf x ∧ valOf x ≤ 999 := hv
        exact w64 (by omega) (by omega)
      have e4 := pFits_good (b := (valOf x - n * x.f0.f2) % 1000) (s := n) hy ⟨by omega, by omega⟩ ⟨by omega, by omega⟩
      have e5 : pHit (valOf x) x.f0.f2 y n = pFit ((valOf x - n * x.f0.f2) % 1000) n y := rfl
      refine Ev.round (fun _ => by rw [spec_l19Step.l0]) ?_
      refine Ev.pos (by omega) ?_
      refine Ev.bind (sValue_ev _ _ _ _ _ hx.1) ?_
      have hv2 : pVal x.f2.f0 x.f2.f1 x.f2.f2.f0 x.f2.f2.f1 x.f2.f2.f2 = valOf x := rfl
      simp only [hv2, e1, e2, e3]
      refine Ev.now_bind (sMod_eq _) ?_
      refine Ev.bind (sFits_ev _ _ _ _ _ _ _ _ _ _ _ _ _ hy.1) ?_
      rw [e4, ← e5]
      unfold pSearch
      have e6 : (1000 : Int) - ((d : Int) + 1) = n := by omega
      rw [e6]
      cases hp : pHit (valOf x) x.f0.f2 y n with
      | true =>
        rw [if_pos rfl]
        exact Ev.pos rfl (Ev.now _)
      | false =>
        rw [if_neg (by simp)]
        exact Ev.neg (by simp) h
  exact key 1000 (by omega) 0 (by omega)
theorem sFin_ev {a p : Int} (m : List S40) (hm : m.length ≤ 1048576) (hg : ∀ y ∈ m, GoodC a p y) (b s n : Int) (hb : 0 ≤ b ∧ b ≤ 999) (hs : 0 ≤ s ∧ s ≤ 999) : ∀ d i : Nat, i + d = m.length → ∀ f : Bool, Ev (fun k => spec_LearnForm.l2 k m (i : Int) b s n f) (b, s, n, f && (m.drop i).all (pFit b s)) := by
  intro d
  induction d with
  | zero =>
    intro i hi f
    obtain rfl : i = m.length := by omega
    rw [List.drop_length, List.all_nil, Bool.and_true]
    refine Ev.round (fun _ => by rw [spec_LearnForm.l2]) ?_
    exact Ev.neg (by omega) (Ev.now _)
  | succ d ih =>
    intro i hi f
    have hil : i < m.length := by omega
    have e1 : wrap64 ((i : Int) + 1) = ((i + 1 : Nat) : Int) := by rw [w64 (by omega) (by omega)]; omega
    have hgy : GoodC a p (rd_T40 m (i : Int)) := hg _ (getD_mem m i hil z40)
    rw [drop_cons m i hil z40, List.all_cons]
    refine Ev.round (fun _ => by rw [spec_LearnForm.l2]) ?_
    refine Ev.pos (by omega) ?_
    cases f with
    | true =>
      refine Ev.pos rfl ?_
      refine Ev.pos (by omega) ?_
      refine Ev.bind (sFits_ev _ _ _ _ _ _ _ _ _ _ _ _ _ hgy.1) ?_
      rw [pFits_good hgy hb hs]
      simp only [e1]
      rw [Bool.true_and]
      exact ih (i + 1) (by omega) _
    | false =>
      refine Ev.neg (by simp) ?_
      simp only [e1]
      have h := ih (i + 1) (by omega) false
      rw [Bool.false_and] at h ⊢
      exact h
theorem sModel_ev {a p : Int} (m : List S40) (hm : m.length ≤ 1048576) (h0 : 0 < m.length) (hg : ∀ y ∈ m, GoodC a p y) : Ev (fun k => spec_LearnForm.l1 k m 1 (valOf (rd_T40 m 0)) 0 (m.length : Int) true) (learnOf m (valOf (rd_T40 m 0)) (rd_T40 m 0).f0.f2 (m.find? (pOther (rd_T40 m 0).f0.f2))) := by
  have hgx : GoodC a p (rd_T40 m 0) := hg _ (getD_mem m 0 h0 z40)
  have hvx : 0 ≤ valOf (rd_T40 m 0) ∧ valOf (rd_T40 m 0) ≤ 999 := pVal_in _ _ _ _ _
  have e0 : m.find? (pOther (rd_T40 m 0).f0.f2) = (m.drop 1).find? (pOther (rd_T40 m 0).f0.f2) := by
    have h1 := drop_cons m 0 h0 z40
    rw [List.drop_zero] at h1
    have h2 : pOther (rd_T40 m 0).f0.f2 (m.getD 0 z40) = false := by
      show (!((m.getD 0 z40).f0.f2 == (rd_T40 m 0).f0.f2)) = false
      have h3 : m.getD 0 z40 = rd_T40 m 0 := rfl
      rw [h3]
      simp
    have h4 : m.find? (pOther (rd_T40 m 0).f0.f2) = (m.getD 0 z40 :: m.drop (0 + 1)).find? (pOther (rd_T40 m 0).f0.f2) := congrArg _ h1
    rw [h4, List.find?_cons_of_neg (by rw [h2]; simp)]
  rw [e0]
  have fin : ∀ b s : Int, 0 ≤ b ∧ b ≤ 999 → 0 ≤ s ∧ s ≤ 999 → Ev (fun k => spec_LearnForm.j3 k m b s (m.length : Int) true) (finOf m b s) := by
    intro b s hb hs
    refine Ev.round (fun _ => by rw [spec_LearnForm.j3]) ?_
    have h := sFin_ev m hm hg b s (m.length : Int) hb hs m.length 0 (by omega) true
    rw [List.drop_zero, Bool.true_and] at h
    exact h
  generalize hx : rd_T40 m 0 = x at hgx hvx e0
  have key : ∀ d i : Nat, 1 ≤ i → i + d = m.length → Ev (fun k => spec_LearnForm.l1 k m (i : Int) (valOf x) 0 (m.length : Int) true) (learnOf m (valOf x) x.f0.f2 ((m.drop i).find? (pOther x.f0.f2))) := by
    intro d
    induction d with
    | zero =>
      intro i h1 hi
      obtain rfl : i = m.length := by omega
      rw [List.drop_length, List.find?_nil]
      refine Ev.round (fun _ => by rw [spec_LearnForm.l1]) ?_
      exact Ev.neg (by omega) (fin _ _ hvx ⟨by omega, by omega⟩)
    | succ d ih =>
      intro i h1 hi
      have hil : i < m.length := by omega
      have e1 : wrap64 ((i : Int) + 1) = ((i + 1 : Nat) : Int) := by rw [w64 (by omega) (by omega)]; omega
      have hgy : GoodC a p (rd_T40 m (i : Int)) := hg _ (getD_mem m i hil z40)
      have h := ih (i + 1) (by omega) (by omega)
      rw [drop_cons m i hil z40]
      have hgd : m.getD i z40 = rd_T40 m (i : Int) := rfl
      rw [hgd]
      refine Ev.round (fun _ => by rw [spec_LearnForm.l1]) ?_
      refine Ev.pos (by omega) ?_
      refine Ev.pos (by omega) ?_
      refine Ev.pos (by omega) ?_
      rw [hx]
      generalize hy : rd_T40 m (i : Int) = y at hgy
      simp only [e1]
      have ec : (!(y.f0.f0 == x.f0.f0) || (!(y.f0.f1 == x.f0.f1) || (!(y.f0.f2 == x.f0.f2)))) = pOther x.f0.f2 y := by
        rw [hgy.2.2.2.2.1, hgx.2.2.2.2.1, hgy.2.2.2.2.2, hgx.2.2.2.2.2]
        unfold pOther
        simp
      rw [ec]
      cases hp : pOther x.f0.f2 y with
      | true =>
        rw [List.find?_cons_of_pos hp]
        refine Ev.pos rfl ?_
        refine Ev.bind (sStep_ev hgx hgy) ?_
        cases hs : pSearch (valOf x) x.f0.f2 y 1000 with
        | none =>
          have em : learnOf m (valOf x) x.f0.f2 (some y) = finOf m (valOf x) 0 := by unfold learnOf; dsimp only; rw [hs]
          rw [em]
          refine Ev.neg (by dsimp only; omega) ?_
          exact fin (valOf x) 0 hvx ⟨by omega, by omega⟩
        | some s =>
          have hsi := pSearch_in (valOf x) x.f0.f2 y s 1000 (by omega) hs
          have em : learnOf m (valOf x) x.f0.f2 (some y) = finOf m ((valOf x - s * x.f0.f2) % 1000) s := by unfold learnOf; dsimp only; rw [hs]
          rw [em]
          refine Ev.pos hsi.1 ?_
          exact fin ((valOf x - s * x.f0.f2) % 1000) s ⟨by omega, by omega⟩ hsi
      | false =>
        rw [List.find?_cons_of_neg (by rw [hp]; simp)]
        exact Ev.neg (by simp) h
  have hk := key (m.length - 1) 1 (by omega) (by omega)
  exact hk
theorem sLearn_ev (l : List S40) (a p q : Int) (h : l.length ≤ 1048576) (hf : ∀ y ∈ l, FitimplCapture y) : Ev (fun k => spec_LearnForm.f k l a p q) (pLearn l a p q) := by
  unfold spec_LearnForm.f pLearn
  refine Ev.bind (sAreCaptures_ev l h hf) ?_
  by_cases c1 : pAreCaptures l = true
  · refine Ev.pos c1 ?_
    refine Ev.now_bind (sIsAddress_eq _ _ _) ?_
    by_cases c2 : pAddr a p q = true
    · rw [if_pos ⟨c1, c2⟩, c2]
      refine Ev.round (fun _ => by rw [spec_LearnForm.j0]) ?_
      refine Ev.neg (by simp) ?_
      have hgl := mine_good a p l hf c1
      refine ev_foldl (fun k (s : List S40) i => spec_LearnForm.l0 k l s i a p q 0 0 0 false) l z40 (mineStep a p) pModel (fun i s => s.length ≤ i ∧ ∀ y ∈ s, GoodC a p y) [] ⟨by simp, by simp⟩ ?_ ?_
      · intro s hs
        unfold pModel
        refine Ev.round (fun _ => by rw [spec_LearnForm.l0]) ?_
        refine Ev.neg (by omega) ?_
        by_cases c3 : (s.length : Int) = 0
        · rw [if_pos c3]
          refine Ev.pos c3 ?_
          refine Ev.cast (Ev.now _) ?_
          rw [c3]
        · rw [if_neg c3]
          have h0 : 0 < s.length := by omega
          have hgx : GoodC a p (rd_T40 s 0) := hs.2 _ (getD_mem s 0 h0 z40)
          refine Ev.neg c3 ?_
          refine Ev.pos (by omega) ?_
          refine Ev.bind (sValue_ev _ _ _ _ _ hgx.1) ?_
          exact sModel_ev s (by omega) h0 hs.2
      · intro i s hi hs
        have e1 : wrap64 ((i : Int) + 1) = ((i + 1 : Nat) : Int) := by rw [w64 (by omega) (by omega)]; omega
        obtain ⟨hfy, hcy⟩ := hgl _ (getD_mem l i hi z40)
        have hfy' : FitimplCapture (rd_T40 l (i : Int)) := hfy
        have hcy' : pCapture (rd_T40 l (i : Int)) = true := hcy
        refine ⟨?_, fun r hr => ?_⟩
        · show (mineStep a p s (rd_T40 l (i : Int))).length ≤ i + 1 ∧ ∀ y ∈ mineStep a p s (rd_T40 l (i : Int)), GoodC a p y
          unfold mineStep
          split
          · rename_i hp
            rw [List.length_append, List.length_singleton]
            refine ⟨by omega, fun y hy => ?_⟩
            rcases List.mem_append.1 hy with hy | hy
            · exact hs.2 y hy
            · rw [List.mem_singleton] at hy
              rw [hy]
              exact goodC_of hfy' hcy' hp
          · exact ⟨by omega, hs.2⟩
        have hr' : Ev (fun k => spec_LearnForm.l0 k l (mineStep a p s (rd_T40 l (i : Int))) ((i + 1 : Nat) : Int) a p q 0 0 0 false) r := hr
        refine Ev.round (fun _ => by rw [spec_LearnForm.l0]) ?_
        refine Ev.pos (by omega) ?_
        refine Ev.pos (by omega) ?_
        refine Ev.now_bind rfl ?_
        refine Ev.now_bind rfl ?_
        generalize hy : rd_T40 l (i : Int) = y at hr' hfy' hcy'
        simp only [e1]
        have hres : pRes y.f2.f0 y.f2.f1 y.f2.f2.f0 y.f2.f2.f1 y.f2.f2.f2 = true := by
          unfold pCapture at hcy'
          simp only [Bool.and_eq_true] at hcy'
          exact hcy'.2.2
        have hkd := pRes_kind hres
        have ek : decide (y.f2.f0 ≤ 2) = decide (y.f2.f0 = 1 ∨ y.f2.f0 = 2) := decide_eq_decide.2 (by omega)
        have em : mineStep a p s y = if pMine a p y = true then s ++ [y] else s := rfl
        rw [em] at hr'
        have e3 : (y.f0.f0 == a && (y.f0.f1 == p && ((0 : Int) == 0))) = (y.f0.f0 == a && y.f0.f1 == p) := by simp
        rw [e3]
        cases c4 : (y.f0.f0 == a && y.f0.f1 == p) with
        | true =>
          refine Ev.pos rfl ?_
          refine Ev.bind (Ev.and (sIsResource_ev _ _ _ _ _ hfy') fun _ => Ev.now _) ?_
          rw [hres, Bool.true_and, ek]
          have e5 : pMine a p y = decide (y.f2.f0 = 1 ∨ y.f2.f0 = 2) := by unfold pMine; rw [c4, Bool.true_and]
          rw [e5] at hr'
          cases c5 : decide (y.f2.f0 = 1 ∨ y.f2.f0 = 2) with
          | true =>
            rw [c5, if_pos rfl] at hr'
            exact Ev.pos rfl (Ev.pos (by omega) hr')
          | false =>
            rw [c5, if_neg (by simp)] at hr'
            exact Ev.neg (by simp) hr'
        | false =>
          have e5 : pMine a p y = false := by unfold pMine; rw [c4, Bool.false_and]
          rw [e5, if_neg (by simp)] at hr'
          exact Ev.neg (by simp) hr'
    · rw [if_neg (fun z => c2 z.2), Bool.eq_false_iff.mpr c2]
      refine Ev.round (fun _ => by rw [spec_LearnForm.j0]) ?_
      exact Ev.pos rfl (Ev.now _)
  · rw [if_neg (fun z => c1 z.1)]
    refine Ev.neg c1 ?_
    refine Ev.round (fun _ => by rw [spec_LearnForm.j0]) ?_
    exact Ev.pos rfl (Ev.now _)
theorem iIsAddress_eq (h p q : Int) : impl_IsAddress.f h p q = some (pAddr h p q) := by
  simp only [impl_IsAddress.f, InRange_eq, Option.bind_some, some_and]
theorem allIn_ev (l : List Int) (a b : Int) (h : l.length ≤ 1048576) : Ev (fun k => impl_allIn.f k l a b) (l.all (pIn · a b)) := by
  unfold impl_allIn.f
  refine Ev.cast (ev_all (fun k i => impl_allIn.l0 k a b l (l.length : Int) i) l 0 (pIn · a b) true (fun k => by rw [impl_allIn.l0, if_neg (by omega)]) ?_ ?_) (Bool.and_true _)
  · intro i hi hp r hr
    have e1 : wrap64 ((i : Int) + 1) = ((i + 1 : Nat) : Int) := by rw [w64 (by omega) (by omega)]; omega
    refine Ev.round (fun _ => by rw [impl_allIn.l0]) ?_
    refine Ev.pos (by omega) ?_
    refine Ev.pos (by omega) ?_
    refine Ev.pos (by omega) ?_
    refine Ev.now_bind (InRange_eq _ _ _) ?_
    refine Ev.pos ?_ ?_
    · rw [rd_nat]; exact hp
    · simp only [e1]; exact hr
  · intro i hi hp
    refine Ev.round (fun _ => by rw [impl_allIn.l0]) ?_
    refine Ev.pos (by omega) ?_
    refine Ev.pos (by omega) ?_
    refine Ev.pos (by omega) ?_
    refine Ev.now_bind (InRange_eq _ _ _) ?_
    refine Ev.neg ?_ (Ev.now _)
    rw [rd_nat]; exact ne_true_of_eq_false hp
theorem iIsResource_ev (k : Int) (b : List Int) (h p q : Int) (hb : b.length ≤ 1048576) : Ev (fun n => impl_IsResource.f n k b h p q) (pRes k b h p q) := by
  have hj : ∀ x : Bool, (x = true ↔ k = 1 ∨ k = 2) → Ev (fun n => impl_IsResource.j0 n k x k b h p q) (pRes k b h p q) := by
    intro x hx
    refine Ev.round (fun _ => by rw [impl_IsResource.j0]) ?_
    unfold pRes
    cases x with
    | true =>
      refine Ev.rpos (hx.1 rfl) ?_
      refine Ev.pos rfl ?_
      exact Ev.if_and fun _ => Ev.and (allIn_ev b 0 255 hb) fun _ => Ev.now _
    | false =>
      have hno : ¬ (k = 1 ∨ k = 2) := fun c => by simpa using hx.2 c
      refine Ev.rneg hno ?_
      refine Ev.neg (by simp) ?_
      by_cases h3 : k = 3
      · refine Ev.rpos h3 ?_
        refine Ev.pos h3 ?_
        exact Ev.if_and fun _ => Ev.now_bind (iIsAddress_eq _ _ _) (Ev.now _)
      · refine Ev.rneg h3 ?_
        refine Ev.neg h3 ?_
        by_cases h4 : k = 4
        · refine Ev.rpos h4 ?_
          refine Ev.pos h4 ?_
          exact Ev.if_and fun _ => Ev.now _
        · refine Ev.rneg h4 ?_
          refine Ev.neg h4 ?_
          exact Ev.now _
  unfold impl_IsResource.f
  by_cases h1 : k = 1
  · refine Ev.pos h1 (hj _ ?_)
    simp [h1]
  · refine Ev.neg h1 (hj _ ?_)
    simp [h1]
theorem iAreCapturesLit_ev (y : S40) (hf : FitimplCapture y) : Ev (fun k => impl_AreCaptures_lit1.f k y.f0.f0 y.f0.f1 y.f0.f2 y.f1 y.f2.f0 y.f2.f1 y.f2.f2.f0 y.f2.f2.f1 y.f2.f2.f2) (!pCapture y) := by
  unfold impl_AreCaptures_lit1.f pCapture
  refine Ev.now_bind (iIsAddress_eq _ _ _) ?_
  cases p1 : pAddr y.f0.f0 y.f0.f1 y.f0.f2 with
  | false => exact Ev.neg (by simp) (Ev.now _)
  | true =>
    refine Ev.pos rfl ?_
    refine Ev.now_bind (InRange_eq _ _ _) ?_
    cases p2 : pIn y.f1 0 2000 with
    | false => exact Ev.neg (ne_true_of_eq_false p2) (Ev.now _)
    | true =>
      refine Ev.pos p2 ?_
      rw [Bool.true_and, Bool.true_and]
      exact Ev.no (iIsResource_ev _ _ _ _ _ hf)
theorem iAreCaptures_ev (l : List S40) (h : l.length ≤ 1048576) (hf : ∀ y ∈ l, FitimplCapture y) : Ev (fun k => impl_AreCaptures.f k l) (pAreCaptures l) := by
  unfold impl_AreCaptures.f pAreCaptures
  rw [Bool.and_comm]
  refine Ev.if_and fun _ => ?_
  rw [← any_not]
  refine Ev.no ?_
  unfold slices_ContainsFunc_73.f
  have hf : ∃ r : Int, Ev (fun k => slices_IndexFunc_73.l0 k l (l.length : Int) 0) r ∧ decide (r ≥ 0) = l.any (fun y => !pCapture y) := by
    refine ev_find (fun k i => slices_IndexFunc_73.l0 k l (l.length : Int) i) l z40 (fun y => !pCapture y) (fun k => by rw [slices_IndexFunc_73.l0, if_neg (by omega)]) ?_ ?_
    · intro i hi hp
      refine Ev.round (fun _ => by rw [slices_IndexFunc_73.l0]) ?_
      refine Ev.pos (by omega) ?_
      refine Ev.pos (by omega) ?_
      refine Ev.pos (by omega) ?_
      refine Ev.bind (iAreCapturesLit_ev (rd_T40 l (i : Int)) (hf _ (getD_mem l i hi z40))) ?_
      refine Ev.pos hp ?_
      exact Ev.now _
    · intro i hi hp r hr
      have e1 : wrap64 ((i : Int) + 1) = ((i + 1 : Nat) : Int) := by rw [w64 (by omega) (by omega)]; omega
      refine Ev.round (fun _ => by rw [slices_IndexFunc_73.l0]) ?_
      refine Ev.pos (by omega) ?_
      refine Ev.pos (by omega) ?_
      refine Ev.pos (by omega) ?_
      refine Ev.bind (iAreCapturesLit_ev (rd_T40 l (i : Int)) (hf _ (getD_mem l i hi z40))) ?_
      refine Ev.neg (ne_true_of_eq_false hp) ?_
      simp only [e1]
      exact hr
  obtain ⟨r, hr, hd⟩ := hf
  rw [← hd]
  exact Ev.bind hr (Ev.now _)
theorem hasBody_eq (k : Int) : impl_hasBody.f k = some (decide (k = 1 ∨ k = 2)) := by
  unfold impl_hasBody.f
  by_cases h : k = 1
  · simp [h]
  · by_cases h2 : k = 2
    · simp [h2]
    · simp [h, h2]
theorem iValue_ev (k : Int) (b : List Int) (h p q : Int) (hb : b.length ≤ 1048576) : Ev (fun n => impl_ValueOfResource.f n k b h p q) (pVal k b h p q) := by
  have hj1 : Ev (fun n => impl_ValueOfResource.j0 n true k b h p q) 0 := by
    refine Ev.round (fun _ => by rw [impl_ValueOfResource.j0]) ?_
    refine Ev.pos rfl ?_
    exact Ev.now _
  unfold impl_ValueOfResource.f pVal
  refine Ev.bind (iIsResource_ev k b h p q hb) ?_
  cases hr : pRes k b h p q with
  | false =>
    refine Ev.neg (by simp) ?_
    exact Ev.cast hj1 (by simp)
  | true =>
    refine Ev.pos rfl ?_
    refine Ev.now_bind (hasBody_eq k) ?_
    by_cases hk : k = 1 ∨ k = 2
    · rw [if_pos ⟨rfl, hk⟩, decide_eq_true hk]
      obtain ⟨hl, hy⟩ := pRes_body hr hk
      refine Ev.round (fun _ => by rw [impl_ValueOfResource.j0]) ?_
      refine Ev.neg (by simp) ?_
      refine ev_foldl (fun n x i => impl_ValueOfResource.l0 n x b (b.length : Int) i) b 0 (fun x y => x + y) (fun x => if x % 1000 < 999 then x % 1000 + 1 else 999) (fun i x => 0 ≤ x ∧ x ≤ 255 * (i : Int)) 0 ⟨by omega, by omega⟩ ?_ ?_
      · intro x hx
        have e2 : Int.tmod x 1000 = x % 1000 := Int.tmod_eq_emod_of_nonneg (by omega)
        refine Ev.round (fun _ => by rw [impl_ValueOfResource.l0]) ?_
        refine Ev.neg (by omega) ?_
        simp only [e2]
        by_cases c : x % 1000 < 999
        · refine Ev.rpos c ?_
          refine Ev.pos c ?_
          rw [w64 (by omega) (by omega)]
          exact Ev.now _
        · refine Ev.rneg c ?_
          refine Ev.neg c ?_
          exact Ev.cast (Ev.now _) (by omega)
      · intro i x hi hx
        have e1 : wrap64 ((i : Int) + 1) = ((i + 1 : Nat) : Int) := by rw [w64 (by omega) (by omega)]; omega
        have hv := hy _ (getD_mem b i hi 0)
        refine ⟨⟨by omega, by omega⟩, fun r hr2 => ?_⟩
        refine Ev.round (fun _ => by rw [impl_ValueOfResource.l0]) ?_
        refine Ev.pos (by omega) ?_
        refine Ev.pos (by omega) ?_
        refine Ev.pos (by omega) ?_
        have e2 : wrap64 (x + rd b (i : Int)) = x + b.getD i 0 := by
          rw [rd_nat, w64 (by omega) (by omega)]
        simp only [e1, e2]
        exact hr2
    · rw [if_neg (fun c => hk c.2), decide_eq_false hk]
      exact hj1
theorem iSays2_eq {a p b s : Int} {y : S40} (hy : GoodC a p y) (hb : 0 ≤ b ∧ b ≤ 999) (hs : 0 ≤ s ∧ s ≤ 999) (n : Int) (f : Bool) : impl_Model_says.f b s n f y.f0.f2 = some ((b + s * y.f0.f2) % 1000) := by
  have hm := mul_in hs hy.2.1
  unfold impl_Model_says.f
  rw [w64 (n := s * y.f0.f2) (by omega) (by omega), w64 (n := b + s * y.f0.f2) (by omega) (by omega), iMod_eq]
  rfl
theorem iFin_ev {a p : Int} (m : List S40) (hm : m.length ≤ 1048576) (hg : ∀ y ∈ m, GoodC a p y) (b s n : Int) (hb : 0 ≤ b ∧ b ≤ 999) (hs : 0 ≤ s ∧ s ≤ 999) : ∀ d i : Nat, i + d = m.length → ∀ f : Bool, Ev (fun k => impl_LearnForm.l3 k m (m.length : Int) (i : Int) b s n f) (b, s, n, f && (m.drop i).all (pFit b s)) := by
  intro d
  induction d with
  | zero =>
    intro i hi f
    obtain rfl : i = m.length := by omega
    rw [List.drop_length, List.all_nil, Bool.and_true]
    refine Ev.round (fun _ => by rw [impl_LearnForm.l3]) ?_
    exact Ev.neg (by omega) (Ev.now _)
  | succ d ih =>
    intro i hi f
    have hil : i < m.length := by omega
    have e1 : wrap64 ((i : Int) + 1) = ((i + 1 : Nat) : Int) := by rw [w64 (by omega) (by omega)]; omega
    have hgy : GoodC a p (rd_T40 m (i : Int)) := hg _ (getD_mem m i hil z40)
    rw [drop_cons m i hil z40, List.all_cons]
    have hgd : m.getD i z40 = rd_T40 m (i : Int) := rfl
    rw [hgd]
    refine Ev.round (fun _ => by rw [impl_LearnForm.l3]) ?_
    refine Ev.pos (by omega) ?_
    refine Ev.pos (by omega) ?_
    refine Ev.pos (by omega) ?_
    cases f with
    | true =>
      refine Ev.pos rfl ?_
      refine Ev.now_bind (iSays2_eq hgy hb hs _ _) ?_
      refine Ev.bind (iValue_ev _ _ _ _ _ hgy.1) ?_
      simp only [e1]
      have e2 : ((b + s * (rd_T40 m (i : Int)).f0.f2) % 1000 == pVal (rd_T40 m (i : Int)).f2.f0 (rd_T40 m (i : Int)).f2.f1 (rd_T40 m (i : Int)).f2.f2.f0 (rd_T40 m (i : Int)).f2.f2.f1 (rd_T40 m (i : Int)).f2.f2.f2) = pFit b s (rd_T40 m (i : Int)) := by
        unfold pFit valOf
        rw [Bool.beq_comm]
      rw [e2, Bool.true_and]
      exact ih (i + 1) (by omega) _
    | false =>
      refine Ev.neg (by simp) ?_
      simp only [e1]
      have h := ih (i + 1) (by omega) false
      rw [Bool.false_and] at h ⊢
      exact h
theorem iSearch_ev {a p : Int} (m : List S40) (x y : S40) (hx : GoodC a p x) (hy : GoodC a p y) (b0 s0 n : Int) (r : Mdl) (fin : ∀ b s : Int, 0 ≤ b ∧ b ≤ 999 → 0 ≤ s ∧ s ≤ 999 → Ev (fun k => impl_LearnForm.j4 k m b s n true) (finOf m b s))
    (none_ : Ev (fun k => impl_LearnForm.j4 k m b0 s0 n true) r) : ∀ d : Nat, d ≤ 1000 → ∀ c : Int, c = 1000 - (d : Int) → Ev (fun k => impl_LearnForm.l2 k m x.f0.f2 (valOf x) c b0 s0 n true y.f0.f0 y.f0.f1 y.f0.f2 y.f1 y.f2.f0 y.f2.f1 y.f2.f2.f0 y.f2.f2.f1 y.f2.f2.f2) (match pSearch (valOf x) x.f0.f2 y d with | none => r | some s => finOf m ((valOf x - s * x.f0.f2) % 1000) s) := by
  have hv : 0 ≤ valOf x ∧ valOf x ≤ 999 := pVal_in _ _ _ _ _
  intro d
  induction d with
  | zero =>
    intro _ c hc
    refine Ev.round (fun _ => by rw [impl_LearnForm.l2]) ?_
    exact Ev.neg (by omega) none_
  | succ d ih =>
    intro hd c hc
    have h := ih (by omega) (c + 1) (by omega)
    have hm := mul_in (s := c) ⟨by omega, by omega⟩ hx.2.1
    have e1 : wrap64 (c + 1) = c + 1 := w64 (by omega) (by omega)
    have e2 : wrap64 (c * x.f0.f2) = c * x.f0.f2 := w64 (by omega) (by omega)
    have e3 : wrap64 (valOf x - c * x.f0.f2) = valOf x - c * x.f0.f2 := w64 (by omega) (by omega)
    refine Ev.round (fun _ => by rw [impl_LearnForm.l2]) ?_
    refine Ev.pos (by omega) ?_
    simp only [e1, e2, e3]
    refine Ev.now_bind (iMod_eq _) ?_
    refine Ev.now_bind (iSays2_eq hy ⟨by omega, by omega⟩ ⟨by omega, by omega⟩ _ _) ?_
    refine Ev.bind (iValue_ev _ _ _ _ _ hy.1) ?_
    have hv2 : pVal y.f2.f0 y.f2.f1 y.f2.f2.f0 y.f2.f2.f1 y.f2.f2.f2 = valOf y := rfl
    rw [hv2]
    unfold pSearch
    have e6 : (1000 : Int) - ((d : Int) + 1) = c := by omega
    rw [e6]
    by_cases hp : ((valOf x - c * x.f0.f2) % 1000 + c * y.f0.f2) % 1000 = valOf y
    · have hp2 : pHit (valOf x) x.f0.f2 y c = true := by
        unfold pHit pFit
        rw [hp]
        simp
      rw [if_pos hp2]
      refine Ev.pos hp ?_
      exact fin _ _ ⟨by omega, by omega⟩ ⟨by omega, by omega⟩
    · have hp2 : ¬ pHit (valOf x) x.f0.f2 y c = true := by
        unfold pHit pFit
        rw [beq_iff_eq]
        exact fun z => hp z.symm
      rw [if_neg hp2]
      exact Ev.neg hp h
theorem iModel_ev {a p : Int} (m : List S40) (hm : m.length ≤ 1048576) (h0 : 0 < m.length) (hg : ∀ y ∈ m, GoodC a p y) : Ev (fun k => impl_LearnForm.l1 k m (rd_T40 m 0).f0.f2 (valOf (rd_T40 m 0)) m (m.length : Int) 0 (valOf (rd_T40 m 0)) 0 (m.length : Int) true) (learnOf m (valOf (rd_T40 m 0)) (rd_T40 m 0).f0.f2 (m.find? (pOther (rd_T40 m 0).f0.f2))) := by
  have hgx : GoodC a p (rd_T40 m 0) := hg _ (getD_mem m 0 h0 z40)
  have hvx : 0 ≤ valOf (rd_T40 m 0) ∧ valOf (rd_T40 m 0) ≤ 999 := pVal_in _ _ _ _ _
  have fin : ∀ b s : Int, 0 ≤ b ∧ b ≤ 999 → 0 ≤ s ∧ s ≤ 999 → Ev (fun k => impl_LearnForm.j4 k m b s (m.length : Int) true) (finOf m b s) := by
    intro b s hb hs
    refine Ev.round (fun _ => by rw [impl_LearnForm.j4]) ?_
    have h := iFin_ev m hm hg b s (m.length : Int) hb hs m.length 0 (by omega) true
    rw [List.drop_zero, Bool.true_and] at h
    exact h
  generalize rd_T40 m 0 = x at hgx hvx
  have key : ∀ d i : Nat, i + d = m.length → Ev (fun k => impl_LearnForm.l1 k m x.f0.f2 (valOf x) m (m.length : Int) (i : Int) (valOf x) 0 (m.length : Int) true) (learnOf m (valOf x) x.f0.f2 ((m.drop i).find? (pOther x.f0.f2))) := by
    intro d
    induction d with
    | zero =>
      intro i hi
      obtain rfl : i = m.length := by omega
      rw [List.drop_length, List.find?_nil]
      refine Ev.round (fun _ => by rw [impl_LearnForm.l1]) ?_
      exact Ev.neg (by omega) (fin _ _ hvx ⟨by omega, by omega⟩)
    | succ d ih =>
      intro i hi
      have hil : i < m.length := by omega
      have e1 : wrap64 ((i : Int) + 1) = ((i + 1 : Nat) : Int) := by rw [w64 (by omega) (by omega)]; omega
      have hgy : GoodC a p (rd_T40 m (i : Int)) := hg _ (getD_mem m i hil z40)
      have h := ih (i + 1) (by omega)
      rw [drop_cons m i hil z40]
      have hgd : m.getD i z40 = rd_T40 m (i : Int) := rfl
      rw [hgd]
      refine Ev.round (fun _ => by rw [impl_LearnForm.l1]) ?_
      refine Ev.pos (by omega) ?_
      refine Ev.pos (by omega) ?_
      refine Ev.pos (by omega) ?_
      generalize rd_T40 m (i : Int) = y at hgy
      simp only [e1]
      by_cases hp : y.f0.f2 = x.f0.f2
      · have hp2 : pOther x.f0.f2 y = false := by unfold pOther; rw [hp]; simp
        rw [List.find?_cons_of_neg (by rw [hp2]; simp)]
        exact Ev.pos hp h
      · have hp2 : pOther x.f0.f2 y = true := by unfold pOther; simp [hp]
        rw [List.find?_cons_of_pos hp2]
        refine Ev.neg hp ?_
        have hs := iSearch_ev m x y hgx hgy (valOf x) 0 (m.length : Int) (finOf m (valOf x) 0) fin (fin _ _ hvx ⟨by omega, by omega⟩) 1000 (by omega) 0 (by omega)
        unfold learnOf
        exact hs
  have hk := key m.length 0 (by omega)
  rw [List.drop_zero] at hk
  exact hk
theorem iLearn_ev (l : List S40) (a p q : Int) (h : l.length ≤ 1048576) (hf : ∀ y ∈ l, FitimplCapture y) : Ev (fun k => impl_LearnForm.f k l a p q) (pLearn l a p q) := by
  unfold impl_LearnForm.f pLearn
  refine Ev.bind (iAreCaptures_ev l h hf) ?_
  by_cases c1 : pAreCaptures l = true
  · refine Ev.pos c1 ?_
    refine Ev.now_bind (iIsAddress_eq _ _ _) ?_
    by_cases c2 : pAddr a p q = true
    · rw [if_pos ⟨c1, c2⟩, c2]
      refine Ev.round (fun _ => by rw [impl_LearnForm.j0]) ?_
      refine Ev.neg (by simp) ?_
      have hgl := mine_good a p l hf c1
      refine ev_foldl (fun k (s : List S40) i => impl_LearnForm.l0 k s l (l.length : Int) i a p q) l z40 (mineStep a p) pModel (fun i s => s.length ≤ i ∧ ∀ y ∈ s, GoodC a p y) [] ⟨by simp, by simp⟩ ?_ ?_
      · intro s hs
        unfold pModel
        refine Ev.round (fun _ => by rw [impl_LearnForm.l0]) ?_
        refine Ev.neg (by omega) ?_
        by_cases c3 : (s.length : Int) = 0
        · rw [if_pos c3]
          refine Ev.pos c3 ?_
          refine Ev.cast (Ev.now _) ?_
          rw [c3]
        · rw [if_neg c3]
          have h0 : 0 < s.length := by omega
          have hgx : GoodC a p (rd_T40 s 0) := hs.2 _ (getD_mem s 0 h0 z40)
          refine Ev.neg c3 ?_
          refine Ev.pos (by omega) ?_
          refine Ev.bind (iValue_ev _ _ _ _ _ hgx.1) ?_
          exact iModel_ev s (by omega) h0 hs.2
      · intro i s hi hs
        have e1 : wrap64 ((i : Int) + 1) = ((i + 1 : Nat) : Int) := by rw [w64 (by omega) (by omega)]; omega
        obtain ⟨hfy, hcy⟩ := hgl _ (getD_mem l i hi z40)
        have hfy' : FitimplCapture (rd_T40 l (i : Int)) := hfy
        have hcy' : pCapture (rd_T40 l (i : Int)) = true := hcy
        refine ⟨?_, fun r hr => ?_⟩
        · show (mineStep a p s (rd_T40 l (i : Int))).length ≤ i + 1 ∧ ∀ y ∈ mineStep a p s (rd_T40 l (i : Int)), GoodC a p y
          unfold mineStep
          split
          · rename_i hp
            rw [List.length_append, List.length_singleton]
            refine ⟨by omega, fun y hy => ?_⟩
            rcases List.mem_append.1 hy with hy | hy
            · exact hs.2 y hy
            · rw [List.mem_singleton] at hy
              rw [hy]
              exact goodC_of hfy' hcy' hp
          · exact ⟨by omega, hs.2⟩
        have hr' : Ev (fun k => impl_LearnForm.l0 k (mineStep a p s (rd_T40 l (i : Int))) l (l.length : Int) ((i + 1 : Nat) : Int) a p q) r := hr
        refine Ev.round (fun _ => by rw [impl_LearnForm.l0]) ?_
        refine Ev.pos (by omega) ?_
        refine Ev.pos (by omega) ?_
        refine Ev.pos (by omega) ?_
        generalize hy : rd_T40 l (i : Int) = y at hr' hfy' hcy'
        simp only [e1]
        have em : mineStep a p s y = if pMine a p y = true then s ++ [y] else s := rfl
        rw [em] at hr'
        have es : impl_sameForm.f y.f0.f0 y.f0.f1 y.f0.f2 y.f1 y.f2.f0 y.f2.f1 y.f2.f2.f0 y.f2.f2.f1 y.f2.f2.f2 a p q = some (y.f0.f0 == a && y.f0.f1 == p) := by
          unfold impl_sameForm.f
          by_cases c9 : y.f0.f0 = a
          · rw [if_pos c9, c9]
            simp
          · rw [if_neg c9]
            have : (y.f0.f0 == a) = false := beq_eq_false_iff_ne.2 c9
            rw [this, Bool.false_and]
        refine Ev.now_bind es ?_
        cases c4 : (y.f0.f0 == a && y.f0.f1 == p) with
        | true =>
          refine Ev.pos rfl ?_
          refine Ev.now_bind (hasBody_eq _) ?_
          have e5 : pMine a p y = decide (y.f2.f0 = 1 ∨ y.f2.f0 = 2) := by unfold pMine; rw [c4, Bool.true_and]
          rw [e5] at hr'
          cases c5 : decide (y.f2.f0 = 1 ∨ y.f2.f0 = 2) with
          | true =>
            rw [c5, if_pos rfl] at hr'
            exact Ev.pos rfl (Ev.pos (by omega) hr')
          | false =>
            rw [c5, if_neg (by simp)] at hr'
            exact Ev.neg (by simp) hr'
        | false =>
          have e5 : pMine a p y = false := by unfold pMine; rw [c4, Bool.false_and]
          rw [e5, if_neg (by simp)] at hr'
          exact Ev.neg (by simp) hr'
    · rw [if_neg (fun z => c2 z.2), Bool.eq_false_iff.mpr c2]
      refine Ev.round (fun _ => by rw [impl_LearnForm.j0]) ?_
      exact Ev.pos rfl (Ev.now _)
  · rw [if_neg (fun z => c1 z.1)]
    refine Ev.neg c1 ?_
    refine Ev.round (fun _ => by rw [impl_LearnForm.j0]) ?_
    exact Ev.pos rfl (Ev.now _)
theorem FnExactLearnForm (l0 : List S143) (a1_0 : Int) (a1_1 : Int) (a1_2 : Int) (h0 : (l0.length ≤ maxLen ∧ ∀ e_ ∈ l0, W143 e_)) (h1 : (Lit.int .i64 a1_0).wf = true) (h2 : (Lit.int .i64 a1_1).wf = true) (h3 : (Lit.int .i64 a1_2).wf = true) : ∃ k, laws_FnExactLearnForm.f k l0 a1_0 a1_1 a1_2 = some true := by
  obtain ⟨r, e, b, g⟩ := szCaptureS_some l0 1048576 ⟨h0.1, fun y hy => (h0.2 y hy).2.2.2.1.1⟩ (by omega) (by omega)
  refine Ev.rounds ?_
  unfold laws_FnExactLearnForm.f
  refine Ev.bind e ?_
  by_cases c : r < 0
  · exact Ev.pos c (Ev.now _)
  obtain ⟨hl, hy⟩ := g (by omega)
  have hm : (l0.map cvCapture).length ≤ 1048576 := by simpa using hl
  have hf : ∀ y ∈ l0.map cvCapture, FitimplCapture y := by
    intro y h
    obtain ⟨z, hz, rfl⟩ := List.mem_map.1 h
    exact hy z hz
  have t := toCaptureS_ev l0 hl hy
  have ta : laws_toAddress.f a1_0 a1_1 a1_2 = some (a1_0, a1_1, a1_2) := toAddress_eq _ _ _
  refine Ev.neg c ?_
  refine Ev.bind t ?_
  refine Ev.now_bind ta ?_
  refine Ev.bind (sLearn_ev _ _ _ _ hm hf) ?_
  refine Ev.bind t ?_
  refine Ev.now_bind ta ?_
  refine Ev.bind (iLearn_ev _ _ _ _ hm hf) ?_
  refine Ev.now_bind (eqModel_refl _ _ _ _) ?_
  refine Ev.pos rfl ?_
  refine Ev.bind t ?_
  refine Ev.bind (eqCaptureS_refl _ hm hf) ?_
  refine Ev.pos rfl ?_
  exact Ev.now _
end Go.Proofs.Ytgcamebeonodeaa.Pure
