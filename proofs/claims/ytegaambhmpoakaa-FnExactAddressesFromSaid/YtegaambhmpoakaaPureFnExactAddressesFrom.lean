/- The program's AddressesFrom and the reference's return the same addresses: those that were asked for behind one another; what is returned is new memory with each call. No condition. -/
import Derived.Test.YtegaambhmpoakaaStdFnExactAddressesFrom
namespace Go.Proofs.Ytegaambhmpoakaa.Pure
open Go.RowKit Go.Proofs.Ytegaambhmpoakaa.MFnExactAddressesFrom Go.Proofs.YtegaambhmpoakaaW.PrintWords Go.Proofs.YtegaambhmpoakaaW.PrintLast Go.Proofs.YtegaambhmpoakaaW.PrintMore Go.Proofs.Ytegaambhmpoakaa.Gen
set_option linter.unusedVariables false
set_option linter.unusedSimpArgs false

def W24 (y : S24) : Prop := (Lit.int .i64 y.f0).wf = true ∧ (Lit.int .i64 y.f1).wf = true ∧ (Lit.int .i64 y.f2).wf = true
def W129 (y : S129) : Prop := (Lit.int .i64 y.f0).wf = true ∧ (y.f1.length ≤ maxLen ∧ ∀ e_ ∈ y.f1, (Lit.int .i64 e_).wf = true) ∧ W24 y.f2
def W175 (y : S175) : Prop := W24 y.f0 ∧ (Lit.int .i64 y.f1).wf = true ∧ W129 y.f2
theorem l1In_eq (a b c : Int) : spec_l1In.f a b c = some (decide (b ≤ a) && decide (a ≤ c)) := by
  unfold spec_l1In.f
  by_cases h : b ≤ a <;> simp [h]
theorem sIsAddress_eq (h p q : Int) : spec_IsAddress.f h p q = some (pAddr h p q) := by
  simp only [spec_IsAddress.f, l1In_eq, Option.bind_some, some_and]
theorem l5Bytes_ev (l : List Int) (h : l.length ≤ 1048576) : Ev (fun k => spec_l5Bytes.f k l) (l.all (pIn · 0 255)) := by
  unfold spec_l5Bytes.f
  refine Ev.cast (ev_all (fun k i => spec_l5Bytes.l0 k l i) l 0 (pIn · 0 255) true (fun k => by rw [spec_l5Bytes.l0, if_neg (by omega)]) ?_ ?_) (Bool.and_true _)
  · intro i hi hp r hr
    have e1 : wrap64 ((i : Int) + 1) = ((i + 1 : Nat) : Int) := by rw [w64 (by omega) (by omega)]; omega
    refine Ev.round (fun _ => by rw [spec_l5Bytes.l0]) ?_
    refine Ev.pos (by omega) ?_
    refine Ev.pos (by omega) ?_
    refine Ev.now_bind (l1In_eq _ _ _) ?_
    refine Ev.pos ?_ ?_
    · rw [rd_nat]; exact hp
    · simp only [e1]; exact hr
  · intro i hi hp
    refine Ev.round (fun _ => by rw [spec_l5Bytes.l0]) ?_
    refine Ev.pos (by omega) ?_
    refine Ev.pos (by omega) ?_
    refine Ev.now_bind (l1In_eq _ _ _) ?_
    refine Ev.neg ?_ (Ev.now _)
    rw [rd_nat]; exact ne_true_of_eq_false hp
def pRes (k : Int) (b : List Int) (h p q : Int) : Bool :=
  if k = 1 ∨ k = 2 then decide ((b.length : Int) ≤ 6) && (b.all (pIn · 0 255) && pZero h p q)
  else if k = 3 then decide ((b.length : Int) = 0) && pAddr h p q
  else if k = 4 then decide ((b.length : Int) = 0) && pZero h p q
  else false
theorem sIsResource_ev (k : Int) (b : List Int) (h p q : Int) (hb : b.length ≤ 1048576) : Ev (fun n => spec_IsResource.f n k b h p q) (pRes k b h p q) := by
  have hj : ∀ x : Bool, Ev (fun n => spec_IsResource.j0 n x k b h p q) (!x && (if k = 3 then pAddr h p q && ((b.length : Int) == 0) else (pZero h p q && (if k = 4 then ((b.length : Int) == 0) else true)))) := by
    intro x
    refine Ev.round (fun _ => by rw [spec_IsResource.j0]) ?_
    cases x with
    | true => exact Ev.pos rfl (Ev.now _)
    | false =>
      refine Ev.neg (by simp) ?_
      by_cases h3 : k = 3
      · refine Ev.pos h3 ?_
        simp only [h3, if_true, Bool.not_false, Bool.true_and]
        exact Ev.now_and (sIsAddress_eq _ _ _) fun _ => Ev.now _
      · refine Ev.neg h3 ?_
        simp only [h3, if_false, Bool.not_false, Bool.true_and]
        by_cases hz : pZero h p q = true
        · refine Ev.pos hz ?_
          by_cases h4 : k = 4
          · refine Ev.pos h4 ?_
            exact Ev.cast (Ev.now _) (by simp [h4, hz])
          · refine Ev.neg h4 ?_
            exact Ev.cast (Ev.now _) (by simp [h4, hz])
        · refine Ev.neg hz ?_
          exact Ev.cast (Ev.now _) (by simp [hz])
  unfold spec_IsResource.f
  refine Ev.now_bind (l1In_eq _ _ _) ?_
  by_cases hk : 1 ≤ k ∧ k ≤ 4
  · refine Ev.pos (by simp [hk]) ?_
    refine Ev.bind (l5Bytes_ev b hb) ?_
    have hcases : k = 1 ∨ k = 2 ∨ k = 3 ∨ k = 4 := by omega
    cases hall : b.all (pIn · 0 255) with
    | true =>
      refine Ev.pos rfl ?_
      refine Ev.cast (hj _) ?_
      unfold pRes
      have h6 : decide ((b.length : Int) > 6) = !decide ((b.length : Int) ≤ 6) := by
        by_cases c : (b.length : Int) ≤ 6
        · have : ¬ (b.length : Int) > 6 := by omega
          simp [c, this]
        · have : (b.length : Int) > 6 := by omega
          simp [c, this]
      rw [h6]
      rcases hcases with rfl | rfl | rfl | rfl
      · simp [hall]
      · simp [hall]
      · by_cases c : b.length = 0
        · have hn : b = [] := List.eq_nil_of_length_eq_zero c
          subst hn
          simp
        · simp [c]
      · by_cases c : b.length = 0
        · have hn : b = [] := List.eq_nil_of_length_eq_zero c
          subst hn
          simp
        · simp [c]
    | false =>
      refine Ev.neg (by simp) ?_
      refine Ev.cast (hj true) ?_
      unfold pRes
      have hne : b ≠ [] := by
        rintro rfl
        simp at hall
      have h0 : ¬ b.length = 0 := fun e => hne (List.eq_nil_of_length_eq_zero e)
      rcases hcases with rfl | rfl | rfl | rfl
      · simp [hall]
      · simp [hall]
      · simp [h0]
      · simp [h0]
  · refine Ev.neg (by simp; omega) ?_
    refine Ev.cast (hj true) ?_
    have hp : pRes k b h p q = false := by
      unfold pRes
      rw [if_neg (by omega), if_neg (by omega), if_neg (by omega)]
    rw [hp]
    simp
def pVersion (y : S179) : Bool := pAddr y.f0.f0 y.f0.f1 y.f0.f2 && (pIn y.f1 0 1000 && pRes y.f2.f0 y.f2.f1 y.f2.f2.f0 y.f2.f2.f1 y.f2.f2.f2)
def pIsSite (l : List S179) : Bool := l.all pVersion && decide ((l.length : Int) ≤ 12)
theorem sIsSite_ev (l : List S179) (h : l.length ≤ 1048576) (hf : ∀ y ∈ l, FitimplVersion y) : Ev (fun k => spec_IsSite.f k l) (pIsSite l) := by
  unfold spec_IsSite.f pIsSite
  refine ev_all (fun k i => spec_IsSite.l0 k l i) l z179 pVersion _ (fun k => by rw [spec_IsSite.l0, if_neg (by omega)]) ?_ ?_
  · intro i hi hp r hr
    have e1 : wrap64 ((i : Int) + 1) = ((i + 1 : Nat) : Int) := by rw [w64 (by omega) (by omega)]; omega
    have hp' : pVersion (rd_T179 l (i : Int)) = true := hp
    have hfy : FitimplVersion (rd_T179 l (i : Int)) := hf _ (getD_mem l i hi z179)
    generalize hy : rd_T179 l (i : Int) = y at hp' hfy
    unfold pVersion at hp'
    simp only [Bool.and_eq_true] at hp'
    obtain ⟨p1, p2, p3⟩ := hp'
    refine Ev.round (fun _ => by rw [spec_IsSite.l0]) ?_
    refine Ev.pos (by omega) ?_
    refine Ev.pos (by omega) ?_
    simp only [hy, e1]
    refine Ev.now_bind (sIsAddress_eq _ _ _) ?_
    refine Ev.pos (by simp [p1]) ?_
    refine Ev.now_bind (l1In_eq _ _ _) ?_
    refine Ev.pos (by simp [p2]) ?_
    refine Ev.bind (sIsResource_ev _ _ _ _ _ hfy) ?_
    exact Ev.pos p3 hr
  · intro i hi hp
    have hp' : pVersion (rd_T179 l (i : Int)) = false := hp
    have hfy : FitimplVersion (rd_T179 l (i : Int)) := hf _ (getD_mem l i hi z179)
    generalize hy : rd_T179 l (i : Int) = y at hp' hfy
    unfold pVersion at hp'
    refine Ev.round (fun _ => by rw [spec_IsSite.l0]) ?_
    refine Ev.pos (by omega) ?_
    refine Ev.pos (by omega) ?_
    simp only [hy]
    refine Ev.now_bind (sIsAddress_eq _ _ _) ?_
    cases p1 : pAddr y.f0.f0 y.f0.f1 y.f0.f2 with
    | false => exact Ev.neg (by simp) (Ev.now _)
    | true =>
      rw [p1, Bool.true_and] at hp'
      refine Ev.pos rfl ?_
      refine Ev.now_bind (l1In_eq _ _ _) ?_
      cases p2 : pIn y.f1 0 1000 with
      | false => exact Ev.neg (ne_true_of_eq_false p2) (Ev.now _)
      | true =>
        rw [p2, Bool.true_and] at hp'
        refine Ev.pos p2 ?_
        refine Ev.bind (sIsResource_ev _ _ _ _ _ hfy) ?_
        refine Ev.neg (ne_true_of_eq_false hp') ?_
        exact Ev.now _
theorem l11All_ev (l : List Int) (n : Int) (h : l.length ≤ 1048576) : Ev (fun k => spec_l11All.f k l n) (l.all (pIn · 0 999) && ((l.length : Int) == n)) := by
  unfold spec_l11All.f
  refine ev_all (fun k i => spec_l11All.l0 k l n i) l 0 (pIn · 0 999) _ (fun k => by rw [spec_l11All.l0, if_neg (by omega)]) ?_ ?_
  · intro i hi hp r hr
    have e1 : wrap64 ((i : Int) + 1) = ((i + 1 : Nat) : Int) := by rw [w64 (by omega) (by omega)]; omega
    refine Ev.round (fun _ => by rw [spec_l11All.l0]) ?_
    refine Ev.pos (by omega) ?_
    refine Ev.pos (by omega) ?_
    refine Ev.now_bind (l1In_eq _ _ _) ?_
    refine Ev.pos ?_ ?_
    · rw [rd_nat]; exact hp
    · simp only [e1]; exact hr
  · intro i hi hp
    refine Ev.round (fun _ => by rw [spec_l11All.l0]) ?_
    refine Ev.pos (by omega) ?_
    refine Ev.pos (by omega) ?_
    refine Ev.now_bind (l1In_eq _ _ _) ?_
    refine Ev.neg ?_ (Ev.now _)
    rw [rd_nat]; exact ne_true_of_eq_false hp
def pVisit (s : List S179) (t sd : Int) (i : List Int) : Bool := pIsSite s && (pIn t 0 1000 && (pIn sd 0 9999 && (decide ((i.length : Int) ≤ 8) && i.all (pIn · 0 999))))
theorem sIsVisit_ev (s : List S179) (t sd : Int) (i : List Int) (h : s.length ≤ 1048576) (hf : ∀ y ∈ s, FitimplVersion y) (hi : i.length ≤ 1048576) : Ev (fun k => spec_IsVisit.f k s t sd i) (pVisit s t sd i) := by
  unfold spec_IsVisit.f pVisit
  refine Ev.and (sIsSite_ev s h hf) fun _ => Ev.now_and (l1In_eq _ _ _) fun _ => Ev.now_and (l1In_eq _ _ _) fun _ => Ev.if_and fun _ => ?_
  exact Ev.cast (Ev.id (l11All_ev i _ hi)) (by simp)
/-- A resource, as the printed functions hand it on. -/
abbrev Rsc := Int × List Int × Int × Int × Int
def pHere (a p q t : Int) (y : S179) : Bool := (y.f0.f0 == a && (y.f0.f1 == p && (y.f0.f2 == q))) && decide (y.f1 ≤ t)
def ansStep (a p q t : Int) (r : Rsc) (y : S179) : Rsc := if pHere a p q t y = true then (y.f2.f0, y.f2.f1, y.f2.f2.f0, y.f2.f2.f1, y.f2.f2.f2) else r
def pAnswer (l : List S179) (a p q t : Int) : Rsc := l.foldl (ansStep a p q t) (4, [], 0, 0, 0)
theorem pAnswer_fit (l : List S179) (a p q t : Int) (hf : ∀ y ∈ l, FitimplVersion y) : (pAnswer l a p q t).2.1.length ≤ 1048576 := by
  have key : ∀ (l : List S179) (r : Rsc), (∀ y ∈ l, FitimplVersion y) → r.2.1.length ≤ 1048576 → (l.foldl (ansStep a p q t) r).2.1.length ≤ 1048576 := by
    intro l
    induction l with
    | nil => intro r _ h; exact h
    | cons y l ih =>
      intro r hf h
      rw [List.foldl_cons]
      refine ih _ (fun z hz => hf z (List.mem_cons_of_mem _ hz)) ?_
      unfold ansStep
      split
      · exact hf y (by simp)
      · exact h
  exact key l _ hf (by simp)
theorem l5Copy_eq (k : Int) (b : List Int) (h p q : Int) (hb : b.length ≤ 1048576) : spec_l5Copy.f k b h p q = some (k, b, h, p, q) := by
  simp only [spec_l5Copy.f, Option.bind_some, List.nil_append, List.length_nil]
  rw [if_pos (by omega)]
theorem sAnswer_ev (l : List S179) (a p q t : Int) (h : l.length ≤ 1048576) (hf : ∀ y ∈ l, FitimplVersion y) : Ev (fun k => spec_AnswerAt.f k l a p q t) (pAnswer l a p q t) := by
  unfold spec_AnswerAt.f pAnswer
  refine ev_foldl (fun k (x : Rsc) i => spec_AnswerAt.l0 k l t i a p q x.1 x.2.1 x.2.2.1 x.2.2.2.1 x.2.2.2.2) l z179 (ansStep a p q t) (fun x => x) (fun _ _ => True) (4, [], 0, 0, 0) trivial ?_ ?_
  · intro x _
    refine Ev.round (fun _ => by rw [spec_AnswerAt.l0]) ?_
    exact Ev.neg (by omega) (Ev.now _)
  · intro i x hi _
    have e1 : wrap64 ((i : Int) + 1) = ((i + 1 : Nat) : Int) := by rw [w64 (by omega) (by omega)]; omega
    refine ⟨trivial, fun r hr => ?_⟩
    have hfy : FitimplVersion (rd_T179 l (i : Int)) := hf _ (getD_mem l i hi z179)
    have hr' : Ev (fun k => spec_AnswerAt.l0 k l t ((i + 1 : Nat) : Int) a p q (ansStep a p q t x (rd_T179 l (i : Int))).1 (ansStep a p q t x (rd_T179 l (i : Int))).2.1 (ansStep a p q t x (rd_T179 l (i : Int))).2.2.1 (ansStep a p q t x (rd_T179 l (i : Int))).2.2.2.1 (ansStep a p q t x (rd_T179 l (i : Int))).2.2.2.2) r := hr
    refine Ev.round (fun _ => by rw [spec_AnswerAt.l0]) ?_
    refine Ev.pos (by omega) ?_
    refine Ev.pos (by omega) ?_
    generalize hy : rd_T179 l (i : Int) = y at hr' hfy
    simp only [e1]
    unfold ansStep pHere at hr'
    cases c1 : (y.f0.f0 == a && (y.f0.f1 == p && (y.f0.f2 == q))) with
    | false =>
      rw [c1] at hr'
      exact Ev.neg (by simp) hr'
    | true =>
      rw [c1] at hr'
      refine Ev.pos rfl ?_
      by_cases c2 : y.f1 ≤ t
      · rw [decide_eq_true c2] at hr'
        exact Ev.pos c2 (Ev.now_bind (l5Copy_eq _ _ _ _ _ hfy) hr')
      · rw [decide_eq_false c2] at hr'
        exact Ev.neg c2 hr'
theorem ev_any {α : Type} (F : Nat → Int → Option Bool) (l : List α) (d : α) (p : α → Bool)
    (hend : ∀ k, F (k + 1) (l.length : Int) = some false)
    (hyes : ∀ i : Nat, i < l.length → p (l.getD i d) = true → Ev (fun k => F k (i : Int)) true)
    (hno : ∀ i : Nat, i < l.length → p (l.getD i d) = false → ∀ r, Ev (fun k => F k ((i + 1 : Nat) : Int)) r → Ev (fun k => F k (i : Int)) r) :
    Ev (fun k => F k 0) (l.any p) := by
  have h := ev_down (fun k i => F k (i : Int)) l.length (fun i => (l.drop i).any p) (Ev.round hend (Ev.const fun _ => by simp))
    (fun i hi h => by
      rw [drop_cons l i hi d, List.any_cons]
      cases hp : p (l.getD i d) with
      | true => simpa using hyes i hi hp
      | false => simpa using hno i hi hp _ h)
  simpa using h
abbrev Trail := Int × List Int × Int × Int × Int × List S31
def pHasA (c : List S31) (a p q : Int) : Bool := c.any fun y => y.f0 == a && (y.f1 == p && (y.f2 == q))
def pTrail (l : List S179) (t : Int) : Nat → List S31 → Rsc → Trail
  | 0, c, r => (r.1, r.2.1, r.2.2.1, r.2.2.2.1, r.2.2.2.2, c)
  | n + 1, c, r => if r.1 = 3 ∧ pHasA c r.2.2.1 r.2.2.2.1 r.2.2.2.2 = false then pTrail l t n (c ++ [⟨r.2.2.1, r.2.2.2.1, r.2.2.2.2⟩]) (pAnswer l r.2.2.1 r.2.2.2.1 r.2.2.2.2 t) else (r.1, r.2.1, r.2.2.1, r.2.2.2.1, r.2.2.2.2, c)
def pFollow (l : List S179) (a p q t : Int) : Trail := pTrail l t 4 [⟨a, p, q⟩] (pAnswer l a p q t)
theorem pTrail_fit (l : List S179) (t : Int) (hf : ∀ y ∈ l, FitimplVersion y) : ∀ (n : Nat) (c : List S31) (r : Rsc), r.2.1.length ≤ 1048576 → (pTrail l t n c r).2.1.length ≤ 1048576 ∧ (pTrail l t n c r).2.2.2.2.2.length ≤ c.length + n := by
  intro n
  induction n with
  | zero => intro c r h; exact ⟨h, Nat.le_refl _⟩
  | succ n ih =>
    intro c r h
    unfold pTrail
    split
    · have := ih (c ++ [⟨r.2.2.1, r.2.2.2.1, r.2.2.2.2⟩]) _ (pAnswer_fit l r.2.2.1 r.2.2.2.1 r.2.2.2.2 t hf)
      refine ⟨this.1, ?_⟩
      have h2 := this.2
      rw [List.length_append, List.length_singleton] at h2
      omega
    · exact ⟨h, Nat.le_add_right _ _⟩
theorem pFollow_fit (l : List S179) (a p q t : Int) (hf : ∀ y ∈ l, FitimplVersion y) : (pFollow l a p q t).2.1.length ≤ 1048576 := (pTrail_fit l t hf 4 _ _ (pAnswer_fit l a p q t hf)).1
theorem l9Has_ev (c : List S31) (a p q : Int) (h : c.length ≤ 1048576) : Ev (fun k => spec_l9Has.f k c a p q) (pHasA c a p q) := by
  unfold spec_l9Has.f pHasA
  refine ev_any (fun k i => spec_l9Has.l0 k c i a p q) c z31 _ (fun k => by rw [spec_l9Has.l0, if_neg (by omega)]) ?_ ?_
  · intro i hi hp
    refine Ev.round (fun _ => by rw [spec_l9Has.l0]) ?_
    exact Ev.pos (by omega) (Ev.pos (by omega) (Ev.pos hp (Ev.now _)))
  · intro i hi hp r hr
    have e1 : wrap64 ((i : Int) + 1) = ((i + 1 : Nat) : Int) := by rw [w64 (by omega) (by omega)]; omega
    refine Ev.round (fun _ => by rw [spec_l9Has.l0]) ?_
    refine Ev.pos (by omega) ?_
    refine Ev.pos (by omega) ?_
    refine Ev.neg (ne_true_of_eq_false hp) ?_
    simp only [e1]
    exact hr
theorem sTrail_ev (l : List S179) (t : Int) (h : l.length ≤ 1048576) (hf : ∀ y ∈ l, FitimplVersion y) : ∀ (n : Nat) (c : List S31) (r : Rsc), c.length + n = 5 → Ev (fun k => spec_FollowAt.l0 k l t c r.1 r.2.1 r.2.2.1 r.2.2.2.1 r.2.2.2.2) (pTrail l t n c r) := by
  intro n
  induction n with
  | zero =>
    intro c r hn
    refine Ev.round (fun _ => by rw [spec_FollowAt.l0]) ?_
    by_cases c1 : r.1 = 3
    · exact Ev.pos c1 (Ev.neg (by omega) (Ev.now _))
    · exact Ev.neg c1 (Ev.now _)
  | succ n ih =>
    intro c r hn
    unfold pTrail
    refine Ev.round (fun _ => by rw [spec_FollowAt.l0]) ?_
    by_cases c1 : r.1 = 3
    · refine Ev.pos c1 ?_
      refine Ev.pos (by omega) ?_
      refine Ev.bind (l9Has_ev c r.2.2.1 r.2.2.2.1 r.2.2.2.2 (by omega)) ?_
      cases c2 : pHasA c r.2.2.1 r.2.2.2.1 r.2.2.2.2 with
      | true =>
        rw [if_neg (by simp)]
        exact Ev.pos rfl (Ev.now _)
      | false =>
        rw [if_pos ⟨c1, rfl⟩]
        refine Ev.neg (by simp) ?_
        refine Ev.pos (by omega) ?_
        refine Ev.bind (sAnswer_ev l _ _ _ t h hf) ?_
        exact ih _ _ (by simp only [List.length_append, List.length_singleton]; omega)
    · rw [if_neg (fun z => c1 z.1)]
      exact Ev.neg c1 (Ev.now _)
theorem sFollow_ev (l : List S179) (a p q t : Int) (h : l.length ≤ 1048576) (hf : ∀ y ∈ l, FitimplVersion y) : Ev (fun k => spec_FollowAt.f k l a p q t) (pFollow l a p q t) := by
  unfold spec_FollowAt.f pFollow
  exact Ev.bind (sAnswer_ev l a p q t h hf) (sTrail_ev l t h hf 4 _ _ rfl)
def pFrom (s : List S179) (tk sd : Int) (ins : List Int) (w0 w1 w2 w3 n : Int) : List S31 :=
  if w0 = 1 ∧ pVisit s tk sd ins = true ∧ pIn n 0 100 = true then (pFollow s w1 w2 w3 (wrap64 (tk + n))).2.2.2.2.2 else []
theorem pFrom_length (s : List S179) (tk sd : Int) (ins : List Int) (w0 w1 w2 w3 n : Int) (hf : ∀ y ∈ s, FitimplVersion y) : (pFrom s tk sd ins w0 w1 w2 w3 n).length ≤ 1048576 := by
  unfold pFrom
  split
  · have := (pTrail_fit s (wrap64 (tk + n)) hf 4 [⟨w1, w2, w3⟩] _ (pAnswer_fit s w1 w2 w3 (wrap64 (tk + n)) hf)).2
    unfold pFollow
    refine Nat.le_trans this ?_
    simp
  · simp
theorem sFrom_ev (s : List S179) (tk sd : Int) (ins : List Int) (w0 w1 w2 w3 n : Int) (h : s.length ≤ 1048576) (hf : ∀ y ∈ s, FitimplVersion y) (hi : ins.length ≤ 1048576) : Ev (fun k => spec_AddressesFrom.f k s tk sd ins w0 w1 w2 w3 n) (pFrom s tk sd ins w0 w1 w2 w3 n) := by
  unfold spec_AddressesFrom.f pFrom
  by_cases c1 : w0 = 1
  · refine Ev.pos c1 ?_
    refine Ev.bind (sIsVisit_ev s tk sd ins h hf hi) ?_
    by_cases c2 : pVisit s tk sd ins = true
    · refine Ev.pos c2 ?_
      refine Ev.now_bind (l1In_eq _ _ _) ?_
      by_cases c3 : pIn n 0 100 = true
      · rw [if_pos ⟨c1, c2, c3⟩]
        exact Ev.pos c3 (Ev.bind (sFollow_ev s w1 w2 w3 (wrap64 (tk + n)) h hf) (Ev.now _))
      · rw [if_neg (fun z => c3 z.2.2)]
        exact Ev.neg c3 (Ev.now _)
    · rw [if_neg (fun z => c2 z.2.1)]
      exact Ev.neg c2 (Ev.now _)
  · rw [if_neg (fun z => c1 z.1)]
    exact Ev.neg c1 (Ev.now _)
theorem InRange_eq (a b c : Int) : impl_InRange.f a b c = some (decide (b ≤ a) && decide (a ≤ c)) := by
  unfold impl_InRange.f
  by_cases h : b ≤ a <;> simp [h]
theorem iIsAddress_eq (h p q : Int) : impl_IsAddress.f h p q = some (pAddr h p q) := by
  simp only [impl_IsAddress.f, InRange_eq, Option.bind_some, some_and]
theorem allIn_ev (l : List Int) (a b : Int) (h : l.length ≤ 1048576) : Ev (fun k => impl_allIn.f k l a b) (l.all (pIn · a b)) := by
  unfold impl_allIn.f
  refine Ev.cast (ev_all (fun k i => impl_allIn.l0 k a b l (l.length : Int) i) l 0 (pIn · a b) true (fun k => by rw [impl_allIn.l0, if_neg (by omega)]) ?_ ?_) (Bool.and_true _)
  · intro i hi hp r hr
    have e1 : wrap64 ((i : Int) + 1) = ((i + 1 : Nat) : Int) := by rw [w64 (by omega) (by omega)]; omega
    refine Ev.round (fun _ => by rw [impl_allIn.l0]) ?_
    refine Ev.pos (by omega) ?_
    refine Ev.pos (by omega) ?_
    refine Ev.pos (by omega) ?_
    refine Ev.now_bind (InRange_eq _ _ _) ?_
    refine Ev.pos ?_ ?_
    · rw [rd_nat]; exact hp
    · simp only [e1]; exact hr
  · intro i hi hp
    refine Ev.round (fun _ => by rw [impl_allIn.l0]) ?_
    refine Ev.pos (by omega) ?_
    refine Ev.pos (by omega) ?_
    refine Ev.pos (by omega) ?_
    refine Ev.now_bind (InRange_eq _ _ _) ?_
    refine Ev.neg ?_ (Ev.now _)
    rw [rd_nat]; exact ne_true_of_eq_false hp
theorem iIsResource_ev (k : Int) (b : List Int) (h p q : Int) (hb : b.length ≤ 1048576) : Ev (fun n => impl_IsResource.f n k b h p q) (pRes k b h p q) := by
  have hj : ∀ x : Bool, (x = true ↔ k = 1 ∨ k = 2) → Ev (fun n => impl_IsResource.j0 n k x k b h p q) (pRes k b h p q) := by
    intro x hx
    refine Ev.round (fun _ => by rw [impl_IsResource.j0]) ?_
    unfold pRes
    cases x with
    | true =>
      refine Ev.rpos (hx.1 rfl) ?_
      refine Ev.pos rfl ?_
      exact Ev.if_and fun _ => Ev.and (allIn_ev b 0 255 hb) fun _ => Ev.now _
    | false =>
      have hno : ¬ (k = 1 ∨ k = 2) := fun c => by simpa using hx.2 c
      refine Ev.rneg hno ?_
      refine Ev.neg (by simp) ?_
      by_cases h3 : k = 3
      · refine Ev.rpos h3 ?_
        refine Ev.pos h3 ?_
        exact Ev.if_and fun _ => Ev.now_bind (iIsAddress_eq _ _ _) (Ev.now _)
      · refine Ev.rneg h3 ?_
        refine Ev.neg h3 ?_
        by_cases h4 : k = 4
        · refine Ev.rpos h4 ?_
          refine Ev.pos h4 ?_
          exact Ev.if_and fun _ => Ev.now _
        · refine Ev.rneg h4 ?_
          refine Ev.neg h4 ?_
          exact Ev.now _
  unfold impl_IsResource.f
  by_cases h1 : k = 1
  · refine Ev.pos h1 (hj _ ?_)
    simp [h1]
  · refine Ev.neg h1 (hj _ ?_)
    simp [h1]
theorem iIsSiteLit_ev (y : S179) (hf : FitimplVersion y) : Ev (fun k => impl_IsSite_lit1.f k y.f0.f0 y.f0.f1 y.f0.f2 y.f1 y.f2.f0 y.f2.f1 y.f2.f2.f0 y.f2.f2.f1 y.f2.f2.f2) (!pVersion y) := by
  unfold impl_IsSite_lit1.f pVersion
  refine Ev.now_bind (iIsAddress_eq _ _ _) ?_
  cases p1 : pAddr y.f0.f0 y.f0.f1 y.f0.f2 with
  | false => exact Ev.neg (by simp) (Ev.now _)
  | true =>
    refine Ev.pos rfl ?_
    refine Ev.now_bind (InRange_eq _ _ _) ?_
    cases p2 : pIn y.f1 0 1000 with
    | false => exact Ev.neg (ne_true_of_eq_false p2) (Ev.now _)
    | true =>
      refine Ev.pos p2 ?_
      rw [Bool.true_and, Bool.true_and]
      exact Ev.no (iIsResource_ev _ _ _ _ _ hf)
theorem iIsSite_ev (l : List S179) (h : l.length ≤ 1048576) (hf : ∀ y ∈ l, FitimplVersion y) : Ev (fun k => impl_IsSite.f k l) (pIsSite l) := by
  unfold impl_IsSite.f pIsSite
  rw [Bool.and_comm]
  refine Ev.if_and fun _ => ?_
  rw [← any_not]
  refine Ev.no ?_
  unfold slices_ContainsFunc_172.f
  have hf : ∃ r : Int, Ev (fun k => slices_IndexFunc_172.l0 k l (l.length : Int) 0) r ∧ decide (r ≥ 0) = l.any (fun y => !pVersion y) := by
    refine ev_find (fun k i => slices_IndexFunc_172.l0 k l (l.length : Int) i) l z179 (fun y => !pVersion y) (fun k => by rw [slices_IndexFunc_172.l0, if_neg (by omega)]) ?_ ?_
    · intro i hi hp
      refine Ev.round (fun _ => by rw [slices_IndexFunc_172.l0]) ?_
      refine Ev.pos (by omega) ?_
      refine Ev.pos (by omega) ?_
      refine Ev.pos (by omega) ?_
      refine Ev.bind (iIsSiteLit_ev (rd_T179 l (i : Int)) (hf _ (getD_mem l i hi z179))) ?_
      refine Ev.pos hp ?_
      exact Ev.now _
    · intro i hi hp r hr
      have e1 : wrap64 ((i : Int) + 1) = ((i + 1 : Nat) : Int) := by rw [w64 (by omega) (by omega)]; omega
      refine Ev.round (fun _ => by rw [slices_IndexFunc_172.l0]) ?_
      refine Ev.pos (by omega) ?_
      refine Ev.pos (by omega) ?_
      refine Ev.pos (by omega) ?_
      refine Ev.bind (iIsSiteLit_ev (rd_T179 l (i : Int)) (hf _ (getD_mem l i hi z179))) ?_
      refine Ev.neg (ne_true_of_eq_false hp) ?_
      simp only [e1]
      exact hr
  obtain ⟨r, hr, hd⟩ := hf
  rw [← hd]
  exact Ev.bind hr (Ev.now _)
theorem iIsVisit_ev (s : List S179) (t sd : Int) (i : List Int) (h : s.length ≤ 1048576) (hf : ∀ y ∈ s, FitimplVersion y) (hi : i.length ≤ 1048576) : Ev (fun k => impl_IsVisit.f k s t sd i) (pVisit s t sd i) := by
  unfold impl_IsVisit.f pVisit
  exact Ev.and (iIsSite_ev s h hf) fun _ => Ev.now_and (InRange_eq _ _ _) fun _ => Ev.now_and (InRange_eq _ _ _) fun _ => Ev.if_and fun _ => Ev.id (allIn_ev i 0 999 hi)
theorem copyResource_eq (k : Int) (b : List Int) (h p q : Int) (hb : b.length ≤ 1048576) : impl_copyResource.f k b h p q = some (k, b, h, p, q) := by
  simp only [impl_copyResource.f, slices_Clone_int_int.f, Option.bind_some, List.nil_append, List.length_nil]
  rw [if_pos (by omega)]
  rfl
theorem iAnswer_ev (l : List S179) (a p q t : Int) (h : l.length ≤ 1048576) (hf : ∀ y ∈ l, FitimplVersion y) : Ev (fun k => impl_AnswerAt.f k l a p q t) (pAnswer l a p q t) := by
  unfold impl_AnswerAt.f pAnswer
  have key : ∀ i : Nat, i ≤ l.length → Ev (fun k => impl_AnswerAt.l0 k l t ((i : Int) - 1) a p q) ((l.take i).foldl (ansStep a p q t) (4, [], 0, 0, 0)) := by
    intro i
    induction i with
    | zero =>
      intro _
      refine Ev.round (fun _ => by rw [impl_AnswerAt.l0]) ?_
      exact Ev.neg (by omega) (Ev.now _)
    | succ i ih =>
      intro hi
      have h0 := ih (by omega)
      have e0 : ((i + 1 : Nat) : Int) - 1 = (i : Int) := by omega
      have e1 : wrap64 ((i : Int) - 1) = (i : Int) - 1 := w64 (by omega) (by omega)
      have hfy : FitimplVersion (rd_T179 l (i : Int)) := hf _ (getD_mem l i (by omega) z179)
      have e2 : (l.take (i + 1)).foldl (ansStep a p q t) (4, [], 0, 0, 0) = ansStep a p q t ((l.take i).foldl (ansStep a p q t) (4, [], 0, 0, 0)) (rd_T179 l (i : Int)) := by
        rw [List.take_succ_eq_append_getElem (by omega), List.foldl_append]
        have e3 : rd_T179 l (i : Int) = l[i]'(by omega) := getD_in l i (by omega) z179
        rw [e3]
        rfl
      rw [e2, e0]
      generalize (l.take i).foldl (ansStep a p q t) (4, [], 0, 0, 0) = x at h0
      refine Ev.round (fun _ => by rw [impl_AnswerAt.l0]) ?_
      refine Ev.pos (by omega) ?_
      refine Ev.pos (by omega) ?_
      refine Ev.pos (by omega) ?_
      generalize hy : rd_T179 l (i : Int) = y at hfy
      simp only [e1]
      unfold ansStep pHere
      cases c1 : (y.f0.f0 == a && (y.f0.f1 == p && (y.f0.f2 == q))) with
      | false => exact Ev.neg (by simp) h0
      | true =>
        refine Ev.pos rfl ?_
        by_cases c2 : y.f1 ≤ t
        · rw [decide_eq_true c2]
          exact Ev.pos c2 (Ev.now_bind (copyResource_eq _ _ _ _ _ hfy) (Ev.now _))
        · rw [decide_eq_false c2]
          exact Ev.neg c2 h0
  have h1 := key l.length (by omega)
  rw [List.take_length] at h1
  rw [w64 (by omega) (by omega)]
  exact h1
theorem iHas_ev (c : List S31) (a p q : Int) (h : c.length ≤ 1048576) : Ev (fun k => impl_Address_170.f k c a p q) (pHasA c a p q) := by
  unfold impl_Address_170.f pHasA
  have hx : ∃ r : Int, Ev (fun k => impl_Address_196.f k c a p q) r ∧ decide (r ≥ 0) = c.any fun y => y.f0 == a && (y.f1 == p && (y.f2 == q)) := by
    unfold impl_Address_196.f
    refine ev_find (fun k i => impl_Address_196.l0 k c (c.length : Int) i a p q) c z31 (fun y => y.f0 == a && (y.f1 == p && (y.f2 == q))) (fun k => by rw [impl_Address_196.l0, if_neg (by omega)]) ?_ ?_
    · intro i hi hp
      have hp' : (a == (rd_T31 c (i : Int)).f0 && (p == (rd_T31 c (i : Int)).f1 && (q == (rd_T31 c (i : Int)).f2))) = true := by
        rw [Bool.beq_comm (a := a), Bool.beq_comm (a := p), Bool.beq_comm (a := q)]
        exact hp
      refine Ev.round (fun _ => by rw [impl_Address_196.l0]) ?_
      exact Ev.pos (by omega) (Ev.pos (by omega) (Ev.pos (by omega) (Ev.pos hp' (Ev.now _))))
    · intro i hi hp r hr
      have e1 : wrap64 ((i : Int) + 1) = ((i + 1 : Nat) : Int) := by rw [w64 (by omega) (by omega)]; omega
      have hp' : (a == (rd_T31 c (i : Int)).f0 && (p == (rd_T31 c (i : Int)).f1 && (q == (rd_T31 c (i : Int)).f2))) = false := by
        rw [Bool.beq_comm (a := a), Bool.beq_comm (a := p), Bool.beq_comm (a := q)]
        exact hp
      refine Ev.round (fun _ => by rw [impl_Address_196.l0]) ?_
      refine Ev.pos (by omega) ?_
      refine Ev.pos (by omega) ?_
      refine Ev.pos (by omega) ?_
      refine Ev.neg (ne_true_of_eq_false hp') ?_
      simp only [e1]
      exact hr
  obtain ⟨r, hr, hd⟩ := hx
  rw [← hd]
  exact Ev.bind hr (Ev.now _)
theorem iTrail_ev (l : List S179) (t : Int) (h : l.length ≤ 1048576) (hf : ∀ y ∈ l, FitimplVersion y) : ∀ (n : Nat) (c : List S31) (r : Rsc), c.length + n = 5 → Ev (fun k => impl_FollowAt.l0 k l t c r.1 r.2.1 r.2.2.1 r.2.2.2.1 r.2.2.2.2) (pTrail l t n c r) := by
  intro n
  induction n with
  | zero =>
    intro c r hn
    refine Ev.round (fun _ => by rw [impl_FollowAt.l0]) ?_
    by_cases c1 : r.1 = 3
    · exact Ev.pos c1 (Ev.neg (by omega) (Ev.now _))
    · exact Ev.neg c1 (Ev.now _)
  | succ n ih =>
    intro c r hn
    unfold pTrail
    refine Ev.round (fun _ => by rw [impl_FollowAt.l0]) ?_
    by_cases c1 : r.1 = 3
    · refine Ev.pos c1 ?_
      refine Ev.pos (by omega) ?_
      refine Ev.bind (iHas_ev c r.2.2.1 r.2.2.2.1 r.2.2.2.2 (by omega)) ?_
      cases c2 : pHasA c r.2.2.1 r.2.2.2.1 r.2.2.2.2 with
      | true =>
        rw [if_neg (by simp)]
        exact Ev.pos rfl (Ev.now _)
      | false =>
        rw [if_pos ⟨c1, rfl⟩]
        refine Ev.neg (by simp) ?_
        refine Ev.pos (by omega) ?_
        refine Ev.bind (iAnswer_ev l _ _ _ t h hf) ?_
        exact ih _ _ (by simp only [List.length_append, List.length_singleton]; omega)
    · rw [if_neg (fun z => c1 z.1)]
      exact Ev.neg c1 (Ev.now _)
theorem iFollow_ev (l : List S179) (a p q t : Int) (h : l.length ≤ 1048576) (hf : ∀ y ∈ l, FitimplVersion y) : Ev (fun k => impl_FollowAt.f k l a p q t) (pFollow l a p q t) := by
  unfold impl_FollowAt.f pFollow
  exact Ev.bind (iAnswer_ev l a p q t h hf) (iTrail_ev l t h hf 4 _ _ rfl)
theorem iFrom_ev (s : List S179) (tk sd : Int) (ins : List Int) (w0 w1 w2 w3 n : Int) (h : s.length ≤ 1048576) (hf : ∀ y ∈ s, FitimplVersion y) (hi : ins.length ≤ 1048576) : Ev (fun k => impl_AddressesFrom.f k s tk sd ins w0 w1 w2 w3 n) (pFrom s tk sd ins w0 w1 w2 w3 n) := by
  have hno : ¬ (w0 = 1 ∧ pVisit s tk sd ins = true ∧ pIn n 0 100 = true) → Ev (fun k => impl_AddressesFrom.j0 k n true s tk sd ins w0 w1 w2 w3) (pFrom s tk sd ins w0 w1 w2 w3 n) := by
    intro c
    unfold pFrom
    rw [if_neg c]
    refine Ev.round (fun _ => by rw [impl_AddressesFrom.j0]) ?_
    exact Ev.pos rfl (Ev.now _)
  unfold impl_AddressesFrom.f
  refine Ev.bind (iIsVisit_ev s tk sd ins h hf hi) ?_
  by_cases c2 : pVisit s tk sd ins = true
  · refine Ev.pos c2 ?_
    refine Ev.now_bind (InRange_eq _ _ _) ?_
    by_cases c3 : pIn n 0 100 = true
    · refine Ev.pos c3 ?_
      by_cases c1 : w0 = 1
      · have hb : (w0 != 1) = false := bne_eq_false_iff_eq.2 c1
        rw [hb]
        have hlen := pFrom_length s tk sd ins w0 w1 w2 w3 n hf
        unfold pFrom at hlen ⊢
        rw [if_pos ⟨c1, c2, c3⟩] at hlen ⊢
        refine Ev.round (fun _ => by rw [impl_AddressesFrom.j0]) ?_
        refine Ev.neg (by simp) ?_
        refine Ev.bind (iFollow_ev s w1 w2 w3 (wrap64 (tk + n)) h hf) ?_
        have ec : impl_Address_101.f (pFollow s w1 w2 w3 (wrap64 (tk + n))).2.2.2.2.2 = some (pFollow s w1 w2 w3 (wrap64 (tk + n))).2.2.2.2.2 := by
          unfold impl_Address_101.f
          rw [Option.bind_some, List.nil_append, if_pos (by simp only [List.length_nil]; omega)]
        exact Ev.now_bind ec (Ev.now _)
      · have hb : (w0 != 1) = true := bne_iff_ne.2 c1
        rw [hb]
        exact hno (fun z => c1 z.1)
    · refine Ev.neg c3 ?_
      exact hno (fun z => c3 z.2.2)
  · refine Ev.neg c2 ?_
    exact hno (fun z => c2 z.2.1)
theorem ex_round {α : Type} {g f : Nat → Option α} {Q : α → Prop} (h : ∀ k, g (k + 1) = f k) (e : ∃ r, Ev f r ∧ Q r) : ∃ r, Ev g r ∧ Q r := by
  obtain ⟨r, e, q⟩ := e
  exact ⟨r, Ev.round h e, q⟩
theorem ex_pos {α : Type} {c : Prop} [Decidable c] {f g : Nat → Option α} {Q : α → Prop} (hc : c) (e : ∃ r, Ev f r ∧ Q r) : ∃ r, Ev (fun k => if c then f k else g k) r ∧ Q r := by
  obtain ⟨r, e, q⟩ := e
  exact ⟨r, Ev.pos hc e, q⟩
theorem ex_neg {α : Type} {c : Prop} [Decidable c] {f g : Nat → Option α} {Q : α → Prop} (hc : ¬ c) (e : ∃ r, Ev g r ∧ Q r) : ∃ r, Ev (fun k => if c then f k else g k) r ∧ Q r := by
  obtain ⟨r, e, q⟩ := e
  exact ⟨r, Ev.neg hc e, q⟩
theorem ex_bind {α β : Type} {f : Nat → Option β} {g : Nat → β → Option α} {v : β} {Q : α → Prop} (h : Ev f v) (e : ∃ r, Ev (fun k => g k v) r ∧ Q r) : ∃ r, Ev (fun k => (f k).bind (g k)) r ∧ Q r := by
  obtain ⟨r, e, q⟩ := e
  exact ⟨r, Ev.bind h e, q⟩
/-- What is handed on is told by one of its properties alone. -/
theorem ex_some {α β : Type} {v : β} {g : Nat → β → Option α} {P : β → Prop} {Q : α → Prop} (hP : P v) (h : ∀ y, P y → ∃ r, Ev (fun k => g k y) r ∧ Q r) : ∃ r, Ev (fun k => (some v).bind (g k)) r ∧ Q r := by
  obtain ⟨r, e, q⟩ := h v hP
  exact ⟨r, Ev.bind (Ev.now v) e, q⟩
theorem wraps5 (a : Int) (h0 : 0 ≤ a) (h1 : a ≤ 1152921504606846976) : wrap64 ((wrap64 ((wrap64 ((wrap64 ((wrap64 (a + 1)) + 1)) + 1)) + 1)) + 1) = a + 5 := by
  rw [w64 (n := a + 1) (by omega) (by omega), w64 (n := a + 1 + 1) (by omega) (by omega), w64 (n := a + 1 + 1 + 1) (by omega) (by omega), w64 (n := a + 1 + 1 + 1 + 1) (by omega) (by omega), w64 (n := a + 1 + 1 + 1 + 1 + 1) (by omega) (by omega)]
  omega
theorem wraps3 (a : Int) (h0 : 0 ≤ a) (h1 : a ≤ 1152921504606846976) : wrap64 ((wrap64 ((wrap64 (a + 1)) + 1)) + 1) = a + 3 := by
  rw [w64 (n := a + 1) (by omega) (by omega), w64 (n := a + 1 + 1) (by omega) (by omega), w64 (n := a + 1 + 1 + 1) (by omega) (by omega)]
  omega
def GoodVersion (n : Nat) (y : List S179) : Prop := y.length = n ∧ ∀ z ∈ y, z.f2.f1.length ≤ 1048576
theorem goodVersion_set {n : Nat} {y : List S179} (h : GoodVersion n y) (j : Nat) (e : S179) (he : e.f2.f1.length ≤ 1048576) : GoodVersion n (y.set j e) := by
  refine ⟨by rw [List.length_set]; exact h.1, fun z hz => ?_⟩
  rcases List.mem_or_eq_of_mem_set hz with hz | hz
  · exact h.2 z hz
  · rw [hz]; exact he
theorem goodVersion_rd {n : Nat} {y : List S179} (h : GoodVersion n y) (i : Nat) (hi : i < n) : (rd_T179 y (i : Int)).f2.f1.length ≤ 1048576 := h.2 _ (getD_mem y i (by rw [h.1]; exact hi) z179)
theorem markVersionS_some (l : List S179) (h : l.length ≤ 1048576) (hf : ∀ y ∈ l, FitimplVersion y) : ∃ r, Ev (fun k => laws_markVersionS.f k l 1) r ∧ (0 ≤ r ∧ r ≤ 2000000000000) := by
  unfold laws_markVersionS.f
  have key : ∀ (d i : Nat) (y : List S179) (a : Int), i + d = l.length → GoodVersion l.length y → 0 ≤ a → a ≤ 1 + 1048584 * (i : Int) → ∃ r, Ev (fun k => laws_markVersionS.l0 k y a (i : Int)) r ∧ (0 ≤ r ∧ r ≤ 2000000000000) := by
    intro d
    induction d with
    | zero =>
      intro i y a hi hy h0 h1
      have hl := hy.1
      refine ex_round (fun _ => by rw [laws_markVersionS.l0]) ?_
      refine ex_neg (by omega) ?_
      exact ⟨a, Ev.now _, h0, by omega⟩
    | succ d ih =>
      intro i y a hi hy h0 h1
      have hl := hy.1
      have hin : i < l.length := by omega
      have e1 : wrap64 ((i : Int) + 1) = ((i + 1 : Nat) : Int) := by rw [w64 (by omega) (by omega)]; omega
      refine ex_round (fun _ => by rw [laws_markVersionS.l0]) ?_
      refine ex_pos (by omega) ?_
      refine ex_pos (by omega) ?_
      refine ex_some (P := GoodVersion l.length) (goodVersion_set hy _ _ (goodVersion_rd hy i hin)) (fun y hy => ?_)
      refine ex_some (P := GoodVersion l.length) (goodVersion_set hy _ _ (goodVersion_rd hy i hin)) (fun y hy => ?_)
      refine ex_some (P := GoodVersion l.length) (goodVersion_set hy _ _ (goodVersion_rd hy i hin)) (fun y hy => ?_)
      refine ex_some (P := GoodVersion l.length) (goodVersion_set hy _ _ (goodVersion_rd hy i hin)) (fun y hy => ?_)
      refine ex_some (P := GoodVersion l.length) (goodVersion_set hy _ _ (goodVersion_rd hy i hin)) (fun y hy => ?_)
      have hb := goodVersion_rd hy i hin
      rw [wraps5 a h0 (by omega)]
      refine ex_bind (markIntS_ev _ (a + 5) hb (by omega) (by omega)) ?_
      dsimp only
      refine ex_some (P := GoodVersion l.length) (goodVersion_set hy _ _ (by simpa using hb)) (fun y2 hy2 => ?_)
      refine ex_some (P := GoodVersion l.length) (goodVersion_set hy2 _ _ (goodVersion_rd hy2 i hin)) (fun y3 hy3 => ?_)
      refine ex_some (P := GoodVersion l.length) (goodVersion_set hy3 _ _ (goodVersion_rd hy3 i hin)) (fun y4 hy4 => ?_)
      rw [wraps3 _ (by omega) (by omega), e1]
      exact ih (i + 1) _ _ (by omega) (goodVersion_set hy4 _ _ (goodVersion_rd hy4 i hin)) (by omega) (by omega)
  exact key l.length 0 l 1 (by omega) ⟨rfl, hf⟩ (by omega) (by omega)
theorem markVisit_some (s : List S179) (t sd : Int) (i : List Int) (h : s.length ≤ 1048576) (hf : ∀ y ∈ s, FitimplVersion y) (hi : i.length ≤ 1048576) : ∃ r, Ev (fun k => laws_markVisit.f k s t sd i 1) r ∧ 0 ≤ r.1 := by
  obtain ⟨n, e, h0, h1⟩ := markVersionS_some s h hf
  unfold laws_markVisit.f
  refine ex_bind e ?_
  refine ex_bind (markIntS_ev i n hi (by omega) (by omega)) ?_
  refine ⟨_, Ev.now _, ?_⟩
  dsimp only
  omega
theorem FnExactAddressesFrom (l0_0 : List S175) (a0_1 : Int) (a0_2 : Int) (l0_3 : List Int) (a1_0 : Int) (a1_1 : Int) (a1_2 : Int) (a1_3 : Int) (a2 : Int) (h0 : (l0_0.length ≤ maxLen ∧ ∀ e_ ∈ l0_0, W175 e_)) (h1 : (Lit.int .i64 a0_1).wf = true) (h2 : (Lit.int .i64 a0_2).wf = true) (h3 : (l0_3.length ≤ maxLen ∧ ∀ e_ ∈ l0_3, (Lit.int .i64 e_).wf = true)) (h4 : (Lit.int .i64 a1_0).wf = true) (h5 : (Lit.int .i64 a1_1).wf = true) (h6 : (Lit.int .i64 a1_2).wf = true) (h7 : (Lit.int .i64 a1_3).wf = true) (h8 : (Lit.int .i64 a2).wf = true) : ∃ k, laws_FnExactAddressesFrom.f k l0_0 a0_1 a0_2 l0_3 a1_0 a1_1 a1_2 a1_3 a2 = some true := by
  obtain ⟨r, e, b, g⟩ := szVisit_some l0_0 a0_1 a0_2 l0_3 1048576 ⟨h0.1, fun y hy => (h0.2 y hy).2.2.2.1.1⟩ h3.1 (by omega) (by omega)
  refine Ev.rounds ?_
  unfold laws_FnExactAddressesFrom.f
  refine Ev.bind e ?_
  by_cases c : r < 0
  · exact Ev.pos c (Ev.now _)
  obtain ⟨⟨hl, hy⟩, hi⟩ := g (by omega)
  have hm : (l0_0.map cvVersion).length ≤ 1048576 := by simpa using hl
  have hf : ∀ y ∈ l0_0.map cvVersion, FitimplVersion y := by
    intro y h
    obtain ⟨z, hz, rfl⟩ := List.mem_map.1 h
    exact hy z hz
  have t := toVisit_ev l0_0 a0_1 a0_2 l0_3 ⟨hl, hy⟩ hi
  have tw : laws_toWant.f a1_0 a1_1 a1_2 a1_3 = some (a1_0, a1_1, a1_2, a1_3) := toWant_eq _ _ _ _
  have sE := sFrom_ev (l0_0.map cvVersion) a0_1 a0_2 l0_3 a1_0 a1_1 a1_2 a1_3 a2 hm hf hi
  have iE := iFrom_ev (l0_0.map cvVersion) a0_1 a0_2 l0_3 a1_0 a1_1 a1_2 a1_3 a2 hm hf hi
  have fit := pFrom_length (l0_0.map cvVersion) a0_1 a0_2 l0_3 a1_0 a1_1 a1_2 a1_3 a2 hf
  generalize pFrom (l0_0.map cvVersion) a0_1 a0_2 l0_3 a1_0 a1_1 a1_2 a1_3 a2 = p at sE iE fit
  refine Ev.neg c ?_
  refine Ev.bind t ?_
  refine Ev.now_bind tw ?_
  refine Ev.bind sE ?_
  refine Ev.bind t ?_
  refine Ev.now_bind tw ?_
  refine Ev.bind iE ?_
  refine Ev.bind (eqAddressS_refl _ fit) ?_
  refine Ev.pos rfl ?_
  refine Ev.bind t ?_
  refine Ev.bind (eqVisit_refl _ _ _ _ ⟨hm, hf⟩ hi) ?_
  refine Ev.pos rfl ?_
  obtain ⟨mr, me, mp⟩ := markVisit_some (l0_0.map cvVersion) a0_1 a0_2 l0_3 hm hf hi
  refine Ev.bind me ?_
  refine Ev.neg (by omega) ?_
  refine Ev.bind (eqAddressS_refl _ fit) ?_
  have m1 := markAddressS_ev p 1 fit (by omega) (by omega)
  have q1 := heldAddressS_ev p.length 1 fit (by omega) (by omega)
  refine Ev.round (fun _ => by rw [laws_FnExactAddressesFrom.j0]) ?_
  refine Ev.neg (by simp) ?_
  refine Ev.bind m1 ?_
  refine Ev.bind q1 ?_
  refine Ev.neg (by omega) ?_
  refine Ev.pos rfl ?_
  refine Ev.bind t ?_
  refine Ev.now_bind tw ?_
  refine Ev.bind iE ?_
  refine Ev.bind (eqAddressS_refl _ fit) ?_
  refine Ev.pos rfl ?_
  refine Ev.bind q1 ?_
  refine Ev.neg (by omega) ?_
  refine Ev.pos rfl ?_
  exact Ev.now _
end Go.Proofs.Ytegaambhmpoakaa.Pure
