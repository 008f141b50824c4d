/- The program's CouldBe, which asks at each tick, and the reference's, which asks at the times of the site's changes, return the same: between two changes the same is answered; the arguments are as they were. No condition. -/
import Derived.Test.YtegaambhmpoakaaStdFnExactCouldBe
namespace Go.Proofs.Ytegaambhmpoakaa.Pure
open Go.RowKit Go.Proofs.Ytegaambhmpoakaa.MFnExactCouldBe Go.Proofs.YtegaambhmpoakaaW.PrintWords Go.Proofs.YtegaambhmpoakaaW.PrintLast Go.Proofs.YtegaambhmpoakaaW.PrintMore Go.Proofs.Ytegaambhmpoakaa.Gen
set_option linter.unusedVariables false
set_option linter.unusedSimpArgs false

def W24 (y : S24) : Prop := (Lit.int .i64 y.f0).wf = true ∧ (Lit.int .i64 y.f1).wf = true ∧ (Lit.int .i64 y.f2).wf = true
def W129 (y : S129) : Prop := (Lit.int .i64 y.f0).wf = true ∧ (y.f1.length ≤ maxLen ∧ ∀ e_ ∈ y.f1, (Lit.int .i64 e_).wf = true) ∧ W24 y.f2
def W175 (y : S175) : Prop := W24 y.f0 ∧ (Lit.int .i64 y.f1).wf = true ∧ W129 y.f2
def W131 (y : S131) : Prop := W24 y.f0 ∧ (Lit.int .i64 y.f1).wf = true ∧ W129 y.f2
theorem l1In_eq (a b c : Int) : spec_l1In.f a b c = some (decide (b ≤ a) && decide (a ≤ c)) := by
  unfold spec_l1In.f
  by_cases h : b ≤ a <;> simp [h]
theorem sCapturesIn_ev (n : Nat) (hn : n ≤ 1048575) : Ev (fun k => spec_CapturesIn.f k (n : Int)) (caps n 20) := by
  unfold spec_CapturesIn.f
  refine Ev.now_bind rfl ?_
  refine Ev.now_bind (l1In_eq _ _ _) ?_
  refine Ev.pos (by simp; omega) ?_
  have main := ev_down (fun k i => spec_CapturesIn.l0 k ((n / 2 ^ i : Nat) : Int) (caps n i) (i : Int)) 20 (fun _ => caps n 20)
    (Ev.round (fun _ => by rw [spec_CapturesIn.l0]) (Ev.neg (by omega) (Ev.now _)))
    (fun i hi h => ?_)
  · simpa [caps] using main
  have hlen := caps_length n i
  have hdiv : n / 2 ^ i ≤ n := Nat.div_le_self _ _
  have e2 : wrap64 (Int.tdiv ((n / 2 ^ i : Nat) : Int) 2) = ((n / 2 ^ (i + 1) : Nat) : Int) := by
    rw [half_nat _ (by omega), Nat.pow_succ, ← Nat.div_div_eq_div_mul]
  have e3 : Int.tmod ((n / 2 ^ i : Nat) : Int) 2 = ((n / 2 ^ i % 2 : Nat) : Int) := odd_nat _
  have e1 : wrap64 ((i : Int) + 1) = ((i + 1 : Nat) : Int) := by rw [w64 (by omega) (by omega)]; omega
  rw [caps_succ] at h
  refine Ev.round (fun _ => by rw [spec_CapturesIn.l0]) ?_
  refine Ev.pos (by omega) ?_
  by_cases hb : n / 2 ^ i % 2 = 1
  · rw [if_pos hb] at h
    refine Ev.pos (by rw [e3]; omega) ?_
    refine Ev.pos (by omega) ?_
    simp only [e1, e2]
    exact h
  · rw [if_neg hb] at h
    refine Ev.neg (by rw [e3]; omega) ?_
    simp only [e1, e2]
    exact h
theorem sCapturesIn_no (a : Int) (h : ¬ (0 ≤ a ∧ a ≤ 1048575)) : Ev (fun k => spec_CapturesIn.f k a) [] := by
  unfold spec_CapturesIn.f
  refine Ev.now_bind rfl ?_
  refine Ev.now_bind (l1In_eq _ _ _) ?_
  refine Ev.neg (by simp; omega) ?_
  exact Ev.now _
/-- The indices in a label; none of a number that is no label. -/
def pCaptures (a : Int) : List Int := if 0 ≤ a ∧ a ≤ 1048575 then caps a.toNat 20 else []
theorem pCaptures_length (a : Int) : (pCaptures a).length ≤ 20 := by
  unfold pCaptures
  split
  · exact caps_length _ _
  · simp
theorem sCaptures_ev (a : Int) : Ev (fun k => spec_CapturesIn.f k a) (pCaptures a) := by
  unfold pCaptures
  by_cases h : 0 ≤ a ∧ a ≤ 1048575
  · obtain ⟨n, rfl⟩ := Int.eq_ofNat_of_zero_le h.1
    rw [if_pos h]
    exact sCapturesIn_ev n (by omega)
  · rw [if_neg h]
    exact sCapturesIn_no a h
theorem caps_asc (n m : Nat) : (caps n m).Pairwise (· < ·) := by
  induction m with
  | zero => simp [caps]
  | succ m ih =>
    rw [caps_succ]
    split
    · refine List.pairwise_append.2 ⟨ih, List.pairwise_singleton _ _, ?_⟩
      intro x hx y hy
      obtain ⟨i, hi, _, rfl⟩ := (caps_mem n m x).1 hx
      simp only [List.mem_singleton] at hy
      omega
    · exact ih
theorem pCaptures_asc (a : Int) : (pCaptures a).Pairwise (· < ·) := by
  unfold pCaptures
  split
  · exact caps_asc _ _
  · exact List.Pairwise.nil
theorem pCaptures_pos (a x : Int) (h : x ∈ pCaptures a) : 0 ≤ x ∧ x < 20 := by
  unfold pCaptures at h
  split at h
  · obtain ⟨i, hi, _, rfl⟩ := (caps_mem _ _ x).1 h
    omega
  · simp at h
theorem asc_all (cs : List Int) (hs : cs.Pairwise (· < ·)) (h : cs.length ≠ 0) (n : Int) : (cs.all fun c => decide (c < n)) = decide (cs.getD (cs.length - 1) 0 < n) := by
  rw [Bool.eq_iff_iff]
  simp only [List.all_eq_true, decide_eq_true_eq]
  have hlast : cs.getD (cs.length - 1) 0 = cs[cs.length - 1]'(by omega) := getD_in _ _ (by omega) 0
  constructor
  · intro ha
    exact ha _ (getD_mem cs _ (by omega) 0)
  · intro hl x hx
    obtain ⟨i, hi, rfl⟩ := List.mem_iff_getElem.1 hx
    by_cases e : i = cs.length - 1
    · subst e
      omega
    · have := List.pairwise_iff_getElem.1 hs i (cs.length - 1) hi (by omega) (by omega)
      omega
def spanStep (l : List S93) (p : Int × Int) (c : Int) : Int × Int := (mn p.1 (rd_T93 l c).f1, mx p.2 (rd_T93 l c).f1)
/-- All the indices name captures. -/
def pHas (l : List S93) (cs : List Int) : Bool := cs.all fun c => decide (c < (l.length : Int))
def pSpanAll (l : List S93) : List Int → Int × Int
  | [] => (-1, -1)
  | c :: t => t.foldl (spanStep l) ((rd_T93 l c).f1, (rd_T93 l c).f1)
def pSpan (l : List S93) (cs : List Int) : Int × Int := if pHas l cs = true then pSpanAll l cs else (-1, -1)
theorem sAll_ev (l : List S93) (a : Int) : Ev (fun k => spec_l18All.f k l a) (pCaptures a, pHas l (pCaptures a)) := by
  unfold spec_l18All.f
  refine Ev.bind (sCaptures_ev a) ?_
  have hl := pCaptures_length a
  have hs := pCaptures_asc a
  generalize pCaptures a = cs at hl hs
  by_cases h : (cs.length : Int) = 0
  · refine Ev.pos h ?_
    have h2 : cs = [] := List.eq_nil_of_length_eq_zero (by omega)
    subst h2
    exact Ev.now _
  · have e1 : wrap64 ((cs.length : Int) - 1) = ((cs.length - 1 : Nat) : Int) := by rw [w64 (by omega) (by omega)]; omega
    refine Ev.neg h ?_
    simp only [e1, rd_nat]
    refine Ev.pos (by omega) ?_
    refine Ev.pos (by omega) ?_
    unfold pHas
    rw [asc_all cs hs (by omega)]
    exact Ev.now _
/-- A resource, as the printed functions hand it on. -/
abbrev Rsc := Int × List Int × Int × Int × Int
def pHere (a p q t : Int) (y : S179) : Bool := (y.f0.f0 == a && (y.f0.f1 == p && (y.f0.f2 == q))) && decide (y.f1 ≤ t)
def ansStep (a p q t : Int) (r : Rsc) (y : S179) : Rsc := if pHere a p q t y = true then (y.f2.f0, y.f2.f1, y.f2.f2.f0, y.f2.f2.f1, y.f2.f2.f2) else r
def pAnswer (l : List S179) (a p q t : Int) : Rsc := l.foldl (ansStep a p q t) (4, [], 0, 0, 0)
theorem pAnswer_fit (l : List S179) (a p q t : Int) (hf : ∀ y ∈ l, FitimplVersion y) : (pAnswer l a p q t).2.1.length ≤ 1048576 := by
  have key : ∀ (l : List S179) (r : Rsc), (∀ y ∈ l, FitimplVersion y) → r.2.1.length ≤ 1048576 → (l.foldl (ansStep a p q t) r).2.1.length ≤ 1048576 := by
    intro l
    induction l with
    | nil => intro r _ h; exact h
    | cons y l ih =>
      intro r hf h
      rw [List.foldl_cons]
      refine ih _ (fun z hz => hf z (List.mem_cons_of_mem _ hz)) ?_
      unfold ansStep
      split
      · exact hf y (by simp)
      · exact h
  exact key l _ hf (by simp)
theorem l5Copy_eq (k : Int) (b : List Int) (h p q : Int) (hb : b.length ≤ 1048576) : spec_l5Copy.f k b h p q = some (k, b, h, p, q) := by
  simp only [spec_l5Copy.f, Option.bind_some, List.nil_append, List.length_nil]
  rw [if_pos (by omega)]
theorem sAnswer_ev (l : List S179) (a p q t : Int) (h : l.length ≤ 1048576) (hf : ∀ y ∈ l, FitimplVersion y) : Ev (fun k => spec_AnswerAt.f k l a p q t) (pAnswer l a p q t) := by
  unfold spec_AnswerAt.f pAnswer
  refine ev_foldl (fun k (x : Rsc) i => spec_AnswerAt.l0 k l t i a p q x.1 x.2.1 x.2.2.1 x.2.2.2.1 x.2.2.2.2) l z179 (ansStep a p q t) (fun x => x) (fun _ _ => True) (4, [], 0, 0, 0) trivial ?_ ?_
  · intro x _
    refine Ev.round (fun _ => by rw [spec_AnswerAt.l0]) ?_
    exact Ev.neg (by omega) (Ev.now _)
  · intro i x hi _
    have e1 : wrap64 ((i : Int) + 1) = ((i + 1 : Nat) : Int) := by rw [w64 (by omega) (by omega)]; omega
    refine ⟨trivial, fun r hr => ?_⟩
    have hfy : FitimplVersion (rd_T179 l (i : Int)) := hf _ (getD_mem l i hi z179)
    have hr' : Ev (fun k => spec_AnswerAt.l0 k l t ((i + 1 : Nat) : Int) a p q (ansStep a p q t x (rd_T179 l (i : Int))).1 (ansStep a p q t x (rd_T179 l (i : Int))).2.1 (ansStep a p q t x (rd_T179 l (i : Int))).2.2.1 (ansStep a p q t x (rd_T179 l (i : Int))).2.2.2.1 (ansStep a p q t x (rd_T179 l (i : Int))).2.2.2.2) r := hr
    refine Ev.round (fun _ => by rw [spec_AnswerAt.l0]) ?_
    refine Ev.pos (by omega) ?_
    refine Ev.pos (by omega) ?_
    generalize hy : rd_T179 l (i : Int) = y at hr' hfy
    simp only [e1]
    unfold ansStep pHere at hr'
    cases c1 : (y.f0.f0 == a && (y.f0.f1 == p && (y.f0.f2 == q))) with
    | false =>
      rw [c1] at hr'
      exact Ev.neg (by simp) hr'
    | true =>
      rw [c1] at hr'
      refine Ev.pos rfl ?_
      by_cases c2 : y.f1 ≤ t
      · rw [decide_eq_true c2] at hr'
        exact Ev.pos c2 (Ev.now_bind (l5Copy_eq _ _ _ _ _ hfy) hr')
      · rw [decide_eq_false c2] at hr'
        exact Ev.neg c2 hr'
theorem ev_any {α : Type} (F : Nat → Int → Option Bool) (l : List α) (d : α) (p : α → Bool)
    (hend : ∀ k, F (k + 1) (l.length : Int) = some false)
    (hyes : ∀ i : Nat, i < l.length → p (l.getD i d) = true → Ev (fun k => F k (i : Int)) true)
    (hno : ∀ i : Nat, i < l.length → p (l.getD i d) = false → ∀ r, Ev (fun k => F k ((i + 1 : Nat) : Int)) r → Ev (fun k => F k (i : Int)) r) :
    Ev (fun k => F k 0) (l.any p) := by
  have h := ev_down (fun k i => F k (i : Int)) l.length (fun i => (l.drop i).any p) (Ev.round hend (Ev.const fun _ => by simp))
    (fun i hi h => by
      rw [drop_cons l i hi d, List.any_cons]
      cases hp : p (l.getD i d) with
      | true => simpa using hyes i hi hp
      | false => simpa using hno i hi hp _ h)
  simpa using h
abbrev Trail := Int × List Int × Int × Int × Int × List S31
def pHasA (c : List S31) (a p q : Int) : Bool := c.any fun y => y.f0 == a && (y.f1 == p && (y.f2 == q))
def pTrail (l : List S179) (t : Int) : Nat → List S31 → Rsc → Trail
  | 0, c, r => (r.1, r.2.1, r.2.2.1, r.2.2.2.1, r.2.2.2.2, c)
  | n + 1, c, r => if r.1 = 3 ∧ pHasA c r.2.2.1 r.2.2.2.1 r.2.2.2.2 = false then pTrail l t n (c ++ [⟨r.2.2.1, r.2.2.2.1, r.2.2.2.2⟩]) (pAnswer l r.2.2.1 r.2.2.2.1 r.2.2.2.2 t) else (r.1, r.2.1, r.2.2.1, r.2.2.2.1, r.2.2.2.2, c)
def pFollow (l : List S179) (a p q t : Int) : Trail := pTrail l t 4 [⟨a, p, q⟩] (pAnswer l a p q t)
theorem pTrail_fit (l : List S179) (t : Int) (hf : ∀ y ∈ l, FitimplVersion y) : ∀ (n : Nat) (c : List S31) (r : Rsc), r.2.1.length ≤ 1048576 → (pTrail l t n c r).2.1.length ≤ 1048576 ∧ (pTrail l t n c r).2.2.2.2.2.length ≤ c.length + n := by
  intro n
  induction n with
  | zero => intro c r h; exact ⟨h, Nat.le_refl _⟩
  | succ n ih =>
    intro c r h
    unfold pTrail
    split
    · have := ih (c ++ [⟨r.2.2.1, r.2.2.2.1, r.2.2.2.2⟩]) _ (pAnswer_fit l r.2.2.1 r.2.2.2.1 r.2.2.2.2 t hf)
      refine ⟨this.1, ?_⟩
      have h2 := this.2
      rw [List.length_append, List.length_singleton] at h2
      omega
    · exact ⟨h, Nat.le_add_right _ _⟩
theorem pFollow_fit (l : List S179) (a p q t : Int) (hf : ∀ y ∈ l, FitimplVersion y) : (pFollow l a p q t).2.1.length ≤ 1048576 := (pTrail_fit l t hf 4 _ _ (pAnswer_fit l a p q t hf)).1
theorem l9Has_ev (c : List S31) (a p q : Int) (h : c.length ≤ 1048576) : Ev (fun k => spec_l9Has.f k c a p q) (pHasA c a p q) := by
  unfold spec_l9Has.f pHasA
  refine ev_any (fun k i => spec_l9Has.l0 k c i a p q) c z31 _ (fun k => by rw [spec_l9Has.l0, if_neg (by omega)]) ?_ ?_
  · intro i hi hp
    refine Ev.round (fun _ => by rw [spec_l9Has.l0]) ?_
    exact Ev.pos (by omega) (Ev.pos (by omega) (Ev.pos hp (Ev.now _)))
  · intro i hi hp r hr
    have e1 : wrap64 ((i : Int) + 1) = ((i + 1 : Nat) : Int) := by rw [w64 (by omega) (by omega)]; omega
    refine Ev.round (fun _ => by rw [spec_l9Has.l0]) ?_
    refine Ev.pos (by omega) ?_
    refine Ev.pos (by omega) ?_
    refine Ev.neg (ne_true_of_eq_false hp) ?_
    simp only [e1]
    exact hr
theorem sTrail_ev (l : List S179) (t : Int) (h : l.length ≤ 1048576) (hf : ∀ y ∈ l, FitimplVersion y) : ∀ (n : Nat) (c : List S31) (r : Rsc), c.length + n = 5 → Ev (fun k => spec_FollowAt.l0 k l t c r.1 r.2.1 r.2.2.1 r.2.2.2.1 r.2.2.2.2) (pTrail l t n c r) := by
  intro n
  induction n with
  | zero =>
    intro c r hn
    refine Ev.round (fun _ => by rw [spec_FollowAt.l0]) ?_
    by_cases c1 : r.1 = 3
    · exact Ev.pos c1 (Ev.neg (by omega) (Ev.now _))
    · exact Ev.neg c1 (Ev.now _)
  | succ n ih =>
    intro c r hn
    unfold pTrail
    refine Ev.round (fun _ => by rw [spec_FollowAt.l0]) ?_
    by_cases c1 : r.1 = 3
    · refine Ev.pos c1 ?_
      refine Ev.pos (by omega) ?_
      refine Ev.bind (l9Has_ev c r.2.2.1 r.2.2.2.1 r.2.2.2.2 (by omega)) ?_
      cases c2 : pHasA c r.2.2.1 r.2.2.2.1 r.2.2.2.2 with
      | true =>
        rw [if_neg (by simp)]
        exact Ev.pos rfl (Ev.now _)
      | false =>
        rw [if_pos ⟨c1, rfl⟩]
        refine Ev.neg (by simp) ?_
        refine Ev.pos (by omega) ?_
        refine Ev.bind (sAnswer_ev l _ _ _ t h hf) ?_
        exact ih _ _ (by simp only [List.length_append, List.length_singleton]; omega)
    · rw [if_neg (fun z => c1 z.1)]
      exact Ev.neg c1 (Ev.now _)
theorem sFollow_ev (l : List S179) (a p q t : Int) (h : l.length ≤ 1048576) (hf : ∀ y ∈ l, FitimplVersion y) : Ev (fun k => spec_FollowAt.f k l a p q t) (pFollow l a p q t) := by
  unfold spec_FollowAt.f pFollow
  exact Ev.bind (sAnswer_ev l a p q t h hf) (sTrail_ev l t h hf 4 _ _ rfl)
theorem sEqualInts_ev (a b : List Int) (h : a.length ≤ 1048576) : Ev (fun k => spec_EqualInts.f k a b) (decide (a = b)) := by
  unfold spec_EqualInts.f
  by_cases hl : a.length = b.length
  · refine Ev.pos (by omega) ?_
    rw [← zip_all_eq a b hl]
    refine ev_all2 (fun k i => spec_EqualInts.l0 k a b i) a b 0 (fun x y => decide (x = y)) hl (fun k => by rw [spec_EqualInts.l0, if_neg (by omega)]) ?_ ?_
    · intro i hi hp r hr
      have e1 : wrap64 ((i : Int) + 1) = ((i + 1 : Nat) : Int) := by rw [w64 (by omega) (by omega)]; omega
      refine Ev.round (fun _ => by rw [spec_EqualInts.l0]) ?_
      refine Ev.pos (by omega) ?_
      refine Ev.pos (by omega) ?_
      refine Ev.pos (by omega) ?_
      refine Ev.pos ?_ ?_
      · rw [rd_nat, rd_nat]; exact of_decide_eq_true hp
      · simp only [e1]; exact hr
    · intro i hi hp
      refine Ev.round (fun _ => by rw [spec_EqualInts.l0]) ?_
      refine Ev.pos (by omega) ?_
      refine Ev.pos (by omega) ?_
      refine Ev.pos (by omega) ?_
      refine Ev.neg ?_ (Ev.now _)
      rw [rd_nat, rd_nat]; exact of_decide_eq_false hp
  · have hne : a ≠ b := fun e => hl (by rw [e])
    rw [decide_eq_false hne]
    exact Ev.neg (by omega) (Ev.now _)
abbrev pEqAddr (h p q h' p' q' : Int) : Bool := h == h' && (p == p' && (q == q'))
def pEqRes (k : Int) (b : List Int) (h p q : Int) (k' : Int) (b' : List Int) (h' p' q' : Int) : Bool := decide (k = k') && (pEqAddr h p q h' p' q' && decide (b = b'))
theorem sEqualResources_ev (k : Int) (b : List Int) (h p q : Int) (k' : Int) (b' : List Int) (h' p' q' : Int) (hb : b.length ≤ 1048576) : Ev (fun n => spec_EqualResources.f n k b h p q k' b' h' p' q') (pEqRes k b h p q k' b' h' p' q') := by
  unfold spec_EqualResources.f pEqRes
  exact Ev.if_and fun _ => Ev.ifb_and fun _ => Ev.id (sEqualInts_ev b b' hb)
def pPut : List Int → Int → List Int
  | [], n => [n]
  | y :: l, n => if y < n then y :: pPut l n else if y = n then y :: l else n :: y :: l
theorem pPut_mem (l : List Int) (n x : Int) : x ∈ pPut l n ↔ x = n ∨ x ∈ l := by
  induction l with
  | nil => simp [pPut]
  | cons y l ih =>
    unfold pPut
    split
    · rw [List.mem_cons, ih, List.mem_cons]
      constructor
      · rintro (h | h | h)
        · exact Or.inr (Or.inl h)
        · exact Or.inl h
        · exact Or.inr (Or.inr h)
      · rintro (h | h | h)
        · exact Or.inr (Or.inl h)
        · exact Or.inl h
        · exact Or.inr (Or.inr h)
    · split
      · rename_i h
        subst h
        simp
      · simp
theorem pPut_length (l : List Int) (n : Int) : (pPut l n).length ≤ l.length + 1 := by
  induction l with
  | nil => simp [pPut]
  | cons y l ih =>
    unfold pPut
    split
    · simp only [List.length_cons]
      omega
    · split
      · simp
      · simp
theorem l9Put_ev (l : List Int) (n : Int) (h : l.length ≤ 4194304) : Ev (fun k => spec_l9Put.f k l n) (pPut l n) := by
  unfold spec_l9Put.f
  have key := ev_down (fun k i => spec_l9Put.l0 k l n (i : Int)) l.length (fun i => l.take i ++ pPut (l.drop i) n) ?_ ?_
  · simpa using key
  · refine Ev.round (fun _ => by rw [spec_l9Put.l0]) ?_
    have e0 : ((l.length : Nat) : Int).toNat = l.length := Int.toNat_natCast _
    rw [List.take_length, List.drop_length]
    refine Ev.neg (by omega) ?_
    refine Ev.now_bind rfl ?_
    refine Ev.pos (by omega) ?_
    refine Ev.pos (by omega) ?_
    simp only [e0, List.take_length, List.drop_length, List.nil_append, List.length_nil]
    refine Ev.pos (by omega) ?_
    refine Ev.now_bind rfl ?_
    refine Ev.now_bind rfl ?_
    refine Ev.pos (by simp only [List.length_singleton]; omega) ?_
    refine Ev.now_bind rfl ?_
    refine Ev.pos (by simp only [List.length_append, List.length_singleton]; omega) ?_
    refine Ev.cast (Ev.now _) ?_
    simp [pPut]
  · intro i hi hr
    have e1 : wrap64 ((i : Int) + 1) = ((i + 1 : Nat) : Int) := by rw [w64 (by omega) (by omega)]; omega
    have e0 : ((i : Nat) : Int).toNat = i := Int.toNat_natCast _
    have e2 : rd l (i : Int) = l.getD i 0 := rd_nat _ _
    have e3 : l.drop i = l.getD i 0 :: l.drop (i + 1) := drop_cons l i hi 0
    have e4 : l.take (i + 1) = l.take i ++ [l.getD i 0] := by
      rw [List.take_succ_eq_append_getElem hi, getD_in l i hi 0]
    rw [e4] at hr
    rw [e3]
    have ht : (l.take i).length ≤ l.length := by rw [List.length_take]; omega
    have hd : (l.drop i).length ≤ l.length := by rw [List.length_drop]; omega
    have hall : l.take i ++ (l.getD i 0 :: l.drop (i + 1)) = l := by
      rw [← e3]
      exact List.take_append_drop i l
    refine Ev.round (fun _ => by rw [spec_l9Put.l0]) ?_
    refine Ev.pos (by omega) ?_
    refine Ev.pos (by omega) ?_
    simp only [e0, e1, e2]
    generalize hy : l.getD i 0 = y at hr e3 hall
    by_cases c1 : y < n
    · have e5 : pPut (y :: l.drop (i + 1)) n = y :: pPut (l.drop (i + 1)) n := by
        rw [pPut, if_pos c1]
      refine Ev.pos c1 ?_
      refine Ev.cast hr ?_
      rw [e5]
      simp
    · refine Ev.neg c1 ?_
      by_cases c2 : y = n
      · have e5 : pPut (y :: l.drop (i + 1)) n = y :: l.drop (i + 1) := by
          rw [pPut, if_neg c1, if_pos c2]
        refine Ev.pos c2 ?_
        refine Ev.now_bind rfl ?_
        refine Ev.pos (by simp only [List.length_nil]; omega) ?_
        refine Ev.cast (Ev.now _) ?_
        rw [List.nil_append, e5, hall]
      · have e5 : pPut (y :: l.drop (i + 1)) n = n :: y :: l.drop (i + 1) := by
          rw [pPut, if_neg c1, if_neg c2]
        refine Ev.neg c2 ?_
        refine Ev.now_bind rfl ?_
        refine Ev.pos (by omega) ?_
        simp only [List.nil_append, List.length_nil]
        refine Ev.pos (by omega) ?_
        refine Ev.now_bind rfl ?_
        refine Ev.now_bind rfl ?_
        refine Ev.pos (by simp only [List.length_singleton]; omega) ?_
        refine Ev.now_bind rfl ?_
        refine Ev.pos (by simp only [List.length_append, List.length_singleton]; omega) ?_
        refine Ev.cast (Ev.now _) ?_
        rw [e3, e5]
        simp
def pSits (s : List S179) (x : List S93) (t c : Int) : Bool :=
  pEqRes (pFollow s (rd_T93 x c).f0.f0 (rd_T93 x c).f0.f1 (rd_T93 x c).f0.f2 t).1 (pFollow s (rd_T93 x c).f0.f0 (rd_T93 x c).f0.f1 (rd_T93 x c).f0.f2 t).2.1 (pFollow s (rd_T93 x c).f0.f0 (rd_T93 x c).f0.f1 (rd_T93 x c).f0.f2 t).2.2.1 (pFollow s (rd_T93 x c).f0.f0 (rd_T93 x c).f0.f1 (rd_T93 x c).f0.f2 t).2.2.2.1 (pFollow s (rd_T93 x c).f0.f0 (rd_T93 x c).f0.f1 (rd_T93 x c).f0.f2 t).2.2.2.2.1 (rd_T93 x c).f2.f0 (rd_T93 x c).f2.f1 (rd_T93 x c).f2.f2.f0 (rd_T93 x c).f2.f2.f1 (rd_T93 x c).f2.f2.f2
def pAllSit (s : List S179) (x : List S93) (cs : List Int) (t : Int) : Bool := cs.all (pSits s x t)
def timeStep (ts : List Int) (y : S179) : List Int := if pIn y.f1 0 1000 = true then pPut ts y.f1 else ts
def pTimes (s : List S179) : List Int := s.foldl timeStep [0]
/-- The reference asks at the times of the site's changes. -/
def pCould (s : List S179) (x : List S93) (a : Int) : Bool := pHas x (pCaptures a) && (pTimes s).any (pAllSit s x (pCaptures a))
theorem pTimes_mem (s : List S179) (t : Int) : t ∈ pTimes s ↔ t = 0 ∨ ∃ y ∈ s, y.f1 = t ∧ pIn t 0 1000 = true := by
  have key : ∀ (s : List S179) (ts : List Int), t ∈ s.foldl timeStep ts ↔ t ∈ ts ∨ ∃ y ∈ s, y.f1 = t ∧ pIn t 0 1000 = true := by
    intro s
    induction s with
    | nil => intro ts; simp
    | cons y s ih =>
      intro ts
      rw [List.foldl_cons, ih]
      unfold timeStep
      by_cases c : pIn y.f1 0 1000 = true
      · rw [if_pos c, pPut_mem]
        constructor
        · rintro ((h | h) | ⟨z, hz, h⟩)
          · exact Or.inr ⟨y, List.mem_cons_self .., h.symm, h ▸ c⟩
          · exact Or.inl h
          · exact Or.inr ⟨z, List.mem_cons_of_mem _ hz, h⟩
        · rintro (h | ⟨z, hz, h1, h2⟩)
          · exact Or.inl (Or.inr h)
          · rcases List.mem_cons.1 hz with e | e
            · exact Or.inl (Or.inl (by rw [← h1, e]))
            · exact Or.inr ⟨z, e, h1, h2⟩
      · rw [if_neg c]
        constructor
        · rintro (h | ⟨z, hz, h⟩)
          · exact Or.inl h
          · exact Or.inr ⟨z, List.mem_cons_of_mem _ hz, h⟩
        · rintro (h | ⟨z, hz, h1, h2⟩)
          · exact Or.inl h
          · rcases List.mem_cons.1 hz with e | e
            · exact absurd (by rw [← e, h1]; exact h2) c
            · exact Or.inr ⟨z, e, h1, h2⟩
  have h := key s [0]
  rw [List.mem_singleton] at h
  exact h
theorem pTimes_length (s : List S179) : (pTimes s).length ≤ s.length + 1 := by
  have key : ∀ (s : List S179) (ts : List Int), (s.foldl timeStep ts).length ≤ s.length + ts.length := by
    intro s
    induction s with
    | nil => intro ts; simp
    | cons y s ih =>
      intro ts
      rw [List.foldl_cons, List.length_cons]
      refine Nat.le_trans (ih _) ?_
      unfold timeStep
      split
      · have := pPut_length ts y.f1
        omega
      · omega
  exact key s [0]
/-- At two ticks between which no version begins, the same is answered. -/
theorem pAnswer_same (s : List S179) (a p q t u : Int) (h : ∀ y ∈ s, (y.f1 ≤ t ↔ y.f1 ≤ u)) : pAnswer s a p q t = pAnswer s a p q u := by
  have key : ∀ (s : List S179) (r : Rsc), (∀ y ∈ s, (y.f1 ≤ t ↔ y.f1 ≤ u)) → s.foldl (ansStep a p q t) r = s.foldl (ansStep a p q u) r := by
    intro s
    induction s with
    | nil => intro r _; rfl
    | cons y s ih =>
      intro r h
      have e : ansStep a p q t r y = ansStep a p q u r y := by
        unfold ansStep pHere
        rw [decide_eq_decide.2 (h y (List.mem_cons_self ..))]
      rw [List.foldl_cons, List.foldl_cons, e]
      exact ih _ (fun z hz => h z (List.mem_cons_of_mem _ hz))
  exact key s _ h
theorem pTrail_same (s : List S179) (t u : Int) (h : ∀ y ∈ s, (y.f1 ≤ t ↔ y.f1 ≤ u)) : ∀ (n : Nat) (c : List S31) (r : Rsc), pTrail s t n c r = pTrail s u n c r := by
  intro n
  induction n with
  | zero => intro c r; rfl
  | succ n ih =>
    intro c r
    unfold pTrail
    rw [pAnswer_same s _ _ _ t u h, ih]
theorem pFollow_same (s : List S179) (a p q t u : Int) (h : ∀ y ∈ s, (y.f1 ≤ t ↔ y.f1 ≤ u)) : pFollow s a p q t = pFollow s a p q u := by
  unfold pFollow
  rw [pAnswer_same s _ _ _ t u h, pTrail_same s t u h]
theorem pAllSit_same (s : List S179) (x : List S93) (cs : List Int) (t u : Int) (h : ∀ y ∈ s, (y.f1 ≤ t ↔ y.f1 ≤ u)) : pAllSit s x cs t = pAllSit s x cs u := by
  have e : pSits s x t = pSits s x u := by
    funext c
    unfold pSits
    rw [pFollow_same s _ _ _ t u h]
  unfold pAllSit
  rw [e]
theorem times_near (s : List S179) : ∀ n : Nat, n ≤ 1000 → ∃ u ∈ pTimes s, ∀ y ∈ s, (y.f1 ≤ (n : Int) ↔ y.f1 ≤ u) := by
  intro n
  induction n with
  | zero => intro _; exact ⟨0, (pTimes_mem s 0).2 (Or.inl rfl), fun y _ => Iff.rfl⟩
  | succ n ih =>
    intro hn
    by_cases c : ((n + 1 : Nat) : Int) ∈ pTimes s
    · exact ⟨_, c, fun y _ => Iff.rfl⟩
    · obtain ⟨u, hu, h⟩ := ih (by omega)
      refine ⟨u, hu, fun y hy => ?_⟩
      rw [← h y hy]
      have hne : y.f1 ≠ ((n + 1 : Nat) : Int) := by
        intro e
        refine c ((pTimes_mem s _).2 (Or.inr ⟨y, hy, e, ?_⟩))
        simp only [pIn, Bool.and_eq_true, decide_eq_true_eq]
        omega
      omega
theorem times_any (s : List S179) (x : List S93) (cs : List Int) : (pTimes s).any (pAllSit s x cs) = (List.range 1001).any fun n : Nat => pAllSit s x cs (n : Int) := by
  rw [Bool.eq_iff_iff, List.any_eq_true, List.any_eq_true]
  constructor
  · rintro ⟨t, ht, h⟩
    have hr : 0 ≤ t ∧ t ≤ 1000 := by
      rcases (pTimes_mem s t).1 ht with e | ⟨y, _, _, e⟩
      · omega
      · simpa only [pIn, Bool.and_eq_true, decide_eq_true_eq] using e
    refine ⟨t.toNat, List.mem_range.2 (by omega), ?_⟩
    rw [Int.toNat_of_nonneg hr.1]
    exact h
  · rintro ⟨n, hn, h⟩
    obtain ⟨u, hu, e⟩ := times_near s n (by have := List.mem_range.1 hn; omega)
    exact ⟨u, hu, by rw [← pAllSit_same s x cs _ u e]; exact h⟩
theorem sCouldBe_ev (s : List S179) (x : List S93) (a : Int) (h : s.length ≤ 1048576) (hf : ∀ y ∈ s, FitimplVersion y) : Ev (fun k => spec_CouldBe.f k s x a) (pCould s x a) := by
  unfold spec_CouldBe.f pCould
  refine Ev.bind (sAll_ev x a) ?_
  have hl := pCaptures_length a
  have hp := pCaptures_pos a
  generalize pCaptures a = cs at hl hp
  cases hh : pHas x cs with
  | false => exact Ev.neg (by simp) (Ev.now _)
  | true =>
    refine Ev.pos rfl ?_
    have hin : ∀ c ∈ cs, c < (x.length : Int) := by simpa [pHas] using hh
    rw [Bool.true_and]
    -- one time
    have one : ∀ (ts : List Int) (i : Nat), i < ts.length → ∀ (d j : Nat), j + d = cs.length → ∀ (b r : Bool), (if (b && (cs.drop j).all (pSits s x (ts.getD i 0))) = true then r = true else Ev (fun k => spec_CouldBe.l1 k s x cs ts (wrap64 ((i : Int) + 1))) r) → Ev (fun k => spec_CouldBe.l2 k s x cs ts (i : Int) b (j : Int)) r := by
      intro ts i hi d
      induction d with
      | zero =>
        intro j hj b r hr
        refine Ev.round (fun _ => by rw [spec_CouldBe.l2]) ?_
        refine Ev.neg (by omega) ?_
        refine Ev.round (fun _ => by rw [spec_CouldBe.j3]) ?_
        refine Ev.neg (by simp) ?_
        rw [List.drop_eq_nil_of_le (by omega)] at hr
        cases b with
        | true =>
          have hr2 : r = true := by simpa using hr
          subst hr2
          exact Ev.pos rfl (Ev.now _)
        | false =>
          rw [if_neg (by simp)] at hr
          exact Ev.neg (by simp) hr
      | succ d ih =>
        intro j hj b r hr
        refine Ev.round (fun _ => by rw [spec_CouldBe.l2]) ?_
        refine Ev.pos (by omega) ?_
        refine Ev.round (fun _ => by rw [spec_CouldBe.j3]) ?_
        cases b with
        | false =>
          rw [if_neg (by simp)] at hr
          exact Ev.neg (by simp) (Ev.neg (by simp) hr)
        | true =>
          have hm := getD_mem cs j (by omega) 0
          have h1 := hin _ hm
          have h2 := hp _ hm
          have e1 : wrap64 ((j : Int) + 1) = ((j + 1 : Nat) : Int) := by rw [w64 (by omega) (by omega)]; omega
          have e2 : rd cs (j : Int) = cs.getD j 0 := rd_nat _ _
          have e3 : rd ts (i : Int) = ts.getD i 0 := rd_nat _ _
          rw [drop_cons cs j (by omega) 0, List.all_cons, Bool.true_and] at hr
          simp only [e1, e2, e3]
          generalize cs.getD j 0 = c at h1 h2 hr
          refine Ev.pos (by simp) ?_
          refine Ev.pos (by omega) ?_
          refine Ev.pos (by omega) ?_
          refine Ev.pos (by omega) ?_
          refine Ev.pos h1 ?_
          refine Ev.pos (by omega) ?_
          refine Ev.pos (by omega) ?_
          refine Ev.bind (sFollow_ev s _ _ _ (ts.getD i 0) h hf) ?_
          refine Ev.bind (sEqualResources_ev _ _ _ _ _ _ _ _ _ _ (pFollow_fit s _ _ _ (ts.getD i 0) hf)) ?_
          exact ih (j + 1) (by omega) _ r hr
    -- the times
    have all : ∀ (ts : List Int), ts.length ≤ 4194304 → Ev (fun k => spec_CouldBe.l1 k s x cs ts 0) (ts.any (pAllSit s x cs)) := by
      intro ts ht
      refine ev_any (fun k i => spec_CouldBe.l1 k s x cs ts i) ts 0 (pAllSit s x cs) (fun k => by rw [spec_CouldBe.l1, if_neg (by omega)]) ?_ ?_
      · intro i hi hp'
        refine Ev.round (fun _ => by rw [spec_CouldBe.l1]) ?_
        refine Ev.pos (by omega) ?_
        refine one ts i hi cs.length 0 (by omega) true true ?_
        have hp2 : (true && (cs.drop 0).all (pSits s x (ts.getD i 0))) = true := hp'
        rw [if_pos hp2]
      · intro i hi hp' r hr
        have e1 : wrap64 ((i : Int) + 1) = ((i + 1 : Nat) : Int) := by rw [w64 (by omega) (by omega)]; omega
        refine Ev.round (fun _ => by rw [spec_CouldBe.l1]) ?_
        refine Ev.pos (by omega) ?_
        refine one ts i hi cs.length 0 (by omega) true r ?_
        have hp2 : (true && (cs.drop 0).all (pSits s x (ts.getD i 0))) = false := hp'
        rw [if_neg (by rw [hp2]; simp), e1]
        exact hr
    -- the site's changes
    refine ev_foldl (fun k ts i => spec_CouldBe.l0 k s x cs ts i) s z179 timeStep (fun ts => ts.any (pAllSit s x cs)) (fun i ts => ts.length ≤ i + 1) [0] (by simp) ?_ ?_
    · intro ts ht
      refine Ev.round (fun _ => by rw [spec_CouldBe.l0]) ?_
      refine Ev.neg (by omega) ?_
      exact all ts (by omega)
    · intro i ts hi ht
      have e1 : wrap64 ((i : Int) + 1) = ((i + 1 : Nat) : Int) := by rw [w64 (by omega) (by omega)]; omega
      have hpl := pPut_length ts (s.getD i z179).f1
      refine ⟨by unfold timeStep; split <;> omega, fun r hr => ?_⟩
      have hr' : Ev (fun k => spec_CouldBe.l0 k s x cs (timeStep ts (rd_T179 s (i : Int))) ((i + 1 : Nat) : Int)) r := hr
      refine Ev.round (fun _ => by rw [spec_CouldBe.l0]) ?_
      refine Ev.pos (by omega) ?_
      refine Ev.pos (by omega) ?_
      refine Ev.now_bind (l1In_eq _ _ _) ?_
      simp only [e1]
      unfold timeStep at hr'
      generalize rd_T179 s (i : Int) = y at hr'
      by_cases c : pIn y.f1 0 1000 = true
      · rw [if_pos c] at hr'
        exact Ev.pos c (Ev.bind (l9Put_ev ts y.f1 (by omega)) hr')
      · rw [if_neg c] at hr'
        exact Ev.neg c hr'
theorem InRange_eq (a b c : Int) : impl_InRange.f a b c = some (decide (b ≤ a) && decide (a ≤ c)) := by
  unfold impl_InRange.f
  by_cases h : b ≤ a <;> simp [h]
theorem iCapturesIn_ev (n : Nat) (hn : n ≤ 1048575) : Ev (fun k => impl_CapturesIn.f k (n : Int)) (caps n 20) := by
  unfold impl_CapturesIn.f
  refine Ev.now_bind (InRange_eq _ _ _) ?_
  refine Ev.pos (by simp; omega) ?_
  have main := ev_down (fun k i => impl_CapturesIn.l0 k (n : Int) (caps n i) (i : Int)) 20 (fun _ => caps n 20)
    (Ev.round (fun _ => by rw [impl_CapturesIn.l0]) (Ev.neg (by omega) (Ev.now _)))
    (fun i hi h => ?_)
  · simpa [caps] using main
  have hlen := caps_length n i
  have hdiv : n / 2 ^ i ≤ n := Nat.div_le_self _ _
  have e3 : Go.bits .and .i64 (shr .i64 (n : Int) (i : Int)) 1 = ((n / 2 ^ i % 2 : Nat) : Int) := by
    rw [shr_nat _ _ (by omega), bit_nat _ (by omega)]
  have e1 : wrap64 ((i : Int) + 1) = ((i + 1 : Nat) : Int) := by rw [w64 (by omega) (by omega)]; omega
  rw [caps_succ] at h
  refine Ev.round (fun _ => by rw [impl_CapturesIn.l0]) ?_
  refine Ev.pos (by omega) ?_
  refine Ev.pos (by omega) ?_
  by_cases hb : n / 2 ^ i % 2 = 1
  · rw [if_pos hb] at h
    refine Ev.pos (by rw [e3]; omega) ?_
    refine Ev.pos (by omega) ?_
    simp only [e1]
    exact h
  · rw [if_neg hb] at h
    refine Ev.neg (by rw [e3]; omega) ?_
    simp only [e1]
    exact h
theorem iCapturesIn_no (a : Int) (h : ¬ (0 ≤ a ∧ a ≤ 1048575)) : Ev (fun k => impl_CapturesIn.f k a) [] := by
  unfold impl_CapturesIn.f
  refine Ev.now_bind (InRange_eq _ _ _) ?_
  refine Ev.neg (by simp; omega) ?_
  exact Ev.now _
theorem iCaptures_ev (a : Int) : Ev (fun k => impl_CapturesIn.f k a) (pCaptures a) := by
  unfold pCaptures
  by_cases h : 0 ≤ a ∧ a ≤ 1048575
  · obtain ⟨n, rfl⟩ := Int.eq_ofNat_of_zero_le h.1
    rw [if_pos h]
    exact iCapturesIn_ev n (by omega)
  · rw [if_neg h]
    exact iCapturesIn_no a h
theorem copyResource_eq (k : Int) (b : List Int) (h p q : Int) (hb : b.length ≤ 1048576) : impl_copyResource.f k b h p q = some (k, b, h, p, q) := by
  simp only [impl_copyResource.f, slices_Clone_int_int.f, Option.bind_some, List.nil_append, List.length_nil]
  rw [if_pos (by omega)]
  rfl
theorem iAnswer_ev (l : List S179) (a p q t : Int) (h : l.length ≤ 1048576) (hf : ∀ y ∈ l, FitimplVersion y) : Ev (fun k => impl_AnswerAt.f k l a p q t) (pAnswer l a p q t) := by
  unfold impl_AnswerAt.f pAnswer
  have key : ∀ i : Nat, i ≤ l.length → Ev (fun k => impl_AnswerAt.l0 k l t ((i : Int) - 1) a p q) ((l.take i).foldl (ansStep a p q t) (4, [], 0, 0, 0)) := by
    intro i
    induction i with
    | zero =>
      intro _
      refine Ev.round (fun _ => by rw [impl_AnswerAt.l0]) ?_
      exact Ev.neg (by omega) (Ev.now _)
    | succ i ih =>
      intro hi
      have h0 := ih (by omega)
      have e0 : ((i + 1 : Nat) : Int) - 1 = (i : Int) := by omega
      have e1 : wrap64 ((i : Int) - 1) = (i : Int) - 1 := w64 (by omega) (by omega)
      have hfy : FitimplVersion (rd_T179 l (i : Int)) := hf _ (getD_mem l i (by omega) z179)
      have e2 : (l.take (i + 1)).foldl (ansStep a p q t) (4, [], 0, 0, 0) = ansStep a p q t ((l.take i).foldl (ansStep a p q t) (4, [], 0, 0, 0)) (rd_T179 l (i : Int)) := by
        rw [List.take_succ_eq_append_getElem (by omega), List.foldl_append]
        have e3 : rd_T179 l (i : Int) = l[i]'(by omega) := getD_in l i (by omega) z179
        rw [e3]
        rfl
      rw [e2, e0]
      generalize (l.take i).foldl (ansStep a p q t) (4, [], 0, 0, 0) = x at h0
      refine Ev.round (fun _ => by rw [impl_AnswerAt.l0]) ?_
      refine Ev.pos (by omega) ?_
      refine Ev.pos (by omega) ?_
      refine Ev.pos (by omega) ?_
      generalize hy : rd_T179 l (i : Int) = y at hfy
      simp only [e1]
      unfold ansStep pHere
      cases c1 : (y.f0.f0 == a && (y.f0.f1 == p && (y.f0.f2 == q))) with
      | false => exact Ev.neg (by simp) h0
      | true =>
        refine Ev.pos rfl ?_
        by_cases c2 : y.f1 ≤ t
        · rw [decide_eq_true c2]
          exact Ev.pos c2 (Ev.now_bind (copyResource_eq _ _ _ _ _ hfy) (Ev.now _))
        · rw [decide_eq_false c2]
          exact Ev.neg c2 h0
  have h1 := key l.length (by omega)
  rw [List.take_length] at h1
  rw [w64 (by omega) (by omega)]
  exact h1
theorem iHas_ev (c : List S31) (a p q : Int) (h : c.length ≤ 1048576) : Ev (fun k => impl_Address_170.f k c a p q) (pHasA c a p q) := by
  unfold impl_Address_170.f pHasA
  have hx : ∃ r : Int, Ev (fun k => impl_Address_196.f k c a p q) r ∧ decide (r ≥ 0) = c.any fun y => y.f0 == a && (y.f1 == p && (y.f2 == q)) := by
    unfold impl_Address_196.f
    refine ev_find (fun k i => impl_Address_196.l0 k c (c.length : Int) i a p q) c z31 (fun y => y.f0 == a && (y.f1 == p && (y.f2 == q))) (fun k => by rw [impl_Address_196.l0, if_neg (by omega)]) ?_ ?_
    · intro i hi hp
      have hp' : (a == (rd_T31 c (i : Int)).f0 && (p == (rd_T31 c (i : Int)).f1 && (q == (rd_T31 c (i : Int)).f2))) = true := by
        rw [Bool.beq_comm (a := a), Bool.beq_comm (a := p), Bool.beq_comm (a := q)]
        exact hp
      refine Ev.round (fun _ => by rw [impl_Address_196.l0]) ?_
      exact Ev.pos (by omega) (Ev.pos (by omega) (Ev.pos (by omega) (Ev.pos hp' (Ev.now _))))
    · intro i hi hp r hr
      have e1 : wrap64 ((i : Int) + 1) = ((i + 1 : Nat) : Int) := by rw [w64 (by omega) (by omega)]; omega
      have hp' : (a == (rd_T31 c (i : Int)).f0 && (p == (rd_T31 c (i : Int)).f1 && (q == (rd_T31 c (i : Int)).f2))) = false := by
        rw [Bool.beq_comm (a := a), Bool.beq_comm (a := p), Bool.beq_comm (a := q)]
        exact hp
      refine Ev.round (fun _ => by rw [impl_Address_196.l0]) ?_
      refine Ev.pos (by omega) ?_
      refine Ev.pos (by omega) ?_
      refine Ev.pos (by omega) ?_
      refine Ev.neg (ne_true_of_eq_false hp') ?_
      simp only [e1]
      exact hr
  obtain ⟨r, hr, hd⟩ := hx
  rw [← hd]
  exact Ev.bind hr (Ev.now _)
theorem iTrail_ev (l : List S179) (t : Int) (h : l.length ≤ 1048576) (hf : ∀ y ∈ l, FitimplVersion y) : ∀ (n : Nat) (c : List S31) (r : Rsc), c.length + n = 5 → Ev (fun k => impl_FollowAt.l0 k l t c r.1 r.2.1 r.2.2.1 r.2.2.2.1 r.2.2.2.2) (pTrail l t n c r) := by
  intro n
  induction n with
  | zero =>
    intro c r hn
    refine Ev.round (fun _ => by rw [impl_FollowAt.l0]) ?_
    by_cases c1 : r.1 = 3
    · exact Ev.pos c1 (Ev.neg (by omega) (Ev.now _))
    · exact Ev.neg c1 (Ev.now _)
  | succ n ih =>
    intro c r hn
    unfold pTrail
    refine Ev.round (fun _ => by rw [impl_FollowAt.l0]) ?_
    by_cases c1 : r.1 = 3
    · refine Ev.pos c1 ?_
      refine Ev.pos (by omega) ?_
      refine Ev.bind (iHas_ev c r.2.2.1 r.2.2.2.1 r.2.2.2.2 (by omega)) ?_
      cases c2 : pHasA c r.2.2.1 r.2.2.2.1 r.2.2.2.2 with
      | true =>
        rw [if_neg (by simp)]
        exact Ev.pos rfl (Ev.now _)
      | false =>
        rw [if_pos ⟨c1, rfl⟩]
        refine Ev.neg (by simp) ?_
        refine Ev.pos (by omega) ?_
        refine Ev.bind (iAnswer_ev l _ _ _ t h hf) ?_
        exact ih _ _ (by simp only [List.length_append, List.length_singleton]; omega)
    · rw [if_neg (fun z => c1 z.1)]
      exact Ev.neg c1 (Ev.now _)
theorem iFollow_ev (l : List S179) (a p q t : Int) (h : l.length ≤ 1048576) (hf : ∀ y ∈ l, FitimplVersion y) : Ev (fun k => impl_FollowAt.f k l a p q t) (pFollow l a p q t) := by
  unfold impl_FollowAt.f pFollow
  exact Ev.bind (iAnswer_ev l a p q t h hf) (iTrail_ev l t h hf 4 _ _ rfl)
theorem iEqualInts_ev (a b : List Int) (h : a.length ≤ 1048576) : Ev (fun k => slices_Equal_int_int.f k a b) (decide (a = b)) := by
  unfold slices_Equal_int_int.f
  by_cases hl : a.length = b.length
  · refine Ev.pos (by omega) ?_
    rw [← zip_all_eq a b hl]
    refine ev_all2 (fun k i => slices_Equal_int_int.l0 k a b (a.length : Int) i) a b 0 (fun x y => decide (x = y)) hl (fun k => by rw [slices_Equal_int_int.l0, if_neg (by omega)]) ?_ ?_
    · intro i hi hp r hr
      have e1 : wrap64 ((i : Int) + 1) = ((i + 1 : Nat) : Int) := by rw [w64 (by omega) (by omega)]; omega
      refine Ev.round (fun _ => by rw [slices_Equal_int_int.l0]) ?_
      refine Ev.pos (by omega) ?_
      refine Ev.pos (by omega) ?_
      refine Ev.pos (by omega) ?_
      refine Ev.pos (by omega) ?_
      refine Ev.pos ?_ ?_
      · rw [rd_nat, rd_nat]; exact of_decide_eq_true hp
      · simp only [e1]; exact hr
    · intro i hi hp
      refine Ev.round (fun _ => by rw [slices_Equal_int_int.l0]) ?_
      refine Ev.pos (by omega) ?_
      refine Ev.pos (by omega) ?_
      refine Ev.pos (by omega) ?_
      refine Ev.pos (by omega) ?_
      refine Ev.neg ?_ (Ev.now _)
      rw [rd_nat, rd_nat]; exact of_decide_eq_false hp
  · have hne : a ≠ b := fun e => hl (by rw [e])
    rw [decide_eq_false hne]
    exact Ev.neg (by omega) (Ev.now _)
theorem iEqualResources_ev (k : Int) (b : List Int) (h p q : Int) (k' : Int) (b' : List Int) (h' p' q' : Int) (hb : b.length ≤ 1048576) : Ev (fun n => impl_EqualResources.f n k b h p q k' b' h' p' q') (pEqRes k b h p q k' b' h' p' q') := by
  unfold impl_EqualResources.f pEqRes
  exact Ev.if_and fun _ => Ev.ifb_and fun _ => Ev.id (iEqualInts_ev b b' hb)
theorem iCouldBe_ev (s : List S179) (x : List S93) (a : Int) (h : s.length ≤ 1048576) (hf : ∀ y ∈ s, FitimplVersion y) : Ev (fun k => impl_CouldBe.f k s x a) (pCould s x a) := by
  unfold impl_CouldBe.f pCould
  refine Ev.bind (iCaptures_ev a) ?_
  have hl := pCaptures_length a
  have hp := pCaptures_pos a
  have hs := pCaptures_asc a
  generalize pCaptures a = cs at hl hp hs
  by_cases h0 : (cs.length : Int) = 0
  · refine Ev.pos h0 ?_
    refine Ev.cast (Ev.now _) ?_
    have h2 : cs = [] := List.eq_nil_of_length_eq_zero (by omega)
    subst h2
    symm
    rw [Bool.and_eq_true]
    refine ⟨rfl, List.any_eq_true.2 ⟨0, (pTimes_mem s 0).2 (Or.inl rfl), rfl⟩⟩
  · have e1 : wrap64 ((cs.length : Int) - 1) = ((cs.length - 1 : Nat) : Int) := by rw [w64 (by omega) (by omega)]; omega
    refine Ev.neg h0 ?_
    simp only [e1, rd_nat]
    refine Ev.pos (by omega) ?_
    refine Ev.pos (by omega) ?_
    have hd := asc_all cs hs (by omega) (x.length : Int)
    cases hh : pHas x cs with
    | false =>
      have h2 : ¬ cs.getD (cs.length - 1) 0 < (x.length : Int) := by
        intro c
        rw [decide_eq_true c] at hd
        rw [pHas, hd] at hh
        simp at hh
      exact Ev.pos (by omega) (Ev.now _)
    | true =>
      have h2 : cs.getD (cs.length - 1) 0 < (x.length : Int) := by
        rw [pHas, hd] at hh
        exact of_decide_eq_true hh
      have hin : ∀ c ∈ cs, c < (x.length : Int) := by simpa [pHas] using hh
      refine Ev.neg (by omega) ?_
      rw [Bool.true_and, times_any]
      have one : ∀ (n : Nat), n < 1001 → ∀ (d j : Nat), j + d = cs.length → ∀ r : Bool, (if ((cs.drop j).all (pSits s x (n : Int))) = true then r = true else Ev (fun k => impl_CouldBe.l0 k s x cs (wrap64 ((n : Int) + 1))) r) → Ev (fun k => impl_CouldBe.l1 k s x cs (n : Int) true (n : Int) cs (cs.length : Int) (j : Int)) r := by
        clear e1 h2 hd hh h0 hs
        intro n hn d
        induction d with
        | zero =>
          intro j hj r hr
          refine Ev.round (fun _ => by rw [impl_CouldBe.l1]) ?_
          refine Ev.neg (by omega) ?_
          rw [List.drop_eq_nil_of_le (by omega)] at hr
          have hr2 : r = true := by simpa using hr
          subst hr2
          exact Ev.pos rfl (Ev.now _)
        | succ d ih =>
          intro j hj r hr
          have hm := getD_mem cs j (by omega) 0
          have h1 := hin _ hm
          have h2 := hp _ hm
          have e1 : wrap64 ((j : Int) + 1) = ((j + 1 : Nat) : Int) := by rw [w64 (by omega) (by omega)]; omega
          have e2 : rd cs (j : Int) = cs.getD j 0 := rd_nat _ _
          rw [drop_cons cs j (by omega) 0, List.all_cons] at hr
          refine Ev.round (fun _ => by rw [impl_CouldBe.l1]) ?_
          refine Ev.pos (by omega) ?_
          refine Ev.pos (Int.natCast_nonneg j) ?_
          refine Ev.pos (by omega) ?_
          simp only [e1, e2]
          generalize cs.getD j 0 = c at h1 h2 hr
          refine Ev.pos (by omega) ?_
          refine Ev.pos h1 ?_
          refine Ev.bind (iFollow_ev s _ _ _ (n : Int) h hf) ?_
          refine Ev.bind (iEqualResources_ev _ _ _ _ _ _ _ _ _ _ (pFollow_fit s _ _ _ (n : Int) hf)) ?_
          cases hc : pSits s x (n : Int) c with
          | true =>
            rw [hc, Bool.true_and] at hr
            exact Ev.pos hc (ih (j + 1) (by omega) r hr)
          | false =>
            rw [hc, Bool.false_and, if_neg (by simp)] at hr
            exact Ev.neg (ne_true_of_eq_false hc) hr
      have hlen : (List.range 1001).length = 1001 := List.length_range
      have hget : ∀ i, i < 1001 → (List.range 1001).getD i 0 = i := by
        intro i hi
        rw [getD_in _ _ (by rw [hlen]; exact hi), List.getElem_range]
      generalize List.range 1001 = R at hlen hget ⊢
      refine ev_any (fun k i => impl_CouldBe.l0 k s x cs i) R 0 (fun n : Nat => pAllSit s x cs (n : Int)) (fun k => by rw [impl_CouldBe.l0, if_neg (by rw [hlen]; omega)]) ?_ ?_
      · intro i hi hp'
        rw [hlen] at hi
        rw [hget i hi] at hp'
        refine Ev.round (fun _ => by rw [impl_CouldBe.l0]) ?_
        refine Ev.pos (by omega) ?_
        refine one i hi cs.length 0 (by omega) true ?_
        have hp2 : (cs.drop 0).all (pSits s x (i : Int)) = true := hp'
        rw [if_pos hp2]
      · intro i hi hp' r hr
        rw [hlen] at hi
        have e1 : wrap64 ((i : Int) + 1) = ((i + 1 : Nat) : Int) := by rw [w64 (by omega) (by omega)]; omega
        rw [hget i hi] at hp'
        refine Ev.round (fun _ => by rw [impl_CouldBe.l0]) ?_
        refine Ev.pos (by omega) ?_
        refine one i hi cs.length 0 (by omega) r ?_
        have hp2 : (cs.drop 0).all (pSits s x (i : Int)) = false := hp'
        rw [if_neg (by rw [hp2]; simp), e1]
        exact hr
theorem FnExactCouldBe (l0 : List S175) (l1 : List S131) (a2 : Int) (h0 : (l0.length ≤ maxLen ∧ ∀ e_ ∈ l0, W175 e_)) (h1 : (l1.length ≤ maxLen ∧ ∀ e_ ∈ l1, W131 e_)) (h2 : (Lit.int .i64 a2).wf = true) : ∃ k, laws_FnExactCouldBe.f k l0 l1 a2 = some true := by
  obtain ⟨r, e, b, g⟩ := szVersionS_some l0 1048576 ⟨h0.1, fun y hy => (h0.2 y hy).2.2.2.1.1⟩ (by omega) (by omega)
  refine Ev.rounds ?_
  unfold laws_FnExactCouldBe.f
  refine Ev.bind e ?_
  by_cases c : r < 0
  · exact Ev.pos c (Ev.now _)
  obtain ⟨hl, hy⟩ := g (by omega)
  have hm : (l0.map cvVersion).length ≤ 1048576 := by simpa using hl
  have hf : ∀ y ∈ l0.map cvVersion, FitimplVersion y := by
    intro y h
    obtain ⟨z, hz, rfl⟩ := List.mem_map.1 h
    exact hy z hz
  obtain ⟨r2, e2, b2, g2⟩ := szCaptureS_some l1 r ⟨h1.1, fun y hy => (h1.2 y hy).2.2.2.1.1⟩ (by omega) (by omega)
  refine Ev.neg c ?_
  refine Ev.bind e2 ?_
  by_cases c2 : r2 < 0
  · exact Ev.pos c2 (Ev.now _)
  obtain ⟨hl2, hy2⟩ := g2 (by omega)
  have hm2 : (l1.map cvCapture).length ≤ 1048576 := by simpa using hl2
  have hf2 : ∀ y ∈ l1.map cvCapture, FitimplCapture y := by
    intro y h
    obtain ⟨z, hz, rfl⟩ := List.mem_map.1 h
    exact hy2 z hz
  have t := toVersionS_ev l0 hl hy
  have t2 := toCaptureS_ev l1 hl2 hy2
  refine Ev.neg c2 ?_
  refine Ev.bind t ?_
  refine Ev.bind t2 ?_
  refine Ev.bind (sCouldBe_ev _ _ _ hm hf) ?_
  refine Ev.bind t ?_
  refine Ev.bind t2 ?_
  refine Ev.bind (iCouldBe_ev _ _ _ hm hf) ?_
  refine Ev.neg (by simp) ?_
  refine Ev.bind t ?_
  refine Ev.bind (eqVersionS_refl _ hm hf) ?_
  refine Ev.pos rfl ?_
  refine Ev.bind t2 ?_
  refine Ev.bind (eqCaptureS_refl _ hm2 hf2) ?_
  refine Ev.pos rfl ?_
  exact Ev.now _
end Go.Proofs.Ytegaambhmpoakaa.Pure
