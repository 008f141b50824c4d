/- The program's MixedNodes and the reference's return the same indices: those of the labels that are mixed; what is returned is new memory with each call. No condition. -/
import Derived.Test.YtegaambhmpoakaaStdFnExactMixedNodes
namespace Go.Proofs.Ytegaambhmpoakaa.Pure
open Go.RowKit Go.Proofs.Ytegaambhmpoakaa.MFnExactMixedNodes Go.Proofs.YtegaambhmpoakaaW.PrintWords Go.Proofs.YtegaambhmpoakaaW.PrintLast Go.Proofs.YtegaambhmpoakaaW.PrintMore Go.Proofs.Ytegaambhmpoakaa.Gen
set_option linter.unusedVariables false
set_option linter.unusedSimpArgs false

def W24 (y : S24) : Prop := (Lit.int .i64 y.f0).wf = true ∧ (Lit.int .i64 y.f1).wf = true ∧ (Lit.int .i64 y.f2).wf = true
def W129 (y : S129) : Prop := (Lit.int .i64 y.f0).wf = true ∧ (y.f1.length ≤ maxLen ∧ ∀ e_ ∈ y.f1, (Lit.int .i64 e_).wf = true) ∧ W24 y.f2
def W131 (y : S131) : Prop := W24 y.f0 ∧ (Lit.int .i64 y.f1).wf = true ∧ W129 y.f2
def W209 (y : S209) : Prop := (Lit.int .i64 y.f0).wf = true ∧ (Lit.int .i64 y.f1).wf = true
theorem l1In_eq (a b c : Int) : spec_l1In.f a b c = some (decide (b ≤ a) && decide (a ≤ c)) := by
  unfold spec_l1In.f
  by_cases h : b ≤ a <;> simp [h]
theorem sCapturesIn_ev (n : Nat) (hn : n ≤ 1048575) : Ev (fun k => spec_CapturesIn.f k (n : Int)) (caps n 20) := by
  unfold spec_CapturesIn.f
  refine Ev.now_bind rfl ?_
  refine Ev.now_bind (l1In_eq _ _ _) ?_
  refine Ev.pos (by simp; omega) ?_
  have main := ev_down (fun k i => spec_CapturesIn.l0 k ((n / 2 ^ i : Nat) : Int) (caps n i) (i : Int)) 20 (fun _ => caps n 20)
    (Ev.round (fun _ => by rw [spec_CapturesIn.l0]) (Ev.neg (by omega) (Ev.now _)))
    (fun i hi h => ?_)
  · simpa [caps] using main
  have hlen := caps_length n i
  have hdiv : n / 2 ^ i ≤ n := Nat.div_le_self _ _
  have e2 : wrap64 (Int.tdiv ((n / 2 ^ i : Nat) : Int) 2) = ((n / 2 ^ (i + 1) : Nat) : Int) := by
    rw [half_nat _ (by omega), Nat.pow_succ, ← Nat.div_div_eq_div_mul]
  have e3 : Int.tmod ((n / 2 ^ i : Nat) : Int) 2 = ((n / 2 ^ i % 2 : Nat) : Int) := odd_nat _
  have e1 : wrap64 ((i : Int) + 1) = ((i + 1 : Nat) : Int) := by rw [w64 (by omega) (by omega)]; omega
  rw [caps_succ] at h
  refine Ev.round (fun _ => by rw [spec_CapturesIn.l0]) ?_
  refine Ev.pos (by omega) ?_
  by_cases hb : n / 2 ^ i % 2 = 1
  · rw [if_pos hb] at h
    refine Ev.pos (by rw [e3]; omega) ?_
    refine Ev.pos (by omega) ?_
    simp only [e1, e2]
    exact h
  · rw [if_neg hb] at h
    refine Ev.neg (by rw [e3]; omega) ?_
    simp only [e1, e2]
    exact h
theorem sCapturesIn_no (a : Int) (h : ¬ (0 ≤ a ∧ a ≤ 1048575)) : Ev (fun k => spec_CapturesIn.f k a) [] := by
  unfold spec_CapturesIn.f
  refine Ev.now_bind rfl ?_
  refine Ev.now_bind (l1In_eq _ _ _) ?_
  refine Ev.neg (by simp; omega) ?_
  exact Ev.now _
/-- The indices in a label; none of a number that is no label. -/
def pCaptures (a : Int) : List Int := if 0 ≤ a ∧ a ≤ 1048575 then caps a.toNat 20 else []
theorem pCaptures_length (a : Int) : (pCaptures a).length ≤ 20 := by
  unfold pCaptures
  split
  · exact caps_length _ _
  · simp
theorem sCaptures_ev (a : Int) : Ev (fun k => spec_CapturesIn.f k a) (pCaptures a) := by
  unfold pCaptures
  by_cases h : 0 ≤ a ∧ a ≤ 1048575
  · obtain ⟨n, rfl⟩ := Int.eq_ofNat_of_zero_le h.1
    rw [if_pos h]
    exact sCapturesIn_ev n (by omega)
  · rw [if_neg h]
    exact sCapturesIn_no a h
theorem caps_asc (n m : Nat) : (caps n m).Pairwise (· < ·) := by
  induction m with
  | zero => simp [caps]
  | succ m ih =>
    rw [caps_succ]
    split
    · refine List.pairwise_append.2 ⟨ih, List.pairwise_singleton _ _, ?_⟩
      intro x hx y hy
      obtain ⟨i, hi, _, rfl⟩ := (caps_mem n m x).1 hx
      simp only [List.mem_singleton] at hy
      omega
    · exact ih
theorem pCaptures_asc (a : Int) : (pCaptures a).Pairwise (· < ·) := by
  unfold pCaptures
  split
  · exact caps_asc _ _
  · exact List.Pairwise.nil
theorem pCaptures_pos (a x : Int) (h : x ∈ pCaptures a) : 0 ≤ x ∧ x < 20 := by
  unfold pCaptures at h
  split at h
  · obtain ⟨i, hi, _, rfl⟩ := (caps_mem _ _ x).1 h
    omega
  · simp at h
theorem asc_all (cs : List Int) (hs : cs.Pairwise (· < ·)) (h : cs.length ≠ 0) (n : Int) : (cs.all fun c => decide (c < n)) = decide (cs.getD (cs.length - 1) 0 < n) := by
  rw [Bool.eq_iff_iff]
  simp only [List.all_eq_true, decide_eq_true_eq]
  have hlast : cs.getD (cs.length - 1) 0 = cs[cs.length - 1]'(by omega) := getD_in _ _ (by omega) 0
  constructor
  · intro ha
    exact ha _ (getD_mem cs _ (by omega) 0)
  · intro hl x hx
    obtain ⟨i, hi, rfl⟩ := List.mem_iff_getElem.1 hx
    by_cases e : i = cs.length - 1
    · subst e
      omega
    · have := List.pairwise_iff_getElem.1 hs i (cs.length - 1) hi (by omega) (by omega)
      omega
def spanStep (l : List S93) (p : Int × Int) (c : Int) : Int × Int := (mn p.1 (rd_T93 l c).f1, mx p.2 (rd_T93 l c).f1)
/-- All the indices name captures. -/
def pHas (l : List S93) (cs : List Int) : Bool := cs.all fun c => decide (c < (l.length : Int))
def pSpanAll (l : List S93) : List Int → Int × Int
  | [] => (-1, -1)
  | c :: t => t.foldl (spanStep l) ((rd_T93 l c).f1, (rd_T93 l c).f1)
def pSpan (l : List S93) (cs : List Int) : Int × Int := if pHas l cs = true then pSpanAll l cs else (-1, -1)
theorem sAll_ev (l : List S93) (a : Int) : Ev (fun k => spec_l18All.f k l a) (pCaptures a, pHas l (pCaptures a)) := by
  unfold spec_l18All.f
  refine Ev.bind (sCaptures_ev a) ?_
  have hl := pCaptures_length a
  have hs := pCaptures_asc a
  generalize pCaptures a = cs at hl hs
  by_cases h : (cs.length : Int) = 0
  · refine Ev.pos h ?_
    have h2 : cs = [] := List.eq_nil_of_length_eq_zero (by omega)
    subst h2
    exact Ev.now _
  · have e1 : wrap64 ((cs.length : Int) - 1) = ((cs.length - 1 : Nat) : Int) := by rw [w64 (by omega) (by omega)]; omega
    refine Ev.neg h ?_
    simp only [e1, rd_nat]
    refine Ev.pos (by omega) ?_
    refine Ev.pos (by omega) ?_
    unfold pHas
    rw [asc_all cs hs (by omega)]
    exact Ev.now _
theorem sMin_eq (a b : Int) : spec_Min.f a b = some (mn a b) := by
  unfold spec_Min.f mn
  split <;> rfl
theorem sMax_eq (a b : Int) : spec_Max.f a b = some (mx a b) := by
  unfold spec_Max.f mx
  by_cases h : a < b
  · rw [if_pos h, if_pos h]
  · rw [if_neg h, if_neg h]
theorem sSpanOf_ev (l : List S93) (a : Int) : Ev (fun k => spec_SpanOf.f k l a) (pSpan l (pCaptures a)) := by
  unfold spec_SpanOf.f
  refine Ev.bind (sAll_ev l a) ?_
  have hl := pCaptures_length a
  have hp := pCaptures_pos a
  generalize pCaptures a = cs at hl hp
  unfold pSpan
  cases hh : pHas l cs with
  | false =>
    refine Ev.neg (by simp) ?_
    rw [if_neg (by simp)]
    exact Ev.round (fun _ => by rw [spec_SpanOf.j0]) (Ev.pos rfl (Ev.now _))
  | true =>
    refine Ev.pos rfl ?_
    rw [if_pos rfl]
    have hin : ∀ c ∈ cs, c < (l.length : Int) := by simpa [pHas] using hh
    refine Ev.round (fun _ => by rw [spec_SpanOf.j0]) ?_
    cases cs with
    | nil => exact Ev.pos (by simp) (Ev.now _)
    | cons c t =>
      have e0 : rd (c :: t) 0 = c := rfl
      have hc := hin c (by simp)
      have hc0 := hp c (by simp)
      simp only [List.length_cons] at hl
      refine Ev.neg (by simp; omega) ?_
      refine Ev.pos (by simp only [List.length_cons]; omega) ?_
      simp only [e0]
      refine Ev.pos (by omega) ?_
      refine Ev.pos hc ?_
      refine ev_foldl (fun k x i => spec_SpanOf.l0 k l (c :: t) x.1 x.2 (i + 1)) t 0 (spanStep l) (fun x => x) (fun _ _ => True) ((rd_T93 l c).f1, (rd_T93 l c).f1) trivial ?_ ?_
      · intro x _
        refine Ev.round (fun _ => by rw [spec_SpanOf.l0]) ?_
        refine Ev.neg (by simp only [List.length_cons]; omega) ?_
        exact Ev.now _
      · intro i x hi _
        refine ⟨trivial, fun r hr => ?_⟩
        have e1 : wrap64 ((i : Int) + 1 + 1) = ((i + 1 : Nat) : Int) + 1 := by rw [w64 (by omega) (by omega)]; omega
        have e2 : rd (c :: t) ((i : Int) + 1) = t.getD i 0 := by
          rw [show (i : Int) + 1 = ((i + 1 : Nat) : Int) by omega, rd_nat]
          rfl
        have hm := getD_mem t i hi 0
        have h1 := hin _ (List.mem_cons_of_mem c hm)
        have h2 := hp _ (List.mem_cons_of_mem c hm)
        refine Ev.round (fun _ => by rw [spec_SpanOf.l0]) ?_
        refine Ev.pos (by simp only [List.length_cons]; omega) ?_
        refine Ev.pos (by omega) ?_
        simp only [e1, e2]
        refine Ev.pos (by omega) ?_
        refine Ev.pos h1 ?_
        refine Ev.now_bind (sMin_eq _ _) ?_
        exact Ev.now_bind (sMax_eq _ _) hr
/-- The span is one of two ticks, the first not above the second. -/
theorem span_wf (l : List S93) (hw : ∀ y ∈ l, (Lit.int .i64 y.f1).wf = true) (cs : List Int) (hc : ∀ c ∈ cs, 0 ≤ c) : (pSpan l cs).1 ≤ (pSpan l cs).2 ∧ -9223372036854775808 ≤ (pSpan l cs).1 ∧ (pSpan l cs).2 ≤ 9223372036854775807 := by
  unfold pSpan
  split
  · rename_i hh
    have hin : ∀ c ∈ cs, c < (l.length : Int) := by simpa [pHas] using hh
    have ht : ∀ c ∈ cs, -9223372036854775808 ≤ (rd_T93 l c).f1 ∧ (rd_T93 l c).f1 ≤ 9223372036854775807 := by
      intro c h
      obtain ⟨n, rfl⟩ := Int.eq_ofNat_of_zero_le (hc c h)
      have h1 := hin _ h
      exact wf64 (hw _ (getD_mem l n (by omega) z93))
    cases cs with
    | nil => simp [pSpanAll]
    | cons c t =>
      unfold pSpanAll
      have hfold : ∀ (t : List Int) (p : Int × Int), (∀ c ∈ t, -9223372036854775808 ≤ (rd_T93 l c).f1 ∧ (rd_T93 l c).f1 ≤ 9223372036854775807) → p.1 ≤ p.2 ∧ -9223372036854775808 ≤ p.1 ∧ p.2 ≤ 9223372036854775807 → (t.foldl (spanStep l) p).1 ≤ (t.foldl (spanStep l) p).2 ∧ -9223372036854775808 ≤ (t.foldl (spanStep l) p).1 ∧ (t.foldl (spanStep l) p).2 ≤ 9223372036854775807 := by
        intro t
        induction t with
        | nil => intro p _ h; exact h
        | cons c t ih =>
          intro p hb h
          rw [List.foldl_cons]
          refine ih _ (fun c h => hb c (List.mem_cons_of_mem _ h)) ?_
          have h1 := hb c (by simp)
          unfold spanStep mn mx
          refine ⟨?_, ?_, ?_⟩ <;> split <;> (try split) <;> simp only at * <;> omega
      have h0 := ht c (by simp)
      exact hfold t _ (fun c h => ht c (List.mem_cons_of_mem _ h)) ⟨Int.le_refl _, h0.1, h0.2⟩
  · decide
def pMixed (l : List S93) (a m : Int) : Bool := pHas l (pCaptures a) && (!decide ((pCaptures a).length = 0) && (pIn m 0 2000 && decide ((pSpan l (pCaptures a)).2 - (pSpan l (pCaptures a)).1 > m)))
theorem sIsMixed_ev (l : List S93) (a m : Int) (hw : ∀ y ∈ l, (Lit.int .i64 y.f1).wf = true) : Ev (fun k => spec_IsMixed.f k l a m) (pMixed l a m) := by
  unfold spec_IsMixed.f pMixed
  refine Ev.bind (sAll_ev l a) ?_
  cases hh : pHas l (pCaptures a) with
  | false => exact Ev.neg (by simp) (Ev.now _)
  | true =>
    refine Ev.pos rfl ?_
    by_cases h0 : (pCaptures a).length = 0
    · rw [decide_eq_true h0]
      exact Ev.pos (by simp [h0]) (Ev.now _)
    · rw [decide_eq_false h0]
      refine Ev.neg (by simp; intro c; exact h0 (by simp [c])) ?_
      refine Ev.now_bind (l1In_eq _ _ _) ?_
      cases hi : pIn m 0 2000 with
      | false => exact Ev.neg (ne_true_of_eq_false hi) (Ev.now _)
      | true =>
        refine Ev.pos hi ?_
        refine Ev.bind (sSpanOf_ev l a) ?_
        obtain ⟨w1, w2, w3⟩ := span_wf l hw (pCaptures a) (fun c h => (pCaptures_pos a c h).1)
        generalize pSpan l (pCaptures a) = p at w1 w2 w3
        simp only [pIn, Bool.and_eq_true, decide_eq_true_eq] at hi
        by_cases hu : -9223372036854775808 ≤ p.2 - m
        · rw [w64 hu (by omega)]
          refine Ev.pos (by omega) ?_
          refine Ev.cast (Ev.now _) ?_
          simp only [Bool.true_and, Bool.not_false]
          apply decide_eq_decide.2
          omega
        · have e : wrap64 (p.2 - m) = p.2 - m + 18446744073709551616 := by unfold wrap64; omega
          rw [e]
          refine Ev.neg (by omega) ?_
          refine Ev.cast (Ev.now _) ?_
          simp only [Bool.true_and, Bool.not_false]
          symm
          apply decide_eq_false
          omega
def nodeStep (l : List S93) (ls : List Int) (m : Int) (out : List Int) (i : Nat) : List Int := if pMixed l (ls.getD i 0) m = true then out ++ [(i : Int)] else out
def pMixedNodes (l : List S93) (ls : List Int) (m : Int) : List Int := (List.range ls.length).foldl (nodeStep l ls m) []
theorem nodeStep_length (l : List S93) (ls : List Int) (m : Int) (out : List Int) (i : Nat) (h : out.length ≤ i) : (nodeStep l ls m out i).length ≤ i + 1 := by
  unfold nodeStep
  split
  · rw [List.length_append, List.length_singleton]
    omega
  · omega
theorem pMixedNodes_length (l : List S93) (ls : List Int) (m : Int) : (pMixedNodes l ls m).length ≤ ls.length := by
  have key : ∀ n : Nat, ((List.range n).foldl (nodeStep l ls m) []).length ≤ n := by
    intro n
    induction n with
    | zero => exact Nat.le_refl _
    | succ n ih =>
      rw [List.range_succ, List.foldl_append]
      exact nodeStep_length l ls m _ n ih
  exact key ls.length
theorem range_at (n i : Nat) (h : i < n) : (List.range n).getD i 0 = i := by
  rw [getD_in _ _ (by simpa using h), List.getElem_range]
theorem sMixedNodes_ev (l : List S93) (a0 : Int) (l1 l2 l3 : List Int) (l4 : List S27) (ls : List Int) (a6 m : Int) (hw : ∀ y ∈ l, (Lit.int .i64 y.f1).wf = true) (h : ls.length ≤ 1048576) : Ev (fun k => spec_MixedNodes.f k l a0 l1 l2 l3 l4 ls a6 m) (pMixedNodes l ls m) := by
  unfold spec_MixedNodes.f pMixedNodes
  refine ev_foldl (fun k x i => spec_MixedNodes.l0 k l m x i a0 l1 l2 l3 l4 ls a6) (List.range ls.length) 0 (nodeStep l ls m) (fun x => x) (fun i x => x.length ≤ i) [] (by simp) ?_ ?_
  · intro x hx
    simp only [List.length_range] at hx ⊢
    refine Ev.round (fun _ => by rw [spec_MixedNodes.l0]) ?_
    exact Ev.neg (by omega) (Ev.now _)
  · intro i x hi hx
    rw [List.length_range] at hi
    rw [range_at _ _ hi]
    have e1 : wrap64 ((i : Int) + 1) = ((i + 1 : Nat) : Int) := by rw [w64 (by omega) (by omega)]; omega
    refine ⟨nodeStep_length l ls m x i hx, fun r hr => ?_⟩
    refine Ev.round (fun _ => by rw [spec_MixedNodes.l0]) ?_
    refine Ev.pos (by omega) ?_
    refine Ev.pos (by omega) ?_
    simp only [e1, rd_nat]
    unfold nodeStep at hr
    refine Ev.bind (sIsMixed_ev l (ls.getD i 0) m hw) ?_
    cases hp : pMixed l (ls.getD i 0) m with
    | true =>
      rw [hp, if_pos rfl] at hr
      exact Ev.pos rfl (Ev.pos (by omega) hr)
    | false =>
      rw [hp, if_neg (by simp)] at hr
      exact Ev.neg (by simp) hr
theorem InRange_eq (a b c : Int) : impl_InRange.f a b c = some (decide (b ≤ a) && decide (a ≤ c)) := by
  unfold impl_InRange.f
  by_cases h : b ≤ a <;> simp [h]
theorem iCapturesIn_ev (n : Nat) (hn : n ≤ 1048575) : Ev (fun k => impl_CapturesIn.f k (n : Int)) (caps n 20) := by
  unfold impl_CapturesIn.f
  refine Ev.now_bind (InRange_eq _ _ _) ?_
  refine Ev.pos (by simp; omega) ?_
  have main := ev_down (fun k i => impl_CapturesIn.l0 k (n : Int) (caps n i) (i : Int)) 20 (fun _ => caps n 20)
    (Ev.round (fun _ => by rw [impl_CapturesIn.l0]) (Ev.neg (by omega) (Ev.now _)))
    (fun i hi h => ?_)
  · simpa [caps] using main
  have hlen := caps_length n i
  have hdiv : n / 2 ^ i ≤ n := Nat.div_le_self _ _
  have e3 : Go.bits .and .i64 (shr .i64 (n : Int) (i : Int)) 1 = ((n / 2 ^ i % 2 : Nat) : Int) := by
    rw [shr_nat _ _ (by omega), bit_nat _ (by omega)]
  have e1 : wrap64 ((i : Int) + 1) = ((i + 1 : Nat) : Int) := by rw [w64 (by omega) (by omega)]; omega
  rw [caps_succ] at h
  refine Ev.round (fun _ => by rw [impl_CapturesIn.l0]) ?_
  refine Ev.pos (by omega) ?_
  refine Ev.pos (by omega) ?_
  by_cases hb : n / 2 ^ i % 2 = 1
  · rw [if_pos hb] at h
    refine Ev.pos (by rw [e3]; omega) ?_
    refine Ev.pos (by omega) ?_
    simp only [e1]
    exact h
  · rw [if_neg hb] at h
    refine Ev.neg (by rw [e3]; omega) ?_
    simp only [e1]
    exact h
theorem iCapturesIn_no (a : Int) (h : ¬ (0 ≤ a ∧ a ≤ 1048575)) : Ev (fun k => impl_CapturesIn.f k a) [] := by
  unfold impl_CapturesIn.f
  refine Ev.now_bind (InRange_eq _ _ _) ?_
  refine Ev.neg (by simp; omega) ?_
  exact Ev.now _
theorem iCaptures_ev (a : Int) : Ev (fun k => impl_CapturesIn.f k a) (pCaptures a) := by
  unfold pCaptures
  by_cases h : 0 ≤ a ∧ a ≤ 1048575
  · obtain ⟨n, rfl⟩ := Int.eq_ofNat_of_zero_le h.1
    rw [if_pos h]
    exact iCapturesIn_ev n (by omega)
  · rw [if_neg h]
    exact iCapturesIn_no a h
theorem iSpanOf_ev (l : List S93) (a : Int) : Ev (fun k => impl_SpanOf.f k l a) (pSpan l (pCaptures a)) := by
  unfold impl_SpanOf.f
  refine Ev.bind (iCaptures_ev a) ?_
  have hl := pCaptures_length a
  have hp := pCaptures_pos a
  generalize pCaptures a = cs at hl hp
  have key : ∀ (d i : Nat) (x : Int × Int), i + d = cs.length → 1 ≤ i → Ev (fun k => impl_SpanOf.l0 k l x.1 x.2 cs (cs.length : Int) (i : Int)) (if pHas l (cs.drop i) = true then (cs.drop i).foldl (spanStep l) x else (-1, -1)) := by
    intro d
    induction d with
    | zero =>
      intro i x hi h1
      rw [List.drop_eq_nil_of_le (by omega)]
      rw [if_pos (show pHas l [] = true from rfl)]
      refine Ev.round (fun _ => by rw [impl_SpanOf.l0]) ?_
      exact Ev.neg (by omega) (Ev.now _)
    | succ d ih =>
      intro i x hi h1
      have hm := getD_mem cs i (by omega) 0
      have h2 := hp _ hm
      have e1 : wrap64 ((i : Int) + 1) = ((i + 1 : Nat) : Int) := by rw [w64 (by omega) (by omega)]; omega
      have e2 : rd cs (i : Int) = cs.getD i 0 := rd_nat _ _
      rw [drop_cons cs i (by omega) 0]
      refine Ev.round (fun _ => by rw [impl_SpanOf.l0]) ?_
      refine Ev.pos (by omega) ?_
      refine Ev.pos (by omega) ?_
      refine Ev.pos (by omega) ?_
      simp only [e1, e2]
      generalize cs.getD i 0 = c at h2
      by_cases hc : c < (l.length : Int)
      · refine Ev.neg (by omega) ?_
        refine Ev.pos (by omega) ?_
        refine Ev.pos hc ?_
        refine Ev.neg (by omega) ?_
        have he : pHas l (c :: cs.drop (i + 1)) = pHas l (cs.drop (i + 1)) := by simp [pHas, hc]
        rw [he]
        exact ih (i + 1) (spanStep l x c) (by omega) (by omega)
      · refine Ev.pos (by omega) ?_
        rw [if_neg (by simp [pHas, hc])]
        exact Ev.now _
  cases cs with
  | nil =>
    refine Ev.round (fun _ => by rw [impl_SpanOf.l0]) ?_
    exact Ev.neg (by simp) (Ev.now _)
  | cons c t =>
    have e0 : rd (c :: t) 0 = c := rfl
    have hc0 := hp c (by simp)
    have e1 : wrap64 ((0 : Int) + 1) = ((1 : Nat) : Int) := by rw [w64 (by omega) (by omega)]; rfl
    refine Ev.round (fun _ => by rw [impl_SpanOf.l0]) ?_
    refine Ev.pos (by simp only [List.length_cons]; omega) ?_
    refine Ev.pos (by omega) ?_
    refine Ev.pos (by simp only [List.length_cons]; omega) ?_
    simp only [e1, e0]
    unfold pSpan
    by_cases hc : c < (l.length : Int)
    · refine Ev.neg (by omega) ?_
      refine Ev.pos (by omega) ?_
      refine Ev.pos hc ?_
      refine Ev.pos (by simp) ?_
      have he : pHas l (c :: t) = pHas l t := by simp [pHas, hc]
      rw [he]
      have h := key t.length 1 ((rd_T93 l c).f1, (rd_T93 l c).f1) (by simp only [List.length_cons]; omega) (by omega)
      have e3 : mn (rd_T93 l c).f1 (rd_T93 l c).f1 = (rd_T93 l c).f1 := by unfold mn; split <;> rfl
      have e4 : mx (rd_T93 l c).f1 (rd_T93 l c).f1 = (rd_T93 l c).f1 := by unfold mx; split <;> rfl
      rw [e3, e4]
      exact h
    · refine Ev.pos (by omega) ?_
      rw [if_neg (by simp [pHas, hc])]
      exact Ev.now _
theorem iIsMixed_ev (l : List S93) (a m : Int) (hw : ∀ y ∈ l, (Lit.int .i64 y.f1).wf = true) : Ev (fun k => impl_IsMixed.f k l a m) (pMixed l a m) := by
  unfold impl_IsMixed.f pMixed
  refine Ev.bind (iCaptures_ev a) ?_
  refine Ev.now_bind (InRange_eq _ _ _) ?_
  cases hi : pIn m 0 2000 with
  | false => exact Ev.neg (ne_true_of_eq_false hi) (Ev.cast (Ev.now _) (by simp))
  | true =>
    refine Ev.pos hi ?_
    by_cases h0 : (pCaptures a).length = 0
    · refine Ev.pos (by simp [h0]) ?_
      exact Ev.cast (Ev.now _) (by simp [h0])
    · have hl := pCaptures_length a
      have e1 : wrap64 (((pCaptures a).length : Int) - 1) = (((pCaptures a).length - 1 : Nat) : Int) := by rw [w64 (by omega) (by omega)]; omega
      refine Ev.neg (by omega) ?_
      simp only [e1, rd_nat]
      refine Ev.pos (by omega) ?_
      refine Ev.pos (by omega) ?_
      have hd := asc_all (pCaptures a) (pCaptures_asc a) h0 (l.length : Int)
      cases hh : pHas l (pCaptures a) with
      | false =>
        have h2 : ¬ (pCaptures a).getD ((pCaptures a).length - 1) 0 < (l.length : Int) := by
          intro c
          rw [decide_eq_true c] at hd
          rw [pHas, hd] at hh
          simp at hh
        exact Ev.pos (by omega) (Ev.now _)
      | true =>
        have h2 : (pCaptures a).getD ((pCaptures a).length - 1) 0 < (l.length : Int) := by
          rw [pHas, hd] at hh
          exact of_decide_eq_true hh
        refine Ev.neg (by omega) ?_
        refine Ev.bind (iSpanOf_ev l a) ?_
        refine Ev.cast (Ev.now _) ?_
        obtain ⟨w1, w2, w3⟩ := span_wf l hw (pCaptures a) (fun c h => (pCaptures_pos a c h).1)
        generalize pSpan l (pCaptures a) = p at w1 w2 w3
        simp only [pIn, Bool.and_eq_true, decide_eq_true_eq] at hi
        rw [decide_eq_false h0]
        simp only [Bool.true_and, Bool.not_false]
        have hu : ∀ n : Int, IntKind.u64.wrap n = n % 18446744073709551616 := fun n => rfl
        rw [hu, hu, hu, hu]
        apply decide_eq_decide.2
        omega
theorem iMixedNodes_ev (l : List S93) (a0 : Int) (l1 l2 l3 : List Int) (l4 : List S27) (ls : List Int) (a6 m : Int) (hw : ∀ y ∈ l, (Lit.int .i64 y.f1).wf = true) (h : ls.length ≤ 1048576) : Ev (fun k => impl_MixedNodes.f k l a0 l1 l2 l3 l4 ls a6 m) (pMixedNodes l ls m) := by
  unfold impl_MixedNodes.f pMixedNodes
  refine ev_foldl (fun k x i => impl_MixedNodes.l0 k l m x ls (ls.length : Int) i) (List.range ls.length) 0 (nodeStep l ls m) (fun x => x) (fun i x => x.length ≤ i) [] (by simp) ?_ ?_
  · intro x hx
    simp only [List.length_range] at hx ⊢
    refine Ev.round (fun _ => by rw [impl_MixedNodes.l0]) ?_
    exact Ev.neg (by omega) (Ev.now _)
  · intro i x hi hx
    rw [List.length_range] at hi
    rw [range_at _ _ hi]
    have e1 : wrap64 ((i : Int) + 1) = ((i + 1 : Nat) : Int) := by rw [w64 (by omega) (by omega)]; omega
    refine ⟨nodeStep_length l ls m x i hx, fun r hr => ?_⟩
    refine Ev.round (fun _ => by rw [impl_MixedNodes.l0]) ?_
    refine Ev.pos (by omega) ?_
    refine Ev.pos (by omega) ?_
    refine Ev.pos (by omega) ?_
    simp only [e1, rd_nat]
    unfold nodeStep at hr
    refine Ev.bind (iIsMixed_ev l (ls.getD i 0) m hw) ?_
    cases hp : pMixed l (ls.getD i 0) m with
    | true =>
      rw [hp, if_pos rfl] at hr
      exact Ev.pos rfl (Ev.pos (by omega) hr)
    | false =>
      rw [hp, if_neg (by simp)] at hr
      exact Ev.neg (by simp) hr
theorem ex_round {α : Type} {g f : Nat → Option α} {Q : α → Prop} (h : ∀ k, g (k + 1) = f k) (e : ∃ r, Ev f r ∧ Q r) : ∃ r, Ev g r ∧ Q r := by
  obtain ⟨r, e, q⟩ := e
  exact ⟨r, Ev.round h e, q⟩
theorem ex_pos {α : Type} {c : Prop} [Decidable c] {f g : Nat → Option α} {Q : α → Prop} (hc : c) (e : ∃ r, Ev f r ∧ Q r) : ∃ r, Ev (fun k => if c then f k else g k) r ∧ Q r := by
  obtain ⟨r, e, q⟩ := e
  exact ⟨r, Ev.pos hc e, q⟩
theorem ex_neg {α : Type} {c : Prop} [Decidable c] {f g : Nat → Option α} {Q : α → Prop} (hc : ¬ c) (e : ∃ r, Ev g r ∧ Q r) : ∃ r, Ev (fun k => if c then f k else g k) r ∧ Q r := by
  obtain ⟨r, e, q⟩ := e
  exact ⟨r, Ev.neg hc e, q⟩
theorem ex_bind {α β : Type} {f : Nat → Option β} {g : Nat → β → Option α} {v : β} {Q : α → Prop} (h : Ev f v) (e : ∃ r, Ev (fun k => g k v) r ∧ Q r) : ∃ r, Ev (fun k => (f k).bind (g k)) r ∧ Q r := by
  obtain ⟨r, e, q⟩ := e
  exact ⟨r, Ev.bind h e, q⟩
/-- What is handed on is told by one of its properties alone. -/
theorem ex_some {α β : Type} {v : β} {g : Nat → β → Option α} {P : β → Prop} {Q : α → Prop} (hP : P v) (h : ∀ y, P y → ∃ r, Ev (fun k => g k y) r ∧ Q r) : ∃ r, Ev (fun k => (some v).bind (g k)) r ∧ Q r := by
  obtain ⟨r, e, q⟩ := h v hP
  exact ⟨r, Ev.bind (Ev.now v) e, q⟩
theorem wraps5 (a : Int) (h0 : 0 ≤ a) (h1 : a ≤ 1152921504606846976) : wrap64 ((wrap64 ((wrap64 ((wrap64 ((wrap64 (a + 1)) + 1)) + 1)) + 1)) + 1) = a + 5 := by
  rw [w64 (n := a + 1) (by omega) (by omega), w64 (n := a + 1 + 1) (by omega) (by omega), w64 (n := a + 1 + 1 + 1) (by omega) (by omega), w64 (n := a + 1 + 1 + 1 + 1) (by omega) (by omega), w64 (n := a + 1 + 1 + 1 + 1 + 1) (by omega) (by omega)]
  omega
theorem wraps3 (a : Int) (h0 : 0 ≤ a) (h1 : a ≤ 1152921504606846976) : wrap64 ((wrap64 ((wrap64 (a + 1)) + 1)) + 1) = a + 3 := by
  rw [w64 (n := a + 1) (by omega) (by omega), w64 (n := a + 1 + 1) (by omega) (by omega), w64 (n := a + 1 + 1 + 1) (by omega) (by omega)]
  omega
def GoodCapture (n : Nat) (y : List S93) : Prop := y.length = n ∧ ∀ z ∈ y, z.f2.f1.length ≤ 1048576
theorem goodCapture_set {n : Nat} {y : List S93} (h : GoodCapture n y) (j : Nat) (e : S93) (he : e.f2.f1.length ≤ 1048576) : GoodCapture n (y.set j e) := by
  refine ⟨by rw [List.length_set]; exact h.1, fun z hz => ?_⟩
  rcases List.mem_or_eq_of_mem_set hz with hz | hz
  · exact h.2 z hz
  · rw [hz]; exact he
theorem goodCapture_rd {n : Nat} {y : List S93} (h : GoodCapture n y) (i : Nat) (hi : i < n) : (rd_T93 y (i : Int)).f2.f1.length ≤ 1048576 := h.2 _ (getD_mem y i (by rw [h.1]; exact hi) z93)
theorem markCaptureS_some (l : List S93) (h : l.length ≤ 1048576) (hf : ∀ y ∈ l, FitimplCapture y) : ∃ r, Ev (fun k => laws_markCaptureS.f k l 1) r ∧ (0 ≤ r.1 ∧ r.1 ≤ 2000000000000) := by
  unfold laws_markCaptureS.f
  have key : ∀ (d i : Nat) (y : List S93) (a : Int), i + d = l.length → GoodCapture l.length y → 0 ≤ a → a ≤ 1 + 1048584 * (i : Int) → ∃ r, Ev (fun k => laws_markCaptureS.l0 k y a (i : Int)) r ∧ (0 ≤ r.1 ∧ r.1 ≤ 2000000000000) := by
    intro d
    induction d with
    | zero =>
      intro i y a hi hy h0 h1
      have hl := hy.1
      refine ex_round (fun _ => by rw [laws_markCaptureS.l0]) ?_
      refine ex_neg (by omega) ?_
      exact ⟨(a, y), Ev.now _, h0, by show a ≤ 2000000000000; omega⟩
    | succ d ih =>
      intro i y a hi hy h0 h1
      have hl := hy.1
      have hin : i < l.length := by omega
      have e1 : wrap64 ((i : Int) + 1) = ((i + 1 : Nat) : Int) := by rw [w64 (by omega) (by omega)]; omega
      refine ex_round (fun _ => by rw [laws_markCaptureS.l0]) ?_
      refine ex_pos (by omega) ?_
      refine ex_pos (by omega) ?_
      refine ex_some (P := GoodCapture l.length) (goodCapture_set hy _ _ (goodCapture_rd hy i hin)) (fun y hy => ?_)
      refine ex_some (P := GoodCapture l.length) (goodCapture_set hy _ _ (goodCapture_rd hy i hin)) (fun y hy => ?_)
      refine ex_some (P := GoodCapture l.length) (goodCapture_set hy _ _ (goodCapture_rd hy i hin)) (fun y hy => ?_)
      refine ex_some (P := GoodCapture l.length) (goodCapture_set hy _ _ (goodCapture_rd hy i hin)) (fun y hy => ?_)
      refine ex_some (P := GoodCapture l.length) (goodCapture_set hy _ _ (goodCapture_rd hy i hin)) (fun y hy => ?_)
      have hb := goodCapture_rd hy i hin
      rw [wraps5 a h0 (by omega)]
      refine ex_bind (markIntS_ev _ (a + 5) hb (by omega) (by omega)) ?_
      dsimp only
      refine ex_some (P := GoodCapture l.length) (goodCapture_set hy _ _ (by simpa using hb)) (fun y2 hy2 => ?_)
      refine ex_some (P := GoodCapture l.length) (goodCapture_set hy2 _ _ (goodCapture_rd hy2 i hin)) (fun y3 hy3 => ?_)
      refine ex_some (P := GoodCapture l.length) (goodCapture_set hy3 _ _ (goodCapture_rd hy3 i hin)) (fun y4 hy4 => ?_)
      rw [wraps3 _ (by omega) (by omega), e1]
      exact ih (i + 1) _ _ (by omega) (goodCapture_set hy4 _ _ (goodCapture_rd hy4 i hin)) (by omega) (by omega)
  exact key l.length 0 l 1 (by omega) ⟨rfl, hf⟩ (by omega) (by omega)
theorem markWander_some (a0 : Int) (l1 l2 l3 : List Int) (l4 : List S27) (l5 : List Int) (a6 n : Int) (k1 : l1.length ≤ 1048576) (k2 : l2.length ≤ 1048576) (k3 : l3.length ≤ 1048576) (k4 : l4.length ≤ 1048576) (k5 : l5.length ≤ 1048576) (h0 : 0 ≤ n) (h1 : n ≤ 2000000000000) : ∃ r, Ev (fun k => laws_markWander.f k a0 l1 l2 l3 l4 l5 a6 n) r ∧ 0 ≤ r.1 := by
  unfold laws_markWander.f
  refine ex_bind (markState_ev a0 l1 l2 l3 n k1 k2 k3 (by omega) (by omega)) ?_
  dsimp only
  refine ex_bind (markChoiceS_ev l4 _ k4 (by omega) (by omega)) ?_
  dsimp only
  refine ex_bind (markIntS_ev l5 _ k5 (by omega) (by omega)) ?_
  dsimp only
  refine ⟨_, Ev.now _, ?_⟩
  dsimp only
  omega
theorem FnExactMixedNodes (l0 : List S131) (a1_0 : Int) (l1_1 : List Int) (l1_2 : List Int) (l1_3 : List Int) (l1_4 : List S209) (l1_5 : List Int) (a1_6 : Int) (a2 : Int) (h0 : (l0.length ≤ maxLen ∧ ∀ e_ ∈ l0, W131 e_)) (h1 : (Lit.int .i64 a1_0).wf = true) (h2 : (l1_1.length ≤ maxLen ∧ ∀ e_ ∈ l1_1, (Lit.int .i64 e_).wf = true)) (h3 : (l1_2.length ≤ maxLen ∧ ∀ e_ ∈ l1_2, (Lit.int .i64 e_).wf = true)) (h4 : (l1_3.length ≤ maxLen ∧ ∀ e_ ∈ l1_3, (Lit.int .i64 e_).wf = true)) (h5 : (l1_4.length ≤ maxLen ∧ ∀ e_ ∈ l1_4, W209 e_)) (h6 : (l1_5.length ≤ maxLen ∧ ∀ e_ ∈ l1_5, (Lit.int .i64 e_).wf = true)) (h7 : (Lit.int .i64 a1_6).wf = true) (h8 : (Lit.int .i64 a2).wf = true) : ∃ k, laws_FnExactMixedNodes.f k l0 a1_0 l1_1 l1_2 l1_3 l1_4 l1_5 a1_6 a2 = some true := by
  obtain ⟨r, e, b, g⟩ := szCaptureS_some l0 1048576 ⟨h0.1, fun y hy => (h0.2 y hy).2.2.2.1.1⟩ (by omega) (by omega)
  refine Ev.rounds ?_
  unfold laws_FnExactMixedNodes.f
  refine Ev.bind e ?_
  by_cases c : r < 0
  · exact Ev.pos c (Ev.now _)
  obtain ⟨hl, hy⟩ := g (by omega)
  have hm : (l0.map cvCapture).length ≤ 1048576 := by simpa using hl
  have hf : ∀ y ∈ l0.map cvCapture, FitimplCapture y := by
    intro y h
    obtain ⟨z, hz, rfl⟩ := List.mem_map.1 h
    exact hy z hz
  have hw : ∀ y ∈ l0.map cvCapture, (Lit.int .i64 y.f1).wf = true := by
    intro y h
    obtain ⟨z, hz, rfl⟩ := List.mem_map.1 h
    exact (h0.2 z hz).2.1
  obtain ⟨r2, e2, b2, g2⟩ := szWander_some a1_0 l1_1 l1_2 l1_3 l1_4 l1_5 a1_6 r h2.1 h3.1 h4.1 h5.1 h6.1 (by omega) (by omega)
  refine Ev.neg c ?_
  refine Ev.now_bind e2 ?_
  by_cases c2 : r2 < 0
  · exact Ev.pos c2 (Ev.now _)
  obtain ⟨k1, k2, k3, k4, k5⟩ := g2 (by omega)
  have t := toCaptureS_ev l0 hl hy
  have t2 := toWander_ev a1_0 l1_1 l1_2 l1_3 l1_4 l1_5 a1_6 k1 k2 k3 k4 k5
  have sE := sMixedNodes_ev (l0.map cvCapture) a1_0 l1_1 l1_2 l1_3 (l1_4.map cvChoice) l1_5 a1_6 a2 hw k5
  have iE := iMixedNodes_ev (l0.map cvCapture) a1_0 l1_1 l1_2 l1_3 (l1_4.map cvChoice) l1_5 a1_6 a2 hw k5
  have fit : (pMixedNodes (l0.map cvCapture) l1_5 a2).length ≤ 1048576 := Nat.le_trans (pMixedNodes_length _ _ _) k5
  generalize pMixedNodes (l0.map cvCapture) l1_5 a2 = p at sE iE fit
  have k4' : (l1_4.map cvChoice).length ≤ 1048576 := by simpa using k4
  refine Ev.neg c2 ?_
  refine Ev.bind t ?_
  refine Ev.bind t2 ?_
  refine Ev.bind sE ?_
  refine Ev.bind t ?_
  refine Ev.bind t2 ?_
  refine Ev.bind iE ?_
  refine Ev.bind (eqIntS_refl _ fit) ?_
  refine Ev.pos rfl ?_
  refine Ev.bind t ?_
  refine Ev.bind (eqCaptureS_refl _ hm hf) ?_
  refine Ev.pos rfl ?_
  refine Ev.bind t2 ?_
  refine Ev.bind (eqWander_refl _ _ _ _ _ _ _ k1 k2 k3 k4' k5) ?_
  refine Ev.pos rfl ?_
  obtain ⟨mr, me, mp, mq⟩ := markCaptureS_some (l0.map cvCapture) hm hf
  obtain ⟨wr, we, wp⟩ := markWander_some a1_0 l1_1 l1_2 l1_3 (l1_4.map cvChoice) l1_5 a1_6 mr.1 k1 k2 k3 k4' k5 mp mq
  refine Ev.bind me ?_
  refine Ev.bind we ?_
  refine Ev.neg (by omega) ?_
  refine Ev.bind (eqIntS_refl _ fit) ?_
  have m1 := markIntS_ev p 1 fit (by omega) (by omega)
  have q1 := heldIntS_ev p.length 1 fit (by omega) (by omega)
  refine Ev.round (fun _ => by rw [laws_FnExactMixedNodes.j0]) ?_
  refine Ev.neg (by simp) ?_
  refine Ev.bind m1 ?_
  refine Ev.bind q1 ?_
  refine Ev.neg (by omega) ?_
  refine Ev.pos rfl ?_
  refine Ev.bind t ?_
  refine Ev.bind t2 ?_
  refine Ev.bind iE ?_
  refine Ev.bind (eqIntS_refl _ fit) ?_
  refine Ev.pos rfl ?_
  refine Ev.bind q1 ?_
  refine Ev.neg (by omega) ?_
  refine Ev.pos rfl ?_
  exact Ev.now _
end Go.Proofs.Ytegaambhmpoakaa.Pure
