/- The program's PageSpan and the reference's return the same two ticks: the labels are joined in one order; the arguments are as they were. No condition. -/
import Derived.Test.YtegaambhmpoakaaStdFnExactPageSpan
namespace Go.Proofs.Ytegaambhmpoakaa.Pure
open Go.RowKit Go.Proofs.Ytegaambhmpoakaa.MFnExactPageSpan Go.Proofs.YtegaambhmpoakaaW.PrintWords Go.Proofs.YtegaambhmpoakaaW.PrintLast Go.Proofs.YtegaambhmpoakaaW.PrintMore Go.Proofs.Ytegaambhmpoakaa.Gen
set_option linter.unusedVariables false
set_option linter.unusedSimpArgs false

def W24 (y : S24) : Prop := (Lit.int .i64 y.f0).wf = true ∧ (Lit.int .i64 y.f1).wf = true ∧ (Lit.int .i64 y.f2).wf = true
def W129 (y : S129) : Prop := (Lit.int .i64 y.f0).wf = true ∧ (y.f1.length ≤ maxLen ∧ ∀ e_ ∈ y.f1, (Lit.int .i64 e_).wf = true) ∧ W24 y.f2
def W131 (y : S131) : Prop := W24 y.f0 ∧ (Lit.int .i64 y.f1).wf = true ∧ W129 y.f2
def W209 (y : S209) : Prop := (Lit.int .i64 y.f0).wf = true ∧ (Lit.int .i64 y.f1).wf = true
theorem l1In_eq (a b c : Int) : spec_l1In.f a b c = some (decide (b ≤ a) && decide (a ≤ c)) := by
  unfold spec_l1In.f
  by_cases h : b ≤ a <;> simp [h]
theorem sCapturesIn_ev (n : Nat) (hn : n ≤ 1048575) : Ev (fun k => spec_CapturesIn.f k (n : Int)) (caps n 20) := by
  unfold spec_CapturesIn.f
  refine Ev.now_bind rfl ?_
  refine Ev.now_bind (l1In_eq _ _ _) ?_
  refine Ev.pos (by simp; omega) ?_
  have main := ev_down (fun k i => spec_CapturesIn.l0 k ((n / 2 ^ i : Nat) : Int) (caps n i) (i : Int)) 20 (fun _ => caps n 20)
    (Ev.round (fun _ => by rw [spec_CapturesIn.l0]) (Ev.neg (by omega) (Ev.now _)))
    (fun i hi h => ?_)
  · simpa [caps] using main
  have hlen := caps_length n i
  have hdiv : n / 2 ^ i ≤ n := Nat.div_le_self _ _
  have e2 : wrap64 (Int.tdiv ((n / 2 ^ i : Nat) : Int) 2) = ((n / 2 ^ (i + 1) : Nat) : Int) := by
    rw [half_nat _ (by omega), Nat.pow_succ, ← Nat.div_div_eq_div_mul]
  have e3 : Int.tmod ((n / 2 ^ i : Nat) : Int) 2 = ((n / 2 ^ i % 2 : Nat) : Int) := odd_nat _
  have e1 : wrap64 ((i : Int) + 1) = ((i + 1 : Nat) : Int) := by rw [w64 (by omega) (by omega)]; omega
  rw [caps_succ] at h
  refine Ev.round (fun _ => by rw [spec_CapturesIn.l0]) ?_
  refine Ev.pos (by omega) ?_
  by_cases hb : n / 2 ^ i % 2 = 1
  · rw [if_pos hb] at h
    refine Ev.pos (by rw [e3]; omega) ?_
    refine Ev.pos (by omega) ?_
    simp only [e1, e2]
    exact h
  · rw [if_neg hb] at h
    refine Ev.neg (by rw [e3]; omega) ?_
    simp only [e1, e2]
    exact h
theorem sCapturesIn_no (a : Int) (h : ¬ (0 ≤ a ∧ a ≤ 1048575)) : Ev (fun k => spec_CapturesIn.f k a) [] := by
  unfold spec_CapturesIn.f
  refine Ev.now_bind rfl ?_
  refine Ev.now_bind (l1In_eq _ _ _) ?_
  refine Ev.neg (by simp; omega) ?_
  exact Ev.now _
/-- The indices in a label; none of a number that is no label. -/
def pCaptures (a : Int) : List Int := if 0 ≤ a ∧ a ≤ 1048575 then caps a.toNat 20 else []
theorem pCaptures_length (a : Int) : (pCaptures a).length ≤ 20 := by
  unfold pCaptures
  split
  · exact caps_length _ _
  · simp
theorem sCaptures_ev (a : Int) : Ev (fun k => spec_CapturesIn.f k a) (pCaptures a) := by
  unfold pCaptures
  by_cases h : 0 ≤ a ∧ a ≤ 1048575
  · obtain ⟨n, rfl⟩ := Int.eq_ofNat_of_zero_le h.1
    rw [if_pos h]
    exact sCapturesIn_ev n (by omega)
  · rw [if_neg h]
    exact sCapturesIn_no a h
theorem l17Bit_ev (i : Nat) (hi : i ≤ 20) : Ev (fun k => spec_l17Bit.f k (i : Int)) ((2 ^ i : Nat) : Int) := by
  unfold spec_l17Bit.f
  have main := ev_down (fun k j => spec_l17Bit.l0 k (i : Int) ((2 ^ j : Nat) : Int) (j : Int)) i (fun _ => ((2 ^ i : Nat) : Int))
    (Ev.round (fun _ => by rw [spec_l17Bit.l0]) (Ev.neg (by omega) (Ev.now _)))
    (fun j hj h => ?_)
  · simpa using main
  have e1 : wrap64 ((j : Int) + 1) = ((j + 1 : Nat) : Int) := by rw [w64 (by omega) (by omega)]; omega
  have h2 : 2 ^ j ≤ 2 ^ 20 := Nat.pow_le_pow_right (by decide) (by omega)
  have e2 : wrap64 (2 * ((2 ^ j : Nat) : Int)) = ((2 ^ (j + 1) : Nat) : Int) := by
    rw [dbl_nat _ (by omega), Nat.pow_succ, Nat.mul_comm]
  refine Ev.round (fun _ => by rw [spec_l17Bit.l0]) ?_
  refine Ev.pos (by omega) ?_
  simp only [e1, e2]
  exact h
theorem InRange_eq (a b c : Int) : impl_InRange.f a b c = some (decide (b ≤ a) && decide (a ≤ c)) := by
  unfold impl_InRange.f
  by_cases h : b ≤ a <;> simp [h]
def pJoin (a b : Int) : Int := if (0 ≤ a ∧ a ≤ 1048575) ∧ (0 ≤ b ∧ b ≤ 1048575) then ((a.toNat ||| b.toNat : Nat) : Int) else 0
theorem iJoin_eq (a b : Int) : impl_JoinLabel.f a b = some (pJoin a b) := by
  unfold impl_JoinLabel.f pJoin
  rw [InRange_eq, InRange_eq]
  by_cases ha : 0 ≤ a ∧ a ≤ 1048575
  · by_cases hb : 0 ≤ b ∧ b ≤ 1048575
    · obtain ⟨n, rfl⟩ := Int.eq_ofNat_of_zero_le ha.1
      obtain ⟨m, rfl⟩ := Int.eq_ofNat_of_zero_le hb.1
      have h1 : n ≤ 1048575 := by omega
      have h2 : m ≤ 1048575 := by omega
      rw [if_pos ⟨ha, hb⟩, or_nat n m (by omega) (by omega)]
      have h3 : ((n : Int) ≤ 1048575) := by omega
      have h4 : ((m : Int) ≤ 1048575) := by omega
      simp [h3, h4]
    · rw [if_neg (fun h => hb h.2)]
      have h1 : (decide (0 ≤ b) && decide (b ≤ 1048575)) = false := by simp; omega
      simp [h1]
  · rw [if_neg (fun h => ha h.1)]
    have h1 : (decide (0 ≤ a) && decide (a ≤ 1048575)) = false := by simp; omega
    simp [h1]
theorem joinStep_there (x : List Int) (y : List Int) (out : Int) (i : Nat) (hi : i < y.length) (hx : x.length ≤ 20) (r : Int)
    (hyes : y.getD i 0 ∈ x → Ev (fun k => spec_JoinLabel.l0 k x y out (wrap64 ((i : Int) + 1))) r)
    (hno : y.getD i 0 ∉ x → Ev (fun k => (spec_l17Bit.f k (rd y (i : Int))).bind fun t => spec_JoinLabel.l0 k x y (wrap64 (out + t)) (wrap64 ((i : Int) + 1))) r) :
    Ev (fun k => spec_JoinLabel.l0 k x y out (i : Int)) r := by
  refine Ev.round (fun _ => by rw [spec_JoinLabel.l0]) ?_
  refine Ev.pos (by omega) ?_
  have key : ∀ d j : Nat, j + d = x.length → ∀ b : Bool, (b = true ↔ y.getD i 0 ∈ x.take j) → Ev (fun k => spec_JoinLabel.l1 k x y out (i : Int) b (j : Int)) r := by
    intro d
    induction d with
    | zero =>
      intro j hj b hb
      obtain rfl : j = x.length := by omega
      rw [List.take_length] at hb
      refine Ev.round (fun _ => by rw [spec_JoinLabel.l1]) ?_
      refine Ev.neg (by omega) ?_
      cases b with
      | true =>
        refine Ev.pos rfl ?_
        exact hyes (hb.1 rfl)
      | false =>
        refine Ev.neg (by simp) ?_
        refine Ev.pos (by omega) ?_
        refine Ev.pos (by omega) ?_
        exact hno (fun h => by simpa using hb.2 h)
    | succ d ih =>
      intro j hj b hb
      have hjl : j < x.length := by omega
      have e1 : wrap64 ((j : Int) + 1) = ((j + 1 : Nat) : Int) := by rw [w64 (by omega) (by omega)]; omega
      have ht : x.take (j + 1) = x.take j ++ [x.getD j 0] := by rw [List.take_succ_eq_append_getElem hjl, getD_in x j hjl]
      refine Ev.round (fun _ => by rw [spec_JoinLabel.l1]) ?_
      refine Ev.pos (by omega) ?_
      cases b with
      | true =>
        refine Ev.pos rfl ?_
        simp only [e1]
        exact ih (j + 1) (by omega) true (by rw [ht]; exact ⟨fun _ => List.mem_append_left _ (hb.1 rfl), fun _ => rfl⟩)
      | false =>
        refine Ev.neg (by simp) ?_
        refine Ev.pos (by omega) ?_
        refine Ev.pos (by omega) ?_
        refine Ev.pos (by omega) ?_
        simp only [e1]
        refine ih (j + 1) (by omega) _ ?_
        have hn : y.getD i 0 ∉ x.take j := fun h => by simpa using hb.2 h
        rw [ht, rd_nat, rd_nat, beq_iff_eq, List.mem_append, List.mem_singleton]
        exact ⟨fun h => Or.inr h.symm, fun h => h.elim (fun h => absurd h hn) (fun h => h.symm)⟩
  exact key x.length 0 (by omega) false (by simp)
theorem sJoin_ev (a b : Int) : Ev (fun k => spec_JoinLabel.f k a b) (pJoin a b) := by
  unfold spec_JoinLabel.f pJoin
  by_cases ha : 0 ≤ a ∧ a ≤ 1048575
  · have h1 : (decide (0 ≤ a) && decide (a ≤ 1048575)) = true := by simp; omega
    by_cases hb : 0 ≤ b ∧ b ≤ 1048575
    · have h2 : (decide (0 ≤ b) && decide (b ≤ 1048575)) = true := by simp; omega
      rw [if_pos ⟨ha, hb⟩]
      obtain ⟨n, rfl⟩ := Int.eq_ofNat_of_zero_le ha.1
      obtain ⟨m, rfl⟩ := Int.eq_ofNat_of_zero_le hb.1
      refine Ev.now_bind (l1In_eq _ _ _) ?_
      refine Ev.pos h1 ?_
      refine Ev.now_bind (l1In_eq _ _ _) ?_
      rw [h2]
      refine Ev.round (fun _ => by rw [spec_JoinLabel.j0]) ?_
      refine Ev.neg (by simp) ?_
      refine Ev.bind (sCapturesIn_ev n (by omega)) ?_
      refine Ev.bind (sCapturesIn_ev m (by omega)) ?_
      have hmod : m % 2 ^ 20 = m := Nat.mod_eq_of_lt (by omega)
      have hx := caps_length n 20
      have key : ∀ d j : Nat, j + d = 20 → Ev (fun k => spec_JoinLabel.l0 k (caps n 20) (caps m 20) (((n ||| m % 2 ^ j : Nat)) : Int) ((caps m j).length : Int)) (((n ||| m : Nat)) : Int) := by
        intro d
        induction d with
        | zero =>
          intro j hj
          obtain rfl : j = 20 := by omega
          rw [hmod]
          refine Ev.round (fun _ => by rw [spec_JoinLabel.l0]) ?_
          refine Ev.neg (by omega) ?_
          exact Ev.now _
        | succ d ih =>
          intro j hj
          have h := ih (j + 1) (by omega)
          have hpre : ∀ q, caps m (j + 1 + q) = caps m (j + 1) ++ (caps m (j + 1 + q)).drop (caps m (j + 1)).length := by
            intro q
            induction q with
            | zero => simp
            | succ q ihq =>
              rw [show j + 1 + (q + 1) = (j + 1 + q) + 1 by omega, caps_succ m (j + 1 + q)]
              split
              · rw [ihq, List.drop_append_of_le_length (by simp), ← List.append_assoc]
                simp
              · exact ihq
          have h20 : caps m 20 = caps m (j + 1) ++ (caps m 20).drop (caps m (j + 1)).length := by
            have := hpre (20 - (j + 1))
            rwa [show j + 1 + (20 - (j + 1)) = 20 by omega] at this
          by_cases hbit : m / 2 ^ j % 2 = 1
          · have hs : caps m (j + 1) = caps m j ++ [(j : Int)] := by rw [caps_succ, if_pos hbit]
            have htb : m.testBit j = true := by rw [Nat.testBit_eq_decide_div_mod_eq]; exact decide_eq_true hbit
            have hget : (caps m 20).getD (caps m j).length 0 = (j : Int) := by
              rw [h20, hs]
              simp [List.getD_eq_getElem?_getD]
            have hlt : (caps m j).length < (caps m 20).length := by
              rw [h20, hs]
              simp
            have hlen : (caps m (j + 1)).length = (caps m j).length + 1 := by rw [hs]; simp
            have hb20 := caps_length m 20
            rw [hlen] at h
            have e1 : wrap64 (((caps m j).length : Int) + 1) = (((caps m j).length + 1 : Nat) : Int) := by rw [w64 (by omega) (by omega)]; omega
            refine joinStep_there _ _ _ _ hlt hx _ ?_ ?_
            · intro hin
              rw [hget, caps_mem] at hin
              obtain ⟨i, hi, hti, he⟩ := hin
              obtain rfl : j = i := by omega
              rw [or_step, if_neg (by simp [hti])] at h
              rw [e1]
              exact h
            · intro hout
              rw [hget, caps_mem] at hout
              have hta : n.testBit j = false := by
                cases hc : n.testBit j with
                | false => rfl
                | true => exact absurd ⟨j, by omega, hc, rfl⟩ hout
              rw [or_step, if_pos ⟨htb, hta⟩] at h
              rw [rd_nat, hget]
              refine Ev.bind (l17Bit_ev j (by omega)) ?_
              have hor : n ||| m % 2 ^ j < 2 ^ 20 := Nat.or_lt_two_pow (by omega) (Nat.lt_of_le_of_lt (Nat.mod_le _ _) (by omega))
              have h2 : 2 ^ j ≤ 2 ^ 20 := Nat.pow_le_pow_right (by decide) (by omega)
              have e2 : wrap64 (((n ||| m % 2 ^ j : Nat) : Int) + ((2 ^ j : Nat) : Int)) = (((n ||| m % 2 ^ j) + 2 ^ j : Nat) : Int) := by
                exact add_nat _ _ (by omega) (by omega)
              simp only [e1, e2]
              exact h
          · have hs : caps m (j + 1) = caps m j := by rw [caps_succ, if_neg hbit]
            have htb : m.testBit j = false := by rw [Nat.testBit_eq_decide_div_mod_eq]; exact decide_eq_false hbit
            rw [or_step, if_neg (by simp [htb]), hs] at h
            exact h
      have h0 := key 20 0 (by omega)
      have hz : caps m 0 = [] := rfl
      rw [hz] at h0
      simpa [Nat.mod_one] using h0
    · have h2 : (decide (0 ≤ b) && decide (b ≤ 1048575)) = false := by simp; omega
      rw [if_neg (fun h => hb h.2)]
      refine Ev.now_bind (l1In_eq _ _ _) ?_
      refine Ev.pos h1 ?_
      refine Ev.now_bind (l1In_eq _ _ _) ?_
      rw [h2]
      refine Ev.round (fun _ => by rw [spec_JoinLabel.j0]) ?_
      refine Ev.pos rfl ?_
      exact Ev.now _
  · have h1 : (decide (0 ≤ a) && decide (a ≤ 1048575)) = false := by simp; omega
    rw [if_neg (fun h => ha h.1)]
    refine Ev.now_bind (l1In_eq _ _ _) ?_
    refine Ev.neg (by rw [h1]; simp) ?_
    refine Ev.round (fun _ => by rw [spec_JoinLabel.j0]) ?_
    refine Ev.pos rfl ?_
    exact Ev.now _
/-- The labels joined. -/
def pLabel (l : List Int) : Int := l.foldl pJoin 0
theorem sLabel_ev (a0 : Int) (l1 l2 l3 : List Int) (l4 : List S27) (l5 : List Int) (a6 : Int) (h : l5.length ≤ 1048576) : Ev (fun k => spec_l18Label.f k a0 l1 l2 l3 l4 l5 a6) (pLabel l5) := by
  unfold spec_l18Label.f pLabel
  refine ev_foldl (fun k x i => spec_l18Label.l0 k x i a0 l1 l2 l3 l4 l5 a6) l5 0 pJoin (fun x => x) (fun _ _ => True) 0 trivial ?_ ?_
  · intro x _
    refine Ev.round (fun _ => by rw [spec_l18Label.l0]) ?_
    refine Ev.neg (by omega) ?_
    exact Ev.now _
  · intro i x hi _
    have e1 : wrap64 ((i : Int) + 1) = ((i + 1 : Nat) : Int) := by rw [w64 (by omega) (by omega)]; omega
    refine ⟨trivial, fun r hr => ?_⟩
    refine Ev.round (fun _ => by rw [spec_l18Label.l0]) ?_
    refine Ev.pos (by omega) ?_
    refine Ev.pos (by omega) ?_
    simp only [e1, rd_nat]
    exact Ev.bind (sJoin_ev _ _) hr
theorem caps_asc (n m : Nat) : (caps n m).Pairwise (· < ·) := by
  induction m with
  | zero => simp [caps]
  | succ m ih =>
    rw [caps_succ]
    split
    · refine List.pairwise_append.2 ⟨ih, List.pairwise_singleton _ _, ?_⟩
      intro x hx y hy
      obtain ⟨i, hi, _, rfl⟩ := (caps_mem n m x).1 hx
      simp only [List.mem_singleton] at hy
      omega
    · exact ih
theorem pCaptures_asc (a : Int) : (pCaptures a).Pairwise (· < ·) := by
  unfold pCaptures
  split
  · exact caps_asc _ _
  · exact List.Pairwise.nil
theorem pCaptures_pos (a x : Int) (h : x ∈ pCaptures a) : 0 ≤ x ∧ x < 20 := by
  unfold pCaptures at h
  split at h
  · obtain ⟨i, hi, _, rfl⟩ := (caps_mem _ _ x).1 h
    omega
  · simp at h
theorem asc_all (cs : List Int) (hs : cs.Pairwise (· < ·)) (h : cs.length ≠ 0) (n : Int) : (cs.all fun c => decide (c < n)) = decide (cs.getD (cs.length - 1) 0 < n) := by
  rw [Bool.eq_iff_iff]
  simp only [List.all_eq_true, decide_eq_true_eq]
  have hlast : cs.getD (cs.length - 1) 0 = cs[cs.length - 1]'(by omega) := getD_in _ _ (by omega) 0
  constructor
  · intro ha
    exact ha _ (getD_mem cs _ (by omega) 0)
  · intro hl x hx
    obtain ⟨i, hi, rfl⟩ := List.mem_iff_getElem.1 hx
    by_cases e : i = cs.length - 1
    · subst e
      omega
    · have := List.pairwise_iff_getElem.1 hs i (cs.length - 1) hi (by omega) (by omega)
      omega
def spanStep (l : List S93) (p : Int × Int) (c : Int) : Int × Int := (mn p.1 (rd_T93 l c).f1, mx p.2 (rd_T93 l c).f1)
/-- All the indices name captures. -/
def pHas (l : List S93) (cs : List Int) : Bool := cs.all fun c => decide (c < (l.length : Int))
def pSpanAll (l : List S93) : List Int → Int × Int
  | [] => (-1, -1)
  | c :: t => t.foldl (spanStep l) ((rd_T93 l c).f1, (rd_T93 l c).f1)
def pSpan (l : List S93) (cs : List Int) : Int × Int := if pHas l cs = true then pSpanAll l cs else (-1, -1)
theorem sAll_ev (l : List S93) (a : Int) : Ev (fun k => spec_l18All.f k l a) (pCaptures a, pHas l (pCaptures a)) := by
  unfold spec_l18All.f
  refine Ev.bind (sCaptures_ev a) ?_
  have hl := pCaptures_length a
  have hs := pCaptures_asc a
  generalize pCaptures a = cs at hl hs
  by_cases h : (cs.length : Int) = 0
  · refine Ev.pos h ?_
    have h2 : cs = [] := List.eq_nil_of_length_eq_zero (by omega)
    subst h2
    exact Ev.now _
  · have e1 : wrap64 ((cs.length : Int) - 1) = ((cs.length - 1 : Nat) : Int) := by rw [w64 (by omega) (by omega)]; omega
    refine Ev.neg h ?_
    simp only [e1, rd_nat]
    refine Ev.pos (by omega) ?_
    refine Ev.pos (by omega) ?_
    unfold pHas
    rw [asc_all cs hs (by omega)]
    exact Ev.now _
theorem sMin_eq (a b : Int) : spec_Min.f a b = some (mn a b) := by
  unfold spec_Min.f mn
  split <;> rfl
theorem sMax_eq (a b : Int) : spec_Max.f a b = some (mx a b) := by
  unfold spec_Max.f mx
  by_cases h : a < b
  · rw [if_pos h, if_pos h]
  · rw [if_neg h, if_neg h]
theorem sSpanOf_ev (l : List S93) (a : Int) : Ev (fun k => spec_SpanOf.f k l a) (pSpan l (pCaptures a)) := by
  unfold spec_SpanOf.f
  refine Ev.bind (sAll_ev l a) ?_
  have hl := pCaptures_length a
  have hp := pCaptures_pos a
  generalize pCaptures a = cs at hl hp
  unfold pSpan
  cases hh : pHas l cs with
  | false =>
    refine Ev.neg (by simp) ?_
    rw [if_neg (by simp)]
    exact Ev.round (fun _ => by rw [spec_SpanOf.j0]) (Ev.pos rfl (Ev.now _))
  | true =>
    refine Ev.pos rfl ?_
    rw [if_pos rfl]
    have hin : ∀ c ∈ cs, c < (l.length : Int) := by simpa [pHas] using hh
    refine Ev.round (fun _ => by rw [spec_SpanOf.j0]) ?_
    cases cs with
    | nil => exact Ev.pos (by simp) (Ev.now _)
    | cons c t =>
      have e0 : rd (c :: t) 0 = c := rfl
      have hc := hin c (by simp)
      have hc0 := hp c (by simp)
      simp only [List.length_cons] at hl
      refine Ev.neg (by simp; omega) ?_
      refine Ev.pos (by simp only [List.length_cons]; omega) ?_
      simp only [e0]
      refine Ev.pos (by omega) ?_
      refine Ev.pos hc ?_
      refine ev_foldl (fun k x i => spec_SpanOf.l0 k l (c :: t) x.1 x.2 (i + 1)) t 0 (spanStep l) (fun x => x) (fun _ _ => True) ((rd_T93 l c).f1, (rd_T93 l c).f1) trivial ?_ ?_
      · intro x _
        refine Ev.round (fun _ => by rw [spec_SpanOf.l0]) ?_
        refine Ev.neg (by simp only [List.length_cons]; omega) ?_
        exact Ev.now _
      · intro i x hi _
        refine ⟨trivial, fun r hr => ?_⟩
        have e1 : wrap64 ((i : Int) + 1 + 1) = ((i + 1 : Nat) : Int) + 1 := by rw [w64 (by omega) (by omega)]; omega
        have e2 : rd (c :: t) ((i : Int) + 1) = t.getD i 0 := by
          rw [show (i : Int) + 1 = ((i + 1 : Nat) : Int) by omega, rd_nat]
          rfl
        have hm := getD_mem t i hi 0
        have h1 := hin _ (List.mem_cons_of_mem c hm)
        have h2 := hp _ (List.mem_cons_of_mem c hm)
        refine Ev.round (fun _ => by rw [spec_SpanOf.l0]) ?_
        refine Ev.pos (by simp only [List.length_cons]; omega) ?_
        refine Ev.pos (by omega) ?_
        simp only [e1, e2]
        refine Ev.pos (by omega) ?_
        refine Ev.pos h1 ?_
        refine Ev.now_bind (sMin_eq _ _) ?_
        exact Ev.now_bind (sMax_eq _ _) hr
theorem sPageSpan_ev (l : List S93) (a0 : Int) (l1 l2 l3 : List Int) (l4 : List S27) (l5 : List Int) (a6 : Int) (h : l5.length ≤ 1048576) : Ev (fun k => spec_PageSpan.f k l a0 l1 l2 l3 l4 l5 a6) (pSpan l (pCaptures (pLabel l5))) := by
  unfold spec_PageSpan.f
  exact Ev.bind (sLabel_ev _ _ _ _ _ _ _ h) (Ev.bind (sSpanOf_ev _ _) (Ev.now _))
theorem iCapturesIn_ev (n : Nat) (hn : n ≤ 1048575) : Ev (fun k => impl_CapturesIn.f k (n : Int)) (caps n 20) := by
  unfold impl_CapturesIn.f
  refine Ev.now_bind (InRange_eq _ _ _) ?_
  refine Ev.pos (by simp; omega) ?_
  have main := ev_down (fun k i => impl_CapturesIn.l0 k (n : Int) (caps n i) (i : Int)) 20 (fun _ => caps n 20)
    (Ev.round (fun _ => by rw [impl_CapturesIn.l0]) (Ev.neg (by omega) (Ev.now _)))
    (fun i hi h => ?_)
  · simpa [caps] using main
  have hlen := caps_length n i
  have hdiv : n / 2 ^ i ≤ n := Nat.div_le_self _ _
  have e3 : Go.bits .and .i64 (shr .i64 (n : Int) (i : Int)) 1 = ((n / 2 ^ i % 2 : Nat) : Int) := by
    rw [shr_nat _ _ (by omega), bit_nat _ (by omega)]
  have e1 : wrap64 ((i : Int) + 1) = ((i + 1 : Nat) : Int) := by rw [w64 (by omega) (by omega)]; omega
  rw [caps_succ] at h
  refine Ev.round (fun _ => by rw [impl_CapturesIn.l0]) ?_
  refine Ev.pos (by omega) ?_
  refine Ev.pos (by omega) ?_
  by_cases hb : n / 2 ^ i % 2 = 1
  · rw [if_pos hb] at h
    refine Ev.pos (by rw [e3]; omega) ?_
    refine Ev.pos (by omega) ?_
    simp only [e1]
    exact h
  · rw [if_neg hb] at h
    refine Ev.neg (by rw [e3]; omega) ?_
    simp only [e1]
    exact h
theorem iCapturesIn_no (a : Int) (h : ¬ (0 ≤ a ∧ a ≤ 1048575)) : Ev (fun k => impl_CapturesIn.f k a) [] := by
  unfold impl_CapturesIn.f
  refine Ev.now_bind (InRange_eq _ _ _) ?_
  refine Ev.neg (by simp; omega) ?_
  exact Ev.now _
theorem iCaptures_ev (a : Int) : Ev (fun k => impl_CapturesIn.f k a) (pCaptures a) := by
  unfold pCaptures
  by_cases h : 0 ≤ a ∧ a ≤ 1048575
  · obtain ⟨n, rfl⟩ := Int.eq_ofNat_of_zero_le h.1
    rw [if_pos h]
    exact iCapturesIn_ev n (by omega)
  · rw [if_neg h]
    exact iCapturesIn_no a h
theorem iSpanOf_ev (l : List S93) (a : Int) : Ev (fun k => impl_SpanOf.f k l a) (pSpan l (pCaptures a)) := by
  unfold impl_SpanOf.f
  refine Ev.bind (iCaptures_ev a) ?_
  have hl := pCaptures_length a
  have hp := pCaptures_pos a
  generalize pCaptures a = cs at hl hp
  have key : ∀ (d i : Nat) (x : Int × Int), i + d = cs.length → 1 ≤ i → Ev (fun k => impl_SpanOf.l0 k l x.1 x.2 cs (cs.length : Int) (i : Int)) (if pHas l (cs.drop i) = true then (cs.drop i).foldl (spanStep l) x else (-1, -1)) := by
    intro d
    induction d with
    | zero =>
      intro i x hi h1
      rw [List.drop_eq_nil_of_le (by omega)]
      rw [if_pos (show pHas l [] = true from rfl)]
      refine Ev.round (fun _ => by rw [impl_SpanOf.l0]) ?_
      exact Ev.neg (by omega) (Ev.now _)
    | succ d ih =>
      intro i x hi h1
      have hm := getD_mem cs i (by omega) 0
      have h2 := hp _ hm
      have e1 : wrap64 ((i : Int) + 1) = ((i + 1 : Nat) : Int) := by rw [w64 (by omega) (by omega)]; omega
      have e2 : rd cs (i : Int) = cs.getD i 0 := rd_nat _ _
      rw [drop_cons cs i (by omega) 0]
      refine Ev.round (fun _ => by rw [impl_SpanOf.l0]) ?_
      refine Ev.pos (by omega) ?_
      refine Ev.pos (by omega) ?_
      refine Ev.pos (by omega) ?_
      simp only [e1, e2]
      generalize cs.getD i 0 = c at h2
      by_cases hc : c < (l.length : Int)
      · refine Ev.neg (by omega) ?_
        refine Ev.pos (by omega) ?_
        refine Ev.pos hc ?_
        refine Ev.neg (by omega) ?_
        have he : pHas l (c :: cs.drop (i + 1)) = pHas l (cs.drop (i + 1)) := by simp [pHas, hc]
        rw [he]
        exact ih (i + 1) (spanStep l x c) (by omega) (by omega)
      · refine Ev.pos (by omega) ?_
        rw [if_neg (by simp [pHas, hc])]
        exact Ev.now _
  cases cs with
  | nil =>
    refine Ev.round (fun _ => by rw [impl_SpanOf.l0]) ?_
    exact Ev.neg (by simp) (Ev.now _)
  | cons c t =>
    have e0 : rd (c :: t) 0 = c := rfl
    have hc0 := hp c (by simp)
    have e1 : wrap64 ((0 : Int) + 1) = ((1 : Nat) : Int) := by rw [w64 (by omega) (by omega)]; rfl
    refine Ev.round (fun _ => by rw [impl_SpanOf.l0]) ?_
    refine Ev.pos (by simp only [List.length_cons]; omega) ?_
    refine Ev.pos (by omega) ?_
    refine Ev.pos (by simp only [List.length_cons]; omega) ?_
    simp only [e1, e0]
    unfold pSpan
    by_cases hc : c < (l.length : Int)
    · refine Ev.neg (by omega) ?_
      refine Ev.pos (by omega) ?_
      refine Ev.pos hc ?_
      refine Ev.pos (by simp) ?_
      have he : pHas l (c :: t) = pHas l t := by simp [pHas, hc]
      rw [he]
      have h := key t.length 1 ((rd_T93 l c).f1, (rd_T93 l c).f1) (by simp only [List.length_cons]; omega) (by omega)
      have e3 : mn (rd_T93 l c).f1 (rd_T93 l c).f1 = (rd_T93 l c).f1 := by unfold mn; split <;> rfl
      have e4 : mx (rd_T93 l c).f1 (rd_T93 l c).f1 = (rd_T93 l c).f1 := by unfold mx; split <;> rfl
      rw [e3, e4]
      exact h
    · refine Ev.pos (by omega) ?_
      rw [if_neg (by simp [pHas, hc])]
      exact Ev.now _
theorem iPageSpan_ev (l : List S93) (a0 : Int) (l1 l2 l3 : List Int) (l4 : List S27) (l5 : List Int) (a6 : Int) (h : l5.length ≤ 1048576) : Ev (fun k => impl_PageSpan.f k l a0 l1 l2 l3 l4 l5 a6) (pSpan l (pCaptures (pLabel l5))) := by
  unfold impl_PageSpan.f pLabel
  refine ev_foldl (fun k x i => impl_PageSpan.l0 k l x l5 (l5.length : Int) i) l5 0 pJoin (fun x => pSpan l (pCaptures x)) (fun _ _ => True) 0 trivial ?_ ?_
  · intro x _
    refine Ev.round (fun _ => by rw [impl_PageSpan.l0]) ?_
    refine Ev.neg (by omega) ?_
    exact Ev.bind (iSpanOf_ev _ _) (Ev.now _)
  · intro i x hi _
    have e1 : wrap64 ((i : Int) + 1) = ((i + 1 : Nat) : Int) := by rw [w64 (by omega) (by omega)]; omega
    refine ⟨trivial, fun r hr => ?_⟩
    refine Ev.round (fun _ => by rw [impl_PageSpan.l0]) ?_
    refine Ev.pos (by omega) ?_
    refine Ev.pos (by omega) ?_
    refine Ev.pos (by omega) ?_
    simp only [e1, rd_nat]
    exact Ev.now_bind (iJoin_eq _ _) hr
theorem FnExactPageSpan (l0 : List S131) (a1_0 : Int) (l1_1 : List Int) (l1_2 : List Int) (l1_3 : List Int) (l1_4 : List S209) (l1_5 : List Int) (a1_6 : Int) (h0 : (l0.length ≤ maxLen ∧ ∀ e_ ∈ l0, W131 e_)) (h1 : (Lit.int .i64 a1_0).wf = true) (h2 : (l1_1.length ≤ maxLen ∧ ∀ e_ ∈ l1_1, (Lit.int .i64 e_).wf = true)) (h3 : (l1_2.length ≤ maxLen ∧ ∀ e_ ∈ l1_2, (Lit.int .i64 e_).wf = true)) (h4 : (l1_3.length ≤ maxLen ∧ ∀ e_ ∈ l1_3, (Lit.int .i64 e_).wf = true)) (h5 : (l1_4.length ≤ maxLen ∧ ∀ e_ ∈ l1_4, W209 e_)) (h6 : (l1_5.length ≤ maxLen ∧ ∀ e_ ∈ l1_5, (Lit.int .i64 e_).wf = true)) (h7 : (Lit.int .i64 a1_6).wf = true) : ∃ k, laws_FnExactPageSpan.f k l0 a1_0 l1_1 l1_2 l1_3 l1_4 l1_5 a1_6 = some true := by
  obtain ⟨r, e, b, g⟩ := szCaptureS_some l0 1048576 ⟨h0.1, fun y hy => (h0.2 y hy).2.2.2.1.1⟩ (by omega) (by omega)
  refine Ev.rounds ?_
  unfold laws_FnExactPageSpan.f
  refine Ev.bind e ?_
  by_cases c : r < 0
  · exact Ev.pos c (Ev.now _)
  obtain ⟨hl, hy⟩ := g (by omega)
  have hm : (l0.map cvCapture).length ≤ 1048576 := by simpa using hl
  have hf : ∀ y ∈ l0.map cvCapture, FitimplCapture y := by
    intro y h
    obtain ⟨z, hz, rfl⟩ := List.mem_map.1 h
    exact hy z hz
  obtain ⟨r2, e2, b2, g2⟩ := szWander_some a1_0 l1_1 l1_2 l1_3 l1_4 l1_5 a1_6 r h2.1 h3.1 h4.1 h5.1 h6.1 (by omega) (by omega)
  refine Ev.neg c ?_
  refine Ev.now_bind e2 ?_
  by_cases c2 : r2 < 0
  · exact Ev.pos c2 (Ev.now _)
  obtain ⟨k1, k2, k3, k4, k5⟩ := g2 (by omega)
  have t := toCaptureS_ev l0 hl hy
  have t2 := toWander_ev a1_0 l1_1 l1_2 l1_3 l1_4 l1_5 a1_6 k1 k2 k3 k4 k5
  refine Ev.neg c2 ?_
  refine Ev.bind t ?_
  refine Ev.bind t2 ?_
  refine Ev.bind (sPageSpan_ev _ _ _ _ _ _ _ _ k5) ?_
  refine Ev.bind t ?_
  refine Ev.bind t2 ?_
  refine Ev.bind (iPageSpan_ev _ _ _ _ _ _ _ _ k5) ?_
  refine Ev.pos rfl ?_
  refine Ev.round (fun _ => by rw [laws_FnExactPageSpan.j0]) ?_
  refine Ev.neg (by simp) ?_
  refine Ev.bind t ?_
  refine Ev.bind (eqCaptureS_refl _ hm hf) ?_
  refine Ev.pos rfl ?_
  refine Ev.bind t2 ?_
  refine Ev.bind (eqWander_refl _ _ _ _ _ _ _ k1 k2 k3 (by simpa using k4) k5) ?_
  refine Ev.pos rfl ?_
  exact Ev.now _
end Go.Proofs.Ytegaambhmpoakaa.Pure
