/- The program's JoinLabel, the bits in one or the other, and the reference's, which adds each bit that is not there yet, return the same number; 0 where one is no label. No condition. -/
import Derived.Test.YtoclgniogcdilaaStdFnExactJoinLabel
namespace Go.Proofs.Ytoclgniogcdilaa.Pure
open Go.RowKit Go.Proofs.Ytoclgniogcdilaa.PFnExactJoinLabel Go.Proofs.YtoclgniogcdilaaW.PrintWords Go.Proofs.YtoclgniogcdilaaW.PrintLast Go.Proofs.YtoclgniogcdilaaW.PrintMore Go.Proofs.Ytoclgniogcdilaa.Gen
set_option linter.unusedVariables false
set_option linter.unusedSimpArgs false


theorem InRange_eq (a b c : Int) : impl_InRange.f a b c = some (decide (b ≤ a) && decide (a ≤ c)) := by
  unfold impl_InRange.f
  by_cases h : b ≤ a <;> simp [h]
def pJoin (a b : Int) : Int := if (0 ≤ a ∧ a ≤ 1048575) ∧ (0 ≤ b ∧ b ≤ 1048575) then ((a.toNat ||| b.toNat : Nat) : Int) else 0
theorem iJoin_eq (a b : Int) : impl_JoinLabel.f a b = some (pJoin a b) := by
  unfold impl_JoinLabel.f pJoin
  rw [InRange_eq, InRange_eq]
  by_cases ha : 0 ≤ a ∧ a ≤ 1048575
  · by_cases hb : 0 ≤ b ∧ b ≤ 1048575
    · obtain ⟨n, rfl⟩ := Int.eq_ofNat_of_zero_le ha.1
      obtain ⟨m, rfl⟩ := Int.eq_ofNat_of_zero_le hb.1
      have h1 : n ≤ 1048575 := by omega
      have h2 : m ≤ 1048575 := by omega
      rw [if_pos ⟨ha, hb⟩, or_nat n m (by omega) (by omega)]
      have h3 : ((n : Int) ≤ 1048575) := by omega
      have h4 : ((m : Int) ≤ 1048575) := by omega
      simp [h3, h4]
    · rw [if_neg (fun h => hb h.2)]
      have h1 : (decide (0 ≤ b) && decide (b ≤ 1048575)) = false := by simp; omega
      simp [h1]
  · rw [if_neg (fun h => ha h.1)]
    have h1 : (decide (0 ≤ a) && decide (a ≤ 1048575)) = false := by simp; omega
    simp [h1]
theorem l1In_eq (a b c : Int) : spec_l1In.f a b c = some (decide (b ≤ a) && decide (a ≤ c)) := by
  unfold spec_l1In.f
  by_cases h : b ≤ a <;> simp [h]
theorem sCapturesIn_ev (n : Nat) (hn : n ≤ 1048575) : Ev (fun k => spec_CapturesIn.f k (n : Int)) (caps n 20) := by
  unfold spec_CapturesIn.f
  refine Ev.now_bind rfl ?_
  refine Ev.now_bind (l1In_eq _ _ _) ?_
  refine Ev.pos (by simp; omega) ?_
  have main := ev_down (fun k i => spec_CapturesIn.l0 k ((n / 2 ^ i : Nat) : Int) (caps n i) (i : Int)) 20 (fun _ => caps n 20)
    (Ev.round (fun _ => by rw [spec_CapturesIn.l0]) (Ev.neg (by omega) (Ev.now _)))
    (fun i hi h => ?_)
  · simpa [caps] using main
  have hlen := caps_length n i
  have hdiv : n / 2 ^ i ≤ n := Nat.div_le_self _ _
  have e2 : wrap64 (Int.tdiv ((n / 2 ^ i : Nat) : Int) 2) = ((n / 2 ^ (i + 1) : Nat) : Int) := by
    rw [half_nat _ (by omega), Nat.pow_succ, ← Nat.div_div_eq_div_mul]
  have e3 : Int.tmod ((n / 2 ^ i : Nat) : Int) 2 = ((n / 2 ^ i % 2 : Nat) : Int) := odd_nat _
  have e1 : wrap64 ((i : Int) + 1) = ((i + 1 : Nat) : Int) := by rw [w64 (by omega) (by omega)]; omega
  rw [caps_succ] at h
  refine Ev.round (fun _ => by rw [spec_CapturesIn.l0]) ?_
  refine Ev.pos (by omega) ?_
  by_cases hb : n / 2 ^ i % 2 = 1
  · rw [if_pos hb] at h
    refine Ev.pos (by rw [e3]; omega) ?_
    refine Ev.pos (by omega) ?_
    simp only [e1, e2]
    exact h
  · rw [if_neg hb] at h
    refine Ev.neg (by rw [e3]; omega) ?_
    simp only [e1, e2]
    exact h
theorem sCapturesIn_no (a : Int) (h : ¬ (0 ≤ a ∧ a ≤ 1048575)) : Ev (fun k => spec_CapturesIn.f k a) [] := by
  unfold spec_CapturesIn.f
  refine Ev.now_bind rfl ?_
  refine Ev.now_bind (l1In_eq _ _ _) ?_
  refine Ev.neg (by simp; omega) ?_
  exact Ev.now _
/-- The indices in a label; none of a number that is no label. -/
def pCaptures (a : Int) : List Int := if 0 ≤ a ∧ a ≤ 1048575 then caps a.toNat 20 else []
theorem pCaptures_length (a : Int) : (pCaptures a).length ≤ 20 := by
  unfold pCaptures
  split
  · exact caps_length _ _
  · simp
theorem sCaptures_ev (a : Int) : Ev (fun k => spec_CapturesIn.f k a) (pCaptures a) := by
  unfold pCaptures
  by_cases h : 0 ≤ a ∧ a ≤ 1048575
  · obtain ⟨n, rfl⟩ := Int.eq_ofNat_of_zero_le h.1
    rw [if_pos h]
    exact sCapturesIn_ev n (by omega)
  · rw [if_neg h]
    exact sCapturesIn_no a h
theorem l17Bit_ev (i : Nat) (hi : i ≤ 20) : Ev (fun k => spec_l17Bit.f k (i : Int)) ((2 ^ i : Nat) : Int) := by
  unfold spec_l17Bit.f
  have main := ev_down (fun k j => spec_l17Bit.l0 k (i : Int) ((2 ^ j : Nat) : Int) (j : Int)) i (fun _ => ((2 ^ i : Nat) : Int))
    (Ev.round (fun _ => by rw [spec_l17Bit.l0]) (Ev.neg (by omega) (Ev.now _)))
    (fun j hj h => ?_)
  · simpa using main
  have e1 : wrap64 ((j : Int) + 1) = ((j + 1 : Nat) : Int) := by rw [w64 (by omega) (by omega)]; omega
  have h2 : 2 ^ j ≤ 2 ^ 20 := Nat.pow_le_pow_right (by decide) (by omega)
  have e2 : wrap64 (2 * ((2 ^ j : Nat) : Int)) = ((2 ^ (j + 1) : Nat) : Int) := by
    rw [dbl_nat _ (by omega), Nat.pow_succ, Nat.mul_comm]
  refine Ev.round (fun _ => by rw [spec_l17Bit.l0]) ?_
  refine Ev.pos (by omega) ?_
  simp only [e1, e2]
  exact h
theorem joinStep_there (x : List Int) (y : List Int) (out : Int) (i : Nat) (hi : i < y.length) (hx : x.length ≤ 20) (r : Int)
    (hyes : y.getD i 0 ∈ x → Ev (fun k => spec_JoinLabel.l0 k x y out (wrap64 ((i : Int) + 1))) r)
    (hno : y.getD i 0 ∉ x → Ev (fun k => (spec_l17Bit.f k (rd y (i : Int))).bind fun t => spec_JoinLabel.l0 k x y (wrap64 (out + t)) (wrap64 ((i : Int) + 1))) r) :
    Ev (fun k => spec_JoinLabel.l0 k x y out (i : Int)) r := by
  refine Ev.round (fun _ => by rw [spec_JoinLabel.l0]) ?_
  refine Ev.pos (by omega) ?_
  have key : ∀ d j : Nat, j + d = x.length → ∀ b : Bool, (b = true ↔ y.getD i 0 ∈ x.take j) → Ev (fun k => spec_JoinLabel.l1 k x y out (i : Int) b (j : Int)) r := by
    intro d
    induction d with
    | zero =>
      intro j hj b hb
      obtain rfl : j = x.length := by omega
      rw [List.take_length] at hb
      refine Ev.round (fun _ => by rw [spec_JoinLabel.l1]) ?_
      refine Ev.neg (by omega) ?_
      cases b with
      | true =>
        refine Ev.pos rfl ?_
        exact hyes (hb.1 rfl)
      | false =>
        refine Ev.neg (by simp) ?_
        refine Ev.pos (by omega) ?_
        refine Ev.pos (by omega) ?_
        exact hno (fun h => by simpa using hb.2 h)
    | succ d ih =>
      intro j hj b hb
      have hjl : j < x.length := by omega
      have e1 : wrap64 ((j : Int) + 1) = ((j + 1 : Nat) : Int) := by rw [w64 (by omega) (by omega)]; omega
      have ht : x.take (j + 1) = x.take j ++ [x.getD j 0] := by rw [List.take_succ_eq_append_getElem hjl, getD_in x j hjl]
      refine Ev.round (fun _ => by rw [spec_JoinLabel.l1]) ?_
      refine Ev.pos (by omega) ?_
      cases b with
      | true =>
        refine Ev.pos rfl ?_
        simp only [e1]
        exact ih (j + 1) (by omega) true (by rw [ht]; exact ⟨fun _ => List.mem_append_left _ (hb.1 rfl), fun _ => rfl⟩)
      | false =>
        refine Ev.neg (by simp) ?_
        refine Ev.pos (by omega) ?_
        refine Ev.pos (by omega) ?_
        refine Ev.pos (by omega) ?_
        simp only [e1]
        refine ih (j + 1) (by omega) _ ?_
        have hn : y.getD i 0 ∉ x.take j := fun h => by simpa using hb.2 h
        rw [ht, rd_nat, rd_nat, beq_iff_eq, List.mem_append, List.mem_singleton]
        exact ⟨fun h => Or.inr h.symm, fun h => h.elim (fun h => absurd h hn) (fun h => h.symm)⟩
  exact key x.length 0 (by omega) false (by simp)
theorem sJoin_ev (a b : Int) : Ev (fun k => spec_JoinLabel.f k a b) (pJoin a b) := by
  unfold spec_JoinLabel.f pJoin
  by_cases ha : 0 ≤ a ∧ a ≤ 1048575
  · have h1 : (decide (0 ≤ a) && decide (a ≤ 1048575)) = true := by simp; omega
    by_cases hb : 0 ≤ b ∧ b ≤ 1048575
    · have h2 : (decide (0 ≤ b) && decide (b ≤ 1048575)) = true := by simp; omega
      rw [if_pos ⟨ha, hb⟩]
      obtain ⟨n, rfl⟩ := Int.eq_ofNat_of_zero_le ha.1
      obtain ⟨m, rfl⟩ := Int.eq_ofNat_of_zero_le hb.1
      refine Ev.now_bind (l1In_eq _ _ _) ?_
      refine Ev.pos h1 ?_
      refine Ev.now_bind (l1In_eq _ _ _) ?_
      rw [h2]
      refine Ev.round (fun _ => by rw [spec_JoinLabel.j0]) ?_
      refine Ev.neg (by simp) ?_
      refine Ev.bind (sCapturesIn_ev n (by omega)) ?_
      refine Ev.bind (sCapturesIn_ev m (by omega)) ?_
      have hmod : m % 2 ^ 20 = m := Nat.mod_eq_of_lt (by omega)
      have hx := caps_length n 20
      have key : ∀ d j : Nat, j + d = 20 → Ev (fun k => spec_JoinLabel.l0 k (caps n 20) (caps m 20) (((n ||| m % 2 ^ j : Nat)) : Int) ((caps m j).length : Int)) (((n ||| m : Nat)) : Int) := by
        intro d
        induction d with
        | zero =>
          intro j hj
          obtain rfl : j = 20 := by omega
          rw [hmod]
          refine Ev.round (fun _ => by rw [spec_JoinLabel.l0]) ?_
          refine Ev.neg (by omega) ?_
          exact Ev.now _
        | succ d ih =>
          intro j hj
          have h := ih (j + 1) (by omega)
          have hpre : ∀ q, caps m (j + 1 + q) = caps m (j + 1) ++ (caps m (j + 1 + q)).drop (caps m (j + 1)).length := by
            intro q
            induction q with
            | zero => simp
            | succ q ihq =>
              rw [show j + 1 + (q + 1) = (j + 1 + q) + 1 by omega, caps_succ m (j + 1 + q)]
              split
              · rw [ihq, List.drop_append_of_le_length (by simp), ← List.append_assoc]
                simp
              · exact ihq
          have h20 : caps m 20 = caps m (j + 1) ++ (caps m 20).drop (caps m (j + 1)).length := by
            have := hpre (20 - (j + 1))
            rwa [show j + 1 + (20 - (j + 1)) = 20 by omega] at this
          by_cases hbit : m / 2 ^ j % 2 = 1
          · have hs : caps m (j + 1) = caps m j ++ [(j : Int)] := by rw [caps_succ, if_pos hbit]
            have htb : m.testBit j = true := by rw [Nat.testBit_eq_decide_div_mod_eq]; exact decide_eq_true hbit
            have hget : (caps m 20).getD (caps m j).length 0 = (j : Int) := by
              rw [h20, hs]
              simp [List.getD_eq_getElem?_getD]
            have hlt : (caps m j).length < (caps m 20).length := by
              rw [h20, hs]
              simp
            have hlen : (caps m (j + 1)).length = (caps m j).length + 1 := by rw [hs]; simp
            have hb20 := caps_length m 20
            rw [hlen] at h
            have e1 : wrap64 (((caps m j).length : Int) + 1) = (((caps m j).length + 1 : Nat) : Int) := by rw [w64 (by omega) (by omega)]; omega
            refine joinStep_there _ _ _ _ hlt hx _ ?_ ?_
            · intro hin
              rw [hget, caps_mem] at hin
              obtain ⟨i, hi, hti, he⟩ := hin
              obtain rfl : j = i := by omega
              rw [or_step, if_neg (by simp [hti])] at h
              rw [e1]
              exact h
            · intro hout
              rw [hget, caps_mem] at hout
              have hta : n.testBit j = false := by
                cases hc : n.testBit j with
                | false => rfl
                | true => exact absurd ⟨j, by omega, hc, rfl⟩ hout
              rw [or_step, if_pos ⟨htb, hta⟩] at h
              rw [rd_nat, hget]
              refine Ev.bind (l17Bit_ev j (by omega)) ?_
              have hor : n ||| m % 2 ^ j < 2 ^ 20 := Nat.or_lt_two_pow (by omega) (Nat.lt_of_le_of_lt (Nat.mod_le _ _) (by omega))
              have h2 : 2 ^ j ≤ 2 ^ 20 := Nat.pow_le_pow_right (by decide) (by omega)
              have e2 : wrap64 (((n ||| m % 2 ^ j : Nat) : Int) + ((2 ^ j : Nat) : Int)) = (((n ||| m % 2 ^ j) + 2 ^ j : Nat) : Int) := by
                exact add_nat _ _ (by omega) (by omega)
              simp only [e1, e2]
              exact h
          · have hs : caps m (j + 1) = caps m j := by rw [caps_succ, if_neg hbit]
            have htb : m.testBit j = false := by rw [Nat.testBit_eq_decide_div_mod_eq]; exact decide_eq_false hbit
            rw [or_step, if_neg (by simp [htb]), hs] at h
            exact h
      have h0 := key 20 0 (by omega)
      have hz : caps m 0 = [] := rfl
      rw [hz] at h0
      simpa [Nat.mod_one] using h0
    · have h2 : (decide (0 ≤ b) && decide (b ≤ 1048575)) = false := by simp; omega
      rw [if_neg (fun h => hb h.2)]
      refine Ev.now_bind (l1In_eq _ _ _) ?_
      refine Ev.pos h1 ?_
      refine Ev.now_bind (l1In_eq _ _ _) ?_
      rw [h2]
      refine Ev.round (fun _ => by rw [spec_JoinLabel.j0]) ?_
      refine Ev.pos rfl ?_
      exact Ev.now _
  · have h1 : (decide (0 ≤ a) && decide (a ≤ 1048575)) = false := by simp; omega
    rw [if_neg (fun h => ha h.1)]
    refine Ev.now_bind (l1In_eq _ _ _) ?_
    refine Ev.neg (by rw [h1]; simp) ?_
    refine Ev.round (fun _ => by rw [spec_JoinLabel.j0]) ?_
    refine Ev.pos rfl ?_
    exact Ev.now _
theorem FnExactJoinLabel (a0 : Int) (a1 : Int) (h0 : (Lit.int .i64 a0).wf = true) (h1 : (Lit.int .i64 a1).wf = true) : ∃ k, laws_FnExactJoinLabel.f k a0 a1 = some true := by
  refine Ev.rounds ?_
  unfold laws_FnExactJoinLabel.f
  refine Ev.bind (sJoin_ev a0 a1) ?_
  refine Ev.now_bind (iJoin_eq a0 a1) ?_
  refine Ev.pos rfl ?_
  exact Ev.now _
end Go.Proofs.Ytoclgniogcdilaa.Pure
