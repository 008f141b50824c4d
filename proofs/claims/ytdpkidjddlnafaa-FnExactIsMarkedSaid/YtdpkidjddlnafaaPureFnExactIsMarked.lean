/- The program's IsMarked, which keeps the choices in a map, and the reference's, which looks through them anew, return the same; the argument is as it was. No condition. -/
import Derived.Test.YtdpkidjddlnafaaStdFnExactIsMarked
namespace Go.Proofs.Ytdpkidjddlnafaa.Pure
open Go.RowKit Go.Proofs.Ytdpkidjddlnafaa.MFnExactIsMarked Go.Proofs.YtdpkidjddlnafaaW.PrintWords Go.Proofs.YtdpkidjddlnafaaW.PrintLast Go.Proofs.YtdpkidjddlnafaaW.PrintMore Go.Proofs.Ytdpkidjddlnafaa.Gen
set_option linter.unusedVariables false
set_option linter.unusedSimpArgs false

def W152 (y : S152) : Prop := (Lit.int .i64 y.f0).wf = true ∧ (Lit.int .i64 y.f1).wf = true
theorem l1In_eq (a b c : Int) : spec_l1In.f a b c = some (decide (b ≤ a) && decide (a ≤ c)) := by
  unfold spec_l1In.f
  by_cases h : b ≤ a <;> simp [h]
theorem sCapturesIn_ev (n : Nat) (hn : n ≤ 1048575) : Ev (fun k => spec_CapturesIn.f k (n : Int)) (caps n 20) := by
  unfold spec_CapturesIn.f
  refine Ev.now_bind rfl ?_
  refine Ev.now_bind (l1In_eq _ _ _) ?_
  refine Ev.pos (by simp; omega) ?_
  have main := ev_down (fun k i => spec_CapturesIn.l0 k ((n / 2 ^ i : Nat) : Int) (caps n i) (i : Int)) 20 (fun _ => caps n 20)
    (Ev.round (fun _ => by rw [spec_CapturesIn.l0]) (Ev.neg (by omega) (Ev.now _)))
    (fun i hi h => ?_)
  · simpa [caps] using main
  have hlen := caps_length n i
  have hdiv : n / 2 ^ i ≤ n := Nat.div_le_self _ _
  have e2 : wrap64 (Int.tdiv ((n / 2 ^ i : Nat) : Int) 2) = ((n / 2 ^ (i + 1) : Nat) : Int) := by
    rw [half_nat _ (by omega), Nat.pow_succ, ← Nat.div_div_eq_div_mul]
  have e3 : Int.tmod ((n / 2 ^ i : Nat) : Int) 2 = ((n / 2 ^ i % 2 : Nat) : Int) := odd_nat _
  have e1 : wrap64 ((i : Int) + 1) = ((i + 1 : Nat) : Int) := by rw [w64 (by omega) (by omega)]; omega
  rw [caps_succ] at h
  refine Ev.round (fun _ => by rw [spec_CapturesIn.l0]) ?_
  refine Ev.pos (by omega) ?_
  by_cases hb : n / 2 ^ i % 2 = 1
  · rw [if_pos hb] at h
    refine Ev.pos (by rw [e3]; omega) ?_
    refine Ev.pos (by omega) ?_
    simp only [e1, e2]
    exact h
  · rw [if_neg hb] at h
    refine Ev.neg (by rw [e3]; omega) ?_
    simp only [e1, e2]
    exact h
theorem sCapturesIn_no (a : Int) (h : ¬ (0 ≤ a ∧ a ≤ 1048575)) : Ev (fun k => spec_CapturesIn.f k a) [] := by
  unfold spec_CapturesIn.f
  refine Ev.now_bind rfl ?_
  refine Ev.now_bind (l1In_eq _ _ _) ?_
  refine Ev.neg (by simp; omega) ?_
  exact Ev.now _
/-- The indices in a label; none of a number that is no label. -/
def pCaptures (a : Int) : List Int := if 0 ≤ a ∧ a ≤ 1048575 then caps a.toNat 20 else []
theorem pCaptures_length (a : Int) : (pCaptures a).length ≤ 20 := by
  unfold pCaptures
  split
  · exact caps_length _ _
  · simp
theorem sCaptures_ev (a : Int) : Ev (fun k => spec_CapturesIn.f k a) (pCaptures a) := by
  unfold pCaptures
  by_cases h : 0 ≤ a ∧ a ≤ 1048575
  · obtain ⟨n, rfl⟩ := Int.eq_ofNat_of_zero_le h.1
    rw [if_pos h]
    exact sCapturesIn_ev n (by omega)
  · rw [if_neg h]
    exact sCapturesIn_no a h
def pChosen (cs : List S121) (i : Int) : Bool := cs.any fun y => y.f1 == i
def pLabelOk (cs : List S121) (a : Int) : Bool := (pCaptures a).all (pChosen cs)
def pMarked (cs : List S121) (ls : List Int) : Bool := ls.all (pLabelOk cs) && decide ((ls.length : Int) = 4)
theorem pCaptures_wf (a x : Int) (h : x ∈ pCaptures a) : (Lit.int .i64 x).wf = true := by
  unfold pCaptures at h
  split at h
  · rw [caps_mem] at h
    obtain ⟨i, hi, _, he⟩ := h
    subst he
    have h2 : IntKind.i64.max = 9223372036854775807 := rfl
    have h3 : IntKind.i64.min = -9223372036854775808 := rfl
    simp only [Lit.wf, Bool.and_eq_true, decide_eq_true_eq]
    omega
  · cases h
theorem sMarked_l2 (x3 : Int) (x4 : List Int) (i : Nat) (hi : i < x4.length) (a0 : Int) (l1 l2 l3 : List Int) (cs : List S121) (ls : List Int) (a6 : Int) (hc : cs.length ≤ 1048576) : ∀ d j : Nat, j + d = cs.length → ∀ b r : Bool,
    ((b || (cs.drop j).any fun y => y.f1 == x4.getD i 0) = true → Ev (fun k => spec_IsMarked.l1 k x3 x4 (wrap64 ((i : Int) + 1)) a0 l1 l2 l3 cs ls a6) r) → ((b || (cs.drop j).any fun y => y.f1 == x4.getD i 0) = false → r = false) → Ev (fun k => spec_IsMarked.l2 k x3 x4 (i : Int) b (j : Int) a0 l1 l2 l3 cs ls a6) r := by
  intro d
  induction d with
  | zero =>
    intro j hj b r h1 h2
    obtain rfl : j = cs.length := by omega
    rw [List.drop_length, List.any_nil, Bool.or_false] at h1 h2
    refine Ev.round (fun _ => by rw [spec_IsMarked.l2]) ?_
    refine Ev.neg (by omega) ?_
    cases b with
    | true => exact Ev.pos rfl (h1 rfl)
    | false =>
      rw [h2 rfl]
      exact Ev.neg (by simp) (Ev.now _)
  | succ d ih =>
    intro j hj b r h1 h2
    have hjl : j < cs.length := by omega
    have e1 : wrap64 ((j : Int) + 1) = ((j + 1 : Nat) : Int) := by rw [w64 (by omega) (by omega)]; omega
    rw [drop_cons cs j hjl z121, List.any_cons] at h1 h2
    refine Ev.round (fun _ => by rw [spec_IsMarked.l2]) ?_
    refine Ev.pos (by omega) ?_
    cases b with
    | true =>
      refine Ev.pos rfl ?_
      simp only [e1]
      exact ih (j + 1) (by omega) true r (fun _ => h1 rfl) (fun h => by simp at h)
    | false =>
      refine Ev.neg (by simp) ?_
      refine Ev.pos (by omega) ?_
      refine Ev.pos (by omega) ?_
      refine Ev.pos (by omega) ?_
      simp only [e1]
      rw [Bool.false_or] at h1 h2
      refine ih (j + 1) (by omega) _ r ?_ ?_
      · intro h
        refine h1 ?_
        rw [rd_nat] at h
        exact h
      · intro h
        refine h2 ?_
        rw [rd_nat] at h
        exact h
theorem sMarked_l1 (x3 : Int) (x4 : List Int) (hx : x4.length ≤ 20) (a0 : Int) (l1 l2 l3 : List Int) (cs : List S121) (ls : List Int) (a6 : Int) (hc : cs.length ≤ 1048576) : ∀ d i : Nat, i + d = x4.length → ∀ r : Bool,
    ((x4.drop i).all (pChosen cs) = true → Ev (fun k => spec_IsMarked.l0 k (wrap64 (x3 + 1)) a0 l1 l2 l3 cs ls a6) r) → ((x4.drop i).all (pChosen cs) = false → r = false) → Ev (fun k => spec_IsMarked.l1 k x3 x4 (i : Int) a0 l1 l2 l3 cs ls a6) r := by
  intro d
  induction d with
  | zero =>
    intro i hi r h1 h2
    obtain rfl : i = x4.length := by omega
    rw [List.drop_length, List.all_nil] at h1
    refine Ev.round (fun _ => by rw [spec_IsMarked.l1]) ?_
    exact Ev.neg (by omega) (h1 rfl)
  | succ d ih =>
    intro i hi r h1 h2
    have hil : i < x4.length := by omega
    have e1 : wrap64 ((i : Int) + 1) = ((i + 1 : Nat) : Int) := by rw [w64 (by omega) (by omega)]; omega
    rw [drop_cons x4 i hil 0, List.all_cons] at h1 h2
    refine Ev.round (fun _ => by rw [spec_IsMarked.l1]) ?_
    refine Ev.pos (by omega) ?_
    have key := sMarked_l2 x3 x4 i hil a0 l1 l2 l3 cs ls a6 hc cs.length 0 (by omega) false r
    rw [List.drop_zero, Bool.false_or] at key
    refine key ?_ ?_
    · intro hp
      have hp' : pChosen cs (x4.getD i 0) = true := hp
      rw [hp', Bool.true_and] at h1 h2
      rw [e1]
      exact ih (i + 1) (by omega) r h1 h2
    · intro hp
      have hp' : pChosen cs (x4.getD i 0) = false := hp
      rw [hp', Bool.false_and] at h2
      exact h2 rfl
theorem sMarked_ev (a0 : Int) (l1 l2 l3 : List Int) (cs : List S121) (ls : List Int) (a6 : Int) (hc : cs.length ≤ 1048576) (hl : ls.length ≤ 1048576) : Ev (fun k => spec_IsMarked.f k a0 l1 l2 l3 cs ls a6) (pMarked cs ls) := by
  unfold spec_IsMarked.f pMarked
  have key : ∀ d n : Nat, n + d = ls.length → Ev (fun k => spec_IsMarked.l0 k (n : Int) a0 l1 l2 l3 cs ls a6) ((ls.drop n).all (pLabelOk cs) && decide ((ls.length : Int) = 4)) := by
    intro d
    induction d with
    | zero =>
      intro n hn
      obtain rfl : n = ls.length := by omega
      rw [List.drop_length, List.all_nil, Bool.true_and]
      refine Ev.round (fun _ => by rw [spec_IsMarked.l0]) ?_
      refine Ev.neg (by omega) ?_
      refine Ev.cast (Ev.now _) ?_
      by_cases c : (ls.length : Int) = 4 <;> simp [c]
    | succ d ih =>
      intro n hn
      have hnl : n < ls.length := by omega
      have h := ih (n + 1) (by omega)
      have e1 : wrap64 ((n : Int) + 1) = ((n + 1 : Nat) : Int) := by rw [w64 (by omega) (by omega)]; omega
      rw [drop_cons ls n hnl 0, List.all_cons]
      refine Ev.round (fun _ => by rw [spec_IsMarked.l0]) ?_
      refine Ev.pos (by omega) ?_
      refine Ev.pos (by omega) ?_
      refine Ev.bind (sCaptures_ev _) ?_
      rw [rd_nat]
      refine sMarked_l1 (n : Int) _ (pCaptures_length _) a0 l1 l2 l3 cs ls a6 hc _ 0 (Nat.zero_add _) _ ?_ ?_
      · intro hp
        rw [List.drop_zero] at hp
        have hp' : pLabelOk cs (ls.getD n 0) = true := hp
        rw [hp', Bool.true_and, e1]
        exact h
      · intro hp
        rw [List.drop_zero] at hp
        have hp' : pLabelOk cs (ls.getD n 0) = false := hp
        rw [hp', Bool.false_and, Bool.false_and]
  exact key ls.length 0 (by omega)
theorem InRange_eq (a b c : Int) : impl_InRange.f a b c = some (decide (b ≤ a) && decide (a ≤ c)) := by
  unfold impl_InRange.f
  by_cases h : b ≤ a <;> simp [h]
theorem iCapturesIn_ev (n : Nat) (hn : n ≤ 1048575) : Ev (fun k => impl_CapturesIn.f k (n : Int)) (caps n 20) := by
  unfold impl_CapturesIn.f
  refine Ev.now_bind (InRange_eq _ _ _) ?_
  refine Ev.pos (by simp; omega) ?_
  have main := ev_down (fun k i => impl_CapturesIn.l0 k (n : Int) (caps n i) (i : Int)) 20 (fun _ => caps n 20)
    (Ev.round (fun _ => by rw [impl_CapturesIn.l0]) (Ev.neg (by omega) (Ev.now _)))
    (fun i hi h => ?_)
  · simpa [caps] using main
  have hlen := caps_length n i
  have hdiv : n / 2 ^ i ≤ n := Nat.div_le_self _ _
  have e3 : Go.bits .and .i64 (shr .i64 (n : Int) (i : Int)) 1 = ((n / 2 ^ i % 2 : Nat) : Int) := by
    rw [shr_nat _ _ (by omega), bit_nat _ (by omega)]
  have e1 : wrap64 ((i : Int) + 1) = ((i + 1 : Nat) : Int) := by rw [w64 (by omega) (by omega)]; omega
  rw [caps_succ] at h
  refine Ev.round (fun _ => by rw [impl_CapturesIn.l0]) ?_
  refine Ev.pos (by omega) ?_
  refine Ev.pos (by omega) ?_
  by_cases hb : n / 2 ^ i % 2 = 1
  · rw [if_pos hb] at h
    refine Ev.pos (by rw [e3]; omega) ?_
    refine Ev.pos (by omega) ?_
    simp only [e1]
    exact h
  · rw [if_neg hb] at h
    refine Ev.neg (by rw [e3]; omega) ?_
    simp only [e1]
    exact h
theorem iCapturesIn_no (a : Int) (h : ¬ (0 ≤ a ∧ a ≤ 1048575)) : Ev (fun k => impl_CapturesIn.f k a) [] := by
  unfold impl_CapturesIn.f
  refine Ev.now_bind (InRange_eq _ _ _) ?_
  refine Ev.neg (by simp; omega) ?_
  exact Ev.now _
theorem iCaptures_ev (a : Int) : Ev (fun k => impl_CapturesIn.f k a) (pCaptures a) := by
  unfold pCaptures
  by_cases h : 0 ≤ a ∧ a ≤ 1048575
  · obtain ⟨n, rfl⟩ := Int.eq_ofNat_of_zero_le h.1
    rw [if_pos h]
    exact iCapturesIn_ev n (by omega)
  · rw [if_neg h]
    exact iCapturesIn_no a h
theorem chosenAt_eq (cs : List S121) (i : Int) (h : (Lit.int .i64 i).wf = true) : impl_chosenAt.f cs i = some (if pChosen cs i = true then 1 else 0) := by
  unfold impl_chosenAt.f pChosen
  rw [if_pos h]
theorem iMarked_ev (a0 : Int) (l1 l2 l3 : List Int) (cs : List S121) (ls : List Int) (a6 : Int) (hc : cs.length ≤ 1048576) (hw : ∀ y ∈ cs, (Lit.int .i64 y.f1).wf = true) : Ev (fun k => impl_IsMarked.f k a0 l1 l2 l3 cs ls a6) (pMarked cs ls) := by
  unfold impl_IsMarked.f
  refine Ev.pos ⟨by omega, hw⟩ ?_
  unfold pMarked
  by_cases c4 : (ls.length : Int) = 4
  · rw [decide_eq_true c4, Bool.and_true]
    refine Ev.pos c4 ?_
    have key2 : ∀ (n : Nat) (x4 : List Int), (∀ x ∈ x4, (Lit.int .i64 x).wf = true) → x4.length ≤ 20 → ∀ d i : Nat, i + d = x4.length → ∀ r : Bool, ((x4.drop i).all (pChosen cs) = true → Ev (fun k => impl_IsMarked.l1 k cs ls (ls.length : Int) (wrap64 ((n : Int) + 1))) r) → ((x4.drop i).all (pChosen cs) = false → r = false) → Ev (fun k => impl_IsMarked.l2 k cs ls (ls.length : Int) (n : Int) x4 (x4.length : Int) (i : Int)) r := by
      intro n x4 hwx hx d
      induction d with
      | zero =>
        intro i hi r h1 h2
        obtain rfl : i = x4.length := by omega
        rw [List.drop_length, List.all_nil] at h1
        refine Ev.round (fun _ => by rw [impl_IsMarked.l2]) ?_
        exact Ev.neg (by omega) (h1 rfl)
      | succ d ih =>
        intro i hi r h1 h2
        have hil : i < x4.length := by omega
        have e1 : wrap64 ((i : Int) + 1) = ((i + 1 : Nat) : Int) := by rw [w64 (by omega) (by omega)]; omega
        rw [drop_cons x4 i hil 0, List.all_cons] at h1 h2
        have hx0 : (Lit.int .i64 (x4.getD i 0)).wf = true := hwx _ (getD_mem x4 i hil 0)
        refine Ev.round (fun _ => by rw [impl_IsMarked.l2]) ?_
        refine Ev.pos (by omega) ?_
        refine Ev.pos (by omega) ?_
        refine Ev.pos (by omega) ?_
        rw [rd_nat]
        refine Ev.now_bind (chosenAt_eq cs _ hx0) ?_
        cases hp : pChosen cs (x4.getD i 0) with
        | true =>
          rw [hp, Bool.true_and] at h1 h2
          refine Ev.neg (by simp) ?_
          simp only [e1]
          exact ih (i + 1) (by omega) r h1 h2
        | false =>
          rw [hp, Bool.false_and] at h2
          rw [h2 rfl]
          exact Ev.pos (by simp) (Ev.now _)
    have key1 : ∀ d n : Nat, n + d = ls.length → Ev (fun k => impl_IsMarked.l1 k cs ls (ls.length : Int) (n : Int)) ((ls.drop n).all (pLabelOk cs)) := by
      intro d
      induction d with
      | zero =>
        intro n hn
        obtain rfl : n = ls.length := by omega
        rw [List.drop_length, List.all_nil]
        refine Ev.round (fun _ => by rw [impl_IsMarked.l1]) ?_
        exact Ev.neg (by omega) (Ev.now _)
      | succ d ih =>
        intro n hn
        have hnl : n < ls.length := by omega
        have h := ih (n + 1) (by omega)
        have e1 : wrap64 ((n : Int) + 1) = ((n + 1 : Nat) : Int) := by rw [w64 (by omega) (by omega)]; omega
        rw [drop_cons ls n hnl 0, List.all_cons]
        refine Ev.round (fun _ => by rw [impl_IsMarked.l1]) ?_
        refine Ev.pos (by omega) ?_
        refine Ev.pos (by omega) ?_
        refine Ev.pos (by omega) ?_
        refine Ev.bind (iCaptures_ev _) ?_
        rw [rd_nat]
        refine key2 n _ (fun x hx => pCaptures_wf _ x hx) (pCaptures_length _) _ 0 (Nat.zero_add _) _ ?_ ?_
        · intro hp
          rw [List.drop_zero] at hp
          have hp' : pLabelOk cs (ls.getD n 0) = true := hp
          rw [hp', Bool.true_and, e1]
          exact h
        · intro hp
          rw [List.drop_zero] at hp
          have hp' : pLabelOk cs (ls.getD n 0) = false := hp
          rw [hp', Bool.false_and]
    have key0 : ∀ d j : Nat, j + d = cs.length → Ev (fun k => impl_IsMarked.l0 k cs (cs.length : Int) (j : Int) a0 l1 l2 l3 cs ls a6) (ls.all (pLabelOk cs)) := by
      intro d
      induction d with
      | zero =>
        intro j hj
        obtain rfl : j = cs.length := by omega
        refine Ev.round (fun _ => by rw [impl_IsMarked.l0]) ?_
        exact Ev.neg (by omega) (key1 ls.length 0 (by omega))
      | succ d ih =>
        intro j hj
        have h := ih (j + 1) (by omega)
        have e1 : wrap64 ((j : Int) + 1) = ((j + 1 : Nat) : Int) := by rw [w64 (by omega) (by omega)]; omega
        refine Ev.round (fun _ => by rw [impl_IsMarked.l0]) ?_
        refine Ev.pos (by omega) ?_
        refine Ev.pos (by omega) ?_
        refine Ev.pos (by omega) ?_
        simp only [e1]
        exact h
    exact key0 cs.length 0 (by omega)
  · rw [decide_eq_false c4, Bool.and_false]
    exact Ev.neg c4 (Ev.now _)
theorem FnExactIsMarked (a0_0 : Int) (l0_1 : List Int) (l0_2 : List Int) (l0_3 : List Int) (l0_4 : List S152) (l0_5 : List Int) (a0_6 : Int) (h0 : (Lit.int .i64 a0_0).wf = true) (h1 : (l0_1.length ≤ maxLen ∧ ∀ e_ ∈ l0_1, (Lit.int .i64 e_).wf = true)) (h2 : (l0_2.length ≤ maxLen ∧ ∀ e_ ∈ l0_2, (Lit.int .i64 e_).wf = true)) (h3 : (l0_3.length ≤ maxLen ∧ ∀ e_ ∈ l0_3, (Lit.int .i64 e_).wf = true)) (h4 : (l0_4.length ≤ maxLen ∧ ∀ e_ ∈ l0_4, W152 e_)) (h5 : (l0_5.length ≤ maxLen ∧ ∀ e_ ∈ l0_5, (Lit.int .i64 e_).wf = true)) (h6 : (Lit.int .i64 a0_6).wf = true) : ∃ k, laws_FnExactIsMarked.f k a0_0 l0_1 l0_2 l0_3 l0_4 l0_5 a0_6 = some true := by
  obtain ⟨r, e, b, g⟩ := szWander_some a0_0 l0_1 l0_2 l0_3 l0_4 l0_5 a0_6 1048576 h1.1 h2.1 h3.1 h4.1 h5.1 (by omega) (by omega)
  refine Ev.rounds ?_
  unfold laws_FnExactIsMarked.f
  refine Ev.now_bind e ?_
  by_cases c : r < 0
  · exact Ev.pos c (Ev.now _)
  obtain ⟨g1, g2, g3, g4, g5⟩ := g (by omega)
  have hm : (l0_4.map cvChoice).length ≤ 1048576 := by simpa using g4
  have hw : ∀ y ∈ l0_4.map cvChoice, (Lit.int .i64 y.f1).wf = true := by
    intro y hy
    obtain ⟨z, hz, rfl⟩ := List.mem_map.1 hy
    exact (h4.2 z hz).2
  have t := toWander_ev a0_0 l0_1 l0_2 l0_3 l0_4 l0_5 a0_6 g1 g2 g3 g4 g5
  refine Ev.neg c ?_
  refine Ev.bind t ?_
  refine Ev.bind (sMarked_ev _ _ _ _ _ _ _ hm g5) ?_
  refine Ev.bind t ?_
  refine Ev.bind (iMarked_ev _ _ _ _ _ _ _ hm hw) ?_
  refine Ev.neg (by simp) ?_
  refine Ev.bind t ?_
  refine Ev.bind (eqWander_refl _ _ _ _ _ _ _ g1 g2 g3 hm g5) ?_
  refine Ev.pos rfl ?_
  exact Ev.now _
end Go.Proofs.Ytdpkidjddlnafaa.Pure
