/- The program's AddCaptures and the reference's return the same captures and the same answer; what is returned is new memory, and the arguments are as they were. No condition. -/
import Derived.Test.YtmcfdpodoebokaaMFnExactAddCapturesx90
import Derived.Test.YtmcfdpodoebokaaStdFnExactAddCaptures
namespace Go.Proofs.Ytmcfdpodoebokaa.Pure
open Go.RowKit Go.Proofs.Ytmcfdpodoebokaa.MFnExactAddCaptures Go.Proofs.YtmcfdpodoebokaaW.PrintWords Go.Proofs.YtmcfdpodoebokaaW.PrintLast Go.Proofs.YtmcfdpodoebokaaW.PrintMore Go.Proofs.Ytmcfdpodoebokaa.Gen
set_option linter.unusedVariables false
set_option linter.unusedSimpArgs false

def W33 (y : S33) : Prop := (Lit.int .i64 y.f0).wf = true ∧ (Lit.int .i64 y.f1).wf = true ∧ (Lit.int .i64 y.f2).wf = true
def W36 (y : S36) : Prop := (Lit.int .i64 y.f0).wf = true ∧ (y.f1.length ≤ maxLen ∧ ∀ e_ ∈ y.f1, (Lit.int .i64 e_).wf = true) ∧ W33 y.f2
def W38 (y : S38) : Prop := W33 y.f0 ∧ (Lit.int .i64 y.f1).wf = true ∧ W36 y.f2
theorem l5Copy_eq (k : Int) (b : List Int) (h p q : Int) (hb : b.length ≤ 1048576) : spec_l5Copy.f k b h p q = some (k, b, h, p, q) := by
  simp only [spec_l5Copy.f, Option.bind_some, List.nil_append, List.length_nil]
  rw [if_pos (by omega)]
theorem l15Copy_ev (l : List S45) (h : l.length ≤ 1048576) (hf : ∀ y ∈ l, FitimplCapture y) : Ev (fun k => spec_l15Copy.f k l) l := by
  unfold spec_l15Copy.f
  have key : ∀ d i : Nat, i + d = l.length → Ev (fun k => spec_l15Copy.l0 k l (l.take i) (i : Int)) l := by
    intro d
    induction d with
    | zero =>
      intro i hi
      refine Ev.round (fun _ => by rw [spec_l15Copy.l0]) ?_
      refine Ev.neg (by omega) ?_
      rw [List.take_of_length_le (by omega)]
      exact Ev.now _
    | succ d ih =>
      intro i hi
      have hil : i < l.length := by omega
      have e1 : wrap64 ((i : Int) + 1) = ((i + 1 : Nat) : Int) := by rw [w64 (by omega) (by omega)]; omega
      have hfit : (rd_T45 l (i : Int)).f2.f1.length ≤ 1048576 := hf _ (getD_mem l i hil z45)
      have hn := ih (i + 1) (by omega)
      have et : l.take (i + 1) = l.take i ++ [rd_T45 l (i : Int)] := by
        rw [List.take_succ_eq_append_getElem hil]
        show _ = l.take i ++ [l.getD ((i : Int)).toNat z45]
        rw [Int.toNat_natCast, getD_in l i hil]
      rw [et] at hn
      refine Ev.round (fun _ => by rw [spec_l15Copy.l0]) ?_
      refine Ev.pos (by omega) ?_
      refine Ev.pos (by omega) ?_
      refine Ev.now_bind (l5Copy_eq _ _ _ _ _ hfit) ?_
      refine Ev.pos (by rw [List.length_take]; omega) ?_
      simp only [e1]
      exact hn
  exact key l.length 0 (by omega)
theorem sEqualInts_ev (a b : List Int) (h : a.length ≤ 1048576) : Ev (fun k => spec_EqualInts.f k a b) (decide (a = b)) := by
  unfold spec_EqualInts.f
  by_cases hl : a.length = b.length
  · refine Ev.pos (by omega) ?_
    rw [← zip_all_eq a b hl]
    refine ev_all2 (fun k i => spec_EqualInts.l0 k a b i) a b 0 (fun x y => decide (x = y)) hl (fun k => by rw [spec_EqualInts.l0, if_neg (by omega)]) ?_ ?_
    · intro i hi hp r hr
      have e1 : wrap64 ((i : Int) + 1) = ((i + 1 : Nat) : Int) := by rw [w64 (by omega) (by omega)]; omega
      refine Ev.round (fun _ => by rw [spec_EqualInts.l0]) ?_
      refine Ev.pos (by omega) ?_
      refine Ev.pos (by omega) ?_
      refine Ev.pos (by omega) ?_
      refine Ev.pos ?_ ?_
      · rw [rd_nat, rd_nat]; exact of_decide_eq_true hp
      · simp only [e1]; exact hr
    · intro i hi hp
      refine Ev.round (fun _ => by rw [spec_EqualInts.l0]) ?_
      refine Ev.pos (by omega) ?_
      refine Ev.pos (by omega) ?_
      refine Ev.pos (by omega) ?_
      refine Ev.neg ?_ (Ev.now _)
      rw [rd_nat, rd_nat]; exact of_decide_eq_false hp
  · have hne : a ≠ b := fun e => hl (by rw [e])
    rw [decide_eq_false hne]
    exact Ev.neg (by omega) (Ev.now _)
abbrev pEqAddr (h p q h' p' q' : Int) : Bool := h == h' && (p == p' && (q == q'))
def pEqRes (k : Int) (b : List Int) (h p q : Int) (k' : Int) (b' : List Int) (h' p' q' : Int) : Bool := decide (k = k') && (pEqAddr h p q h' p' q' && decide (b = b'))
theorem sEqualResources_ev (k : Int) (b : List Int) (h p q : Int) (k' : Int) (b' : List Int) (h' p' q' : Int) (hb : b.length ≤ 1048576) : Ev (fun n => spec_EqualResources.f n k b h p q k' b' h' p' q') (pEqRes k b h p q k' b' h' p' q') := by
  unfold spec_EqualResources.f pEqRes
  exact Ev.if_and fun _ => Ev.ifb_and fun _ => Ev.id (sEqualInts_ev b b' hb)
def pSame (x y : S45) : Bool := pEqAddr x.f0.f0 x.f0.f1 x.f0.f2 y.f0.f0 y.f0.f1 y.f0.f2 && (decide (x.f1 = y.f1) && pEqRes x.f2.f0 x.f2.f1 x.f2.f2.f0 x.f2.f2.f1 x.f2.f2.f2 y.f2.f0 y.f2.f1 y.f2.f2.f0 y.f2.f2.f1 y.f2.f2.f2)
def pEqCaptures (a b : List S45) : Bool := decide ((a.length : Int) = (b.length : Int)) && (a.zip b).all fun q => pSame q.1 q.2
theorem sSame_ev (x y : S45) (hf : FitimplCapture x) : Ev (fun n => spec_l15Same.f n x.f0.f0 x.f0.f1 x.f0.f2 x.f1 x.f2.f0 x.f2.f1 x.f2.f2.f0 x.f2.f2.f1 x.f2.f2.f2 y.f0.f0 y.f0.f1 y.f0.f2 y.f1 y.f2.f0 y.f2.f1 y.f2.f2.f0 y.f2.f2.f1 y.f2.f2.f2) (pSame x y) := by
  unfold spec_l15Same.f pSame
  exact Ev.ifb_and fun _ => Ev.if_and fun _ => Ev.id (sEqualResources_ev _ _ _ _ _ _ _ _ _ _ hf)
theorem l1In_eq (a b c : Int) : spec_l1In.f a b c = some (decide (b ≤ a) && decide (a ≤ c)) := by
  unfold spec_l1In.f
  by_cases h : b ≤ a <;> simp [h]
theorem sIsAddress_eq (h p q : Int) : spec_IsAddress.f h p q = some (pAddr h p q) := by
  simp only [spec_IsAddress.f, l1In_eq, Option.bind_some, some_and]
theorem l5Bytes_ev (l : List Int) (h : l.length ≤ 1048576) : Ev (fun k => spec_l5Bytes.f k l) (l.all (pIn · 0 255)) := by
  unfold spec_l5Bytes.f
  refine Ev.cast (ev_all (fun k i => spec_l5Bytes.l0 k l i) l 0 (pIn · 0 255) true (fun k => by rw [spec_l5Bytes.l0, if_neg (by omega)]) ?_ ?_) (Bool.and_true _)
  · intro i hi hp r hr
    have e1 : wrap64 ((i : Int) + 1) = ((i + 1 : Nat) : Int) := by rw [w64 (by omega) (by omega)]; omega
    refine Ev.round (fun _ => by rw [spec_l5Bytes.l0]) ?_
    refine Ev.pos (by omega) ?_
    refine Ev.pos (by omega) ?_
    refine Ev.now_bind (l1In_eq _ _ _) ?_
    refine Ev.pos ?_ ?_
    · rw [rd_nat]; exact hp
    · simp only [e1]; exact hr
  · intro i hi hp
    refine Ev.round (fun _ => by rw [spec_l5Bytes.l0]) ?_
    refine Ev.pos (by omega) ?_
    refine Ev.pos (by omega) ?_
    refine Ev.now_bind (l1In_eq _ _ _) ?_
    refine Ev.neg ?_ (Ev.now _)
    rw [rd_nat]; exact ne_true_of_eq_false hp
def pRes (k : Int) (b : List Int) (h p q : Int) : Bool :=
  if k = 1 ∨ k = 2 then decide ((b.length : Int) ≤ 6) && (b.all (pIn · 0 255) && pZero h p q)
  else if k = 3 then decide ((b.length : Int) = 0) && pAddr h p q
  else if k = 4 then decide ((b.length : Int) = 0) && pZero h p q
  else false
theorem sIsResource_ev (k : Int) (b : List Int) (h p q : Int) (hb : b.length ≤ 1048576) : Ev (fun n => spec_IsResource.f n k b h p q) (pRes k b h p q) := by
  have hj : ∀ x : Bool, Ev (fun n => spec_IsResource.j0 n x k b h p q) (!x && (if k = 3 then pAddr h p q && ((b.length : Int) == 0) else (pZero h p q && (if k = 4 then ((b.length : Int) == 0) else true)))) := by
    intro x
    refine Ev.round (fun _ => by rw [spec_IsResource.j0]) ?_
    cases x with
    | true => exact Ev.pos rfl (Ev.now _)
    | false =>
      refine Ev.neg (by simp) ?_
      by_cases h3 : k = 3
      · refine Ev.pos h3 ?_
        simp only [h3, if_true, Bool.not_false, Bool.true_and]
        exact Ev.now_and (sIsAddress_eq _ _ _) fun _ => Ev.now _
      · refine Ev.neg h3 ?_
        simp only [h3, if_false, Bool.not_false, Bool.true_and]
        by_cases hz : pZero h p q = true
        · refine Ev.pos hz ?_
          by_cases h4 : k = 4
          · refine Ev.pos h4 ?_
            exact Ev.cast (Ev.now _) (by simp [h4, hz])
          · refine Ev.neg h4 ?_
            exact Ev.cast (Ev.now _) (by simp [h4, hz])
        · refine Ev.neg hz ?_
          exact Ev.cast (Ev.now _) (by simp [hz])
  unfold spec_IsResource.f
  refine Ev.now_bind (l1In_eq _ _ _) ?_
  by_cases hk : 1 ≤ k ∧ k ≤ 4
  · refine Ev.pos (by simp [hk]) ?_
    refine Ev.bind (l5Bytes_ev b hb) ?_
    have hcases : k = 1 ∨ k = 2 ∨ k = 3 ∨ k = 4 := by omega
    cases hall : b.all (pIn · 0 255) with
    | true =>
      refine Ev.pos rfl ?_
      refine Ev.cast (hj _) ?_
      unfold pRes
      have h6 : decide ((b.length : Int) > 6) = !decide ((b.length : Int) ≤ 6) := by
        by_cases c : (b.length : Int) ≤ 6
        · have : ¬ (b.length : Int) > 6 := by omega
          simp [c, this]
        · have : (b.length : Int) > 6 := by omega
          simp [c, this]
      rw [h6]
      rcases hcases with rfl | rfl | rfl | rfl
      · simp [hall]
      · simp [hall]
      · by_cases c : b.length = 0
        · have hn : b = [] := List.eq_nil_of_length_eq_zero c
          subst hn
          simp
        · simp [c]
      · by_cases c : b.length = 0
        · have hn : b = [] := List.eq_nil_of_length_eq_zero c
          subst hn
          simp
        · simp [c]
    | false =>
      refine Ev.neg (by simp) ?_
      refine Ev.cast (hj true) ?_
      unfold pRes
      have hne : b ≠ [] := by
        rintro rfl
        simp at hall
      have h0 : ¬ b.length = 0 := fun e => hne (List.eq_nil_of_length_eq_zero e)
      rcases hcases with rfl | rfl | rfl | rfl
      · simp [hall]
      · simp [hall]
      · simp [h0]
      · simp [h0]
  · refine Ev.neg (by simp; omega) ?_
    refine Ev.cast (hj true) ?_
    have hp : pRes k b h p q = false := by
      unfold pRes
      rw [if_neg (by omega), if_neg (by omega), if_neg (by omega)]
    rw [hp]
    simp
def pCapture (y : S45) : Bool := pAddr y.f0.f0 y.f0.f1 y.f0.f2 && (pIn y.f1 0 2000 && pRes y.f2.f0 y.f2.f1 y.f2.f2.f0 y.f2.f2.f1 y.f2.f2.f2)
def pAreCaptures (l : List S45) : Bool := l.all pCapture && decide ((l.length : Int) ≤ 20)
theorem sAreCaptures_ev (l : List S45) (h : l.length ≤ 1048576) (hf : ∀ y ∈ l, FitimplCapture y) : Ev (fun k => spec_AreCaptures.f k l) (pAreCaptures l) := by
  unfold spec_AreCaptures.f pAreCaptures
  refine ev_all (fun k i => spec_AreCaptures.l0 k l i) l z45 pCapture _ (fun k => by rw [spec_AreCaptures.l0, if_neg (by omega)]) ?_ ?_
  · intro i hi hp r hr
    have e1 : wrap64 ((i : Int) + 1) = ((i + 1 : Nat) : Int) := by rw [w64 (by omega) (by omega)]; omega
    have hp' : pCapture (rd_T45 l (i : Int)) = true := hp
    have hfy : FitimplCapture (rd_T45 l (i : Int)) := hf _ (getD_mem l i hi z45)
    generalize hy : rd_T45 l (i : Int) = y at hp' hfy
    unfold pCapture at hp'
    simp only [Bool.and_eq_true] at hp'
    obtain ⟨p1, p2, p3⟩ := hp'
    refine Ev.round (fun _ => by rw [spec_AreCaptures.l0]) ?_
    refine Ev.pos (by omega) ?_
    refine Ev.pos (by omega) ?_
    simp only [hy, e1]
    refine Ev.now_bind (sIsAddress_eq _ _ _) ?_
    refine Ev.pos (by simp [p1]) ?_
    refine Ev.now_bind (l1In_eq _ _ _) ?_
    refine Ev.pos (by simp [p2]) ?_
    refine Ev.bind (sIsResource_ev _ _ _ _ _ hfy) ?_
    exact Ev.pos p3 hr
  · intro i hi hp
    have hp' : pCapture (rd_T45 l (i : Int)) = false := hp
    have hfy : FitimplCapture (rd_T45 l (i : Int)) := hf _ (getD_mem l i hi z45)
    generalize hy : rd_T45 l (i : Int) = y at hp' hfy
    unfold pCapture at hp'
    refine Ev.round (fun _ => by rw [spec_AreCaptures.l0]) ?_
    refine Ev.pos (by omega) ?_
    refine Ev.pos (by omega) ?_
    simp only [hy]
    refine Ev.now_bind (sIsAddress_eq _ _ _) ?_
    cases p1 : pAddr y.f0.f0 y.f0.f1 y.f0.f2 with
    | false => exact Ev.neg (by simp) (Ev.now _)
    | true =>
      rw [p1, Bool.true_and] at hp'
      refine Ev.pos rfl ?_
      refine Ev.now_bind (l1In_eq _ _ _) ?_
      cases p2 : pIn y.f1 0 2000 with
      | false => exact Ev.neg (ne_true_of_eq_false p2) (Ev.now _)
      | true =>
        rw [p2, Bool.true_and] at hp'
        refine Ev.pos p2 ?_
        refine Ev.bind (sIsResource_ev _ _ _ _ _ hfy) ?_
        refine Ev.neg (ne_true_of_eq_false hp') ?_
        exact Ev.now _
def capIn (out : List S45) (y : S45) : Bool := out.any fun z => pSame z y
def pAddStep (out : List S45) (y : S45) : List S45 := if capIn out y = true then out else out ++ [y]
def pAdd (a b : List S45) : List S45 × Bool := if pAreCaptures (b.foldl pAddStep a) = true then (b.foldl pAddStep a, true) else (a, false)
theorem pAddStep_fit {out : List S45} {y : S45} (h : ∀ z ∈ out, FitimplCapture z) (hy : FitimplCapture y) : ∀ z ∈ pAddStep out y, FitimplCapture z := by
  unfold pAddStep
  split
  · exact h
  · intro z hz
    rcases List.mem_append.1 hz with h1 | h1
    · exact h z h1
    · rw [List.mem_singleton] at h1
      rw [h1]
      exact hy
theorem pAddStep_len (out : List S45) (y : S45) : out.length ≤ (pAddStep out y).length ∧ (pAddStep out y).length ≤ out.length + 1 := by
  unfold pAddStep
  split
  · omega
  · rw [List.length_append, List.length_singleton]
    omega
theorem pAdd_fit (a b : List S45) (ha : ∀ z ∈ a, FitimplCapture z) (hb : ∀ z ∈ b, FitimplCapture z) : (∀ z ∈ (pAdd a b).1, FitimplCapture z) ∧ (pAdd a b).1.length ≤ a.length + b.length := by
  have key : ∀ (b a : List S45), (∀ z ∈ a, FitimplCapture z) → (∀ z ∈ b, FitimplCapture z) → (∀ z ∈ b.foldl pAddStep a, FitimplCapture z) ∧ (b.foldl pAddStep a).length ≤ a.length + b.length := by
    intro b
    induction b with
    | nil => intro a ha _; exact ⟨ha, by simp⟩
    | cons y b ih =>
      intro a ha hb
      rw [List.foldl_cons, List.length_cons]
      have h1 := ih (pAddStep a y) (pAddStep_fit ha (hb y (List.mem_cons_self ..))) (fun z hz => hb z (List.mem_cons_of_mem _ hz))
      have h2 := pAddStep_len a y
      exact ⟨h1.1, by omega⟩
  unfold pAdd
  split
  · exact key b a ha hb
  · exact ⟨ha, by dsimp only; omega⟩
theorem sAdd_ev (a b : List S45) (h : a.length + b.length ≤ 1048576) (ha : ∀ z ∈ a, FitimplCapture z) (hb : ∀ z ∈ b, FitimplCapture z) : Ev (fun k => spec_AddCaptures.f k a b) (pAdd a b) := by
  unfold spec_AddCaptures.f
  refine Ev.bind (l15Copy_ev a (by omega) ha) ?_
  refine ev_foldl (fun k out i => spec_AddCaptures.l0 k a b out i) b z45 pAddStep (fun out => if pAreCaptures out = true then (out, true) else (a, false)) (fun i out => out.length ≤ a.length + i ∧ ∀ z ∈ out, FitimplCapture z) a ⟨by omega, ha⟩ ?_ ?_
  · intro out hout
    refine Ev.round (fun _ => by rw [spec_AddCaptures.l0]) ?_
    refine Ev.neg (by omega) ?_
    refine Ev.bind (sAreCaptures_ev out (by omega) hout.2) ?_
    refine Ev.ite (fun _ => Ev.now _) (fun _ => ?_)
    exact Ev.bind (l15Copy_ev a (by omega) ha) (Ev.now _)
  · intro i out hi hout
    have hy : FitimplCapture (b.getD i z45) := hb _ (getD_mem b i hi z45)
    have hlen := pAddStep_len out (b.getD i z45)
    refine ⟨⟨by omega, pAddStep_fit hout.2 hy⟩, fun r hr => ?_⟩
    have e0 : wrap64 ((i : Int) + 1) = ((i + 1 : Nat) : Int) := by rw [w64 (by omega) (by omega)]; omega
    refine Ev.round (fun _ => by rw [spec_AddCaptures.l0]) ?_
    refine Ev.pos (by omega) ?_
    have tail : ∀ t : Bool, (t = capIn out (b.getD i z45)) → Ev (fun k => spec_AddCaptures.l1 k a b out (i : Int) t (out.length : Int)) r := by
      intro t ht
      refine Ev.round (fun _ => by rw [spec_AddCaptures.l1]) ?_
      refine Ev.neg (by omega) ?_
      cases t with
      | true =>
        refine Ev.pos rfl ?_
        simp only [e0]
        have e : pAddStep out (b.getD i z45) = out := by unfold pAddStep; rw [if_pos ht.symm]
        rw [e] at hr
        exact hr
      | false =>
        have e : pAddStep out (b.getD i z45) = out ++ [b.getD i z45] := by unfold pAddStep; rw [if_neg (by rw [← ht]; simp)]
        rw [e] at hr
        have es : (b.take (i + 1)).drop i = [b.getD i z45] := by
          rw [List.take_succ_eq_append_getElem hi, List.drop_append_of_le_length (by rw [List.length_take]; omega), List.drop_eq_nil_of_le (by rw [List.length_take]; omega), getD_in b i hi]
          rfl
        refine Ev.neg (by simp) ?_
        simp only [e0]
        refine Ev.pos (by omega) ?_
        refine Ev.pos (by omega) ?_
        refine Ev.pos (by omega) ?_
        rw [Int.toNat_natCast, Int.toNat_natCast, es]
        refine Ev.bind (l15Copy_ev _ (by simp) (fun z hz => by rw [List.mem_singleton] at hz; rw [hz]; exact hy)) ?_
        exact Ev.pos (by rw [List.length_singleton]; omega) hr
    have seen : ∀ d j : Nat, j + d = out.length → Ev (fun k => spec_AddCaptures.l1 k a b out (i : Int) true (j : Int)) r → Ev (fun k => spec_AddCaptures.l1 k a b out (i : Int) true (j : Int)) r := fun _ _ _ h => h
    have key : ∀ d j : Nat, j + d = out.length → ∀ t : Bool, t = (out.take j).any (fun z => pSame z (b.getD i z45)) → Ev (fun k => spec_AddCaptures.l1 k a b out (i : Int) t (j : Int)) r := by
      intro d
      induction d with
      | zero =>
        intro j hj t ht
        obtain rfl : j = out.length := by omega
        rw [List.take_length] at ht
        exact tail t ht
      | succ d ih =>
        intro j hj t ht
        have hjl : j < out.length := by omega
        have e1 : wrap64 ((j : Int) + 1) = ((j + 1 : Nat) : Int) := by rw [w64 (by omega) (by omega)]; omega
        have et : (out.take (j + 1)).any (fun z => pSame z (b.getD i z45)) = (t || pSame (rd_T45 out (j : Int)) (b.getD i z45)) := by
          rw [List.take_succ_eq_append_getElem hjl, List.any_append, ← ht]
          show _ = (t || pSame (out.getD ((j : Int)).toNat z45) (b.getD i z45))
          rw [Int.toNat_natCast, getD_in out j hjl]
          simp
        refine Ev.round (fun _ => by rw [spec_AddCaptures.l1]) ?_
        refine Ev.pos (by omega) ?_
        cases t with
        | true =>
          refine Ev.pos rfl ?_
          simp only [e1]
          exact ih (j + 1) (by omega) true (by rw [et]; rfl)
        | false =>
          refine Ev.neg (by simp) ?_
          refine Ev.pos (by omega) ?_
          refine Ev.pos (by omega) ?_
          refine Ev.pos (by omega) ?_
          refine Ev.bind (sSame_ev (rd_T45 out (j : Int)) (rd_T45 b (i : Int)) (hout.2 _ (getD_mem out j hjl z45))) ?_
          simp only [e1]
          exact ih (j + 1) (by omega) _ (by rw [et, Bool.false_or]; rfl)
    exact key out.length 0 (by omega) false (by simp)
theorem copyResource_eq (k : Int) (b : List Int) (h p q : Int) (hb : b.length ≤ 1048576) : impl_copyResource.f k b h p q = some (k, b, h, p, q) := by
  simp only [impl_copyResource.f, slices_Clone_int_int.f, Option.bind_some, List.nil_append, List.length_nil]
  rw [if_pos (by omega)]
  rfl
theorem copyCaptures_ev (l : List S45) (h : l.length ≤ 1048576) (hf : ∀ y ∈ l, FitimplCapture y) : Ev (fun k => impl_copyCaptures.f k l) l := by
  unfold impl_copyCaptures.f
  have key : ∀ d i : Nat, i + d = l.length → Ev (fun k => impl_copyCaptures.l0 k (l.take i) l (l.length : Int) (i : Int)) l := by
    intro d
    induction d with
    | zero =>
      intro i hi
      refine Ev.round (fun _ => by rw [impl_copyCaptures.l0]) ?_
      refine Ev.neg (by omega) ?_
      rw [List.take_of_length_le (by omega)]
      exact Ev.now _
    | succ d ih =>
      intro i hi
      have hil : i < l.length := by omega
      have e1 : wrap64 ((i : Int) + 1) = ((i + 1 : Nat) : Int) := by rw [w64 (by omega) (by omega)]; omega
      have hfit : (rd_T45 l (i : Int)).f2.f1.length ≤ 1048576 := hf _ (getD_mem l i hil z45)
      have hn := ih (i + 1) (by omega)
      have et : l.take (i + 1) = l.take i ++ [rd_T45 l (i : Int)] := by
        rw [List.take_succ_eq_append_getElem hil]
        show _ = l.take i ++ [l.getD ((i : Int)).toNat z45]
        rw [Int.toNat_natCast, getD_in l i hil]
      rw [et] at hn
      refine Ev.round (fun _ => by rw [impl_copyCaptures.l0]) ?_
      refine Ev.pos (by omega) ?_
      refine Ev.pos (by omega) ?_
      refine Ev.pos (by omega) ?_
      refine Ev.now_bind (copyResource_eq _ _ _ _ _ hfit) ?_
      refine Ev.pos (by rw [List.length_take]; omega) ?_
      simp only [e1]
      exact hn
  exact key l.length 0 (by omega)
theorem iEqualInts_ev (a b : List Int) (h : a.length ≤ 1048576) : Ev (fun k => slices_Equal_int_int.f k a b) (decide (a = b)) := by
  unfold slices_Equal_int_int.f
  by_cases hl : a.length = b.length
  · refine Ev.pos (by omega) ?_
    rw [← zip_all_eq a b hl]
    refine ev_all2 (fun k i => slices_Equal_int_int.l0 k a b (a.length : Int) i) a b 0 (fun x y => decide (x = y)) hl (fun k => by rw [slices_Equal_int_int.l0, if_neg (by omega)]) ?_ ?_
    · intro i hi hp r hr
      have e1 : wrap64 ((i : Int) + 1) = ((i + 1 : Nat) : Int) := by rw [w64 (by omega) (by omega)]; omega
      refine Ev.round (fun _ => by rw [slices_Equal_int_int.l0]) ?_
      refine Ev.pos (by omega) ?_
      refine Ev.pos (by omega) ?_
      refine Ev.pos (by omega) ?_
      refine Ev.pos (by omega) ?_
      refine Ev.pos ?_ ?_
      · rw [rd_nat, rd_nat]; exact of_decide_eq_true hp
      · simp only [e1]; exact hr
    · intro i hi hp
      refine Ev.round (fun _ => by rw [slices_Equal_int_int.l0]) ?_
      refine Ev.pos (by omega) ?_
      refine Ev.pos (by omega) ?_
      refine Ev.pos (by omega) ?_
      refine Ev.pos (by omega) ?_
      refine Ev.neg ?_ (Ev.now _)
      rw [rd_nat, rd_nat]; exact of_decide_eq_false hp
  · have hne : a ≠ b := fun e => hl (by rw [e])
    rw [decide_eq_false hne]
    exact Ev.neg (by omega) (Ev.now _)
theorem iEqualResources_ev (k : Int) (b : List Int) (h p q : Int) (k' : Int) (b' : List Int) (h' p' q' : Int) (hb : b.length ≤ 1048576) : Ev (fun n => impl_EqualResources.f n k b h p q k' b' h' p' q') (pEqRes k b h p q k' b' h' p' q') := by
  unfold impl_EqualResources.f pEqRes
  exact Ev.if_and fun _ => Ev.ifb_and fun _ => Ev.id (iEqualInts_ev b b' hb)
theorem iSame_ev (x y : S45) (hf : FitimplCapture x) : Ev (fun n => impl_sameCapture.f n x.f0.f0 x.f0.f1 x.f0.f2 x.f1 x.f2.f0 x.f2.f1 x.f2.f2.f0 x.f2.f2.f1 x.f2.f2.f2 y.f0.f0 y.f0.f1 y.f0.f2 y.f1 y.f2.f0 y.f2.f1 y.f2.f2.f0 y.f2.f2.f1 y.f2.f2.f2) (pSame x y) := by
  unfold impl_sameCapture.f pSame
  exact Ev.ifb_and fun _ => Ev.if_and fun _ => Ev.id (iEqualResources_ev _ _ _ _ _ _ _ _ _ _ hf)
theorem hasCapture_ev (out : List S45) (y : S45) (h : out.length ≤ 1048576) (hf : ∀ z ∈ out, FitimplCapture z) : Ev (fun k => impl_hasCapture.f k out y.f0.f0 y.f0.f1 y.f0.f2 y.f1 y.f2.f0 y.f2.f1 y.f2.f2.f0 y.f2.f2.f1 y.f2.f2.f2) (capIn out y) := by
  unfold impl_hasCapture.f
  have hx : ∃ r : Int, Ev (fun k => impl_hasCapture_at.l0 y.f0.f0 y.f0.f1 y.f0.f2 y.f1 y.f2.f0 y.f2.f1 y.f2.f2.f0 y.f2.f2.f1 y.f2.f2.f2 k out (out.length : Int) 0) r ∧ decide (r ≥ 0) = out.any (fun z => pSame z y) := by
    refine ev_find (fun k i => impl_hasCapture_at.l0 y.f0.f0 y.f0.f1 y.f0.f2 y.f1 y.f2.f0 y.f2.f1 y.f2.f2.f0 y.f2.f2.f1 y.f2.f2.f2 k out (out.length : Int) i) out z45 (fun z => pSame z y) (fun k => by rw [impl_hasCapture_at.l0, if_neg (by omega)]) ?_ ?_
    · intro i hi hp
      refine Ev.round (fun _ => by rw [impl_hasCapture_at.l0]) ?_
      refine Ev.pos (by omega) ?_
      refine Ev.pos (by omega) ?_
      refine Ev.pos (by omega) ?_
      unfold impl_hasCapture_lit1.f
      refine Ev.bind (Ev.id (iSame_ev (rd_T45 out (i : Int)) y (hf _ (getD_mem out i hi z45)))) ?_
      exact Ev.pos hp (Ev.now _)
    · intro i hi hp r hr
      have e1 : wrap64 ((i : Int) + 1) = ((i + 1 : Nat) : Int) := by rw [w64 (by omega) (by omega)]; omega
      refine Ev.round (fun _ => by rw [impl_hasCapture_at.l0]) ?_
      refine Ev.pos (by omega) ?_
      refine Ev.pos (by omega) ?_
      refine Ev.pos (by omega) ?_
      unfold impl_hasCapture_lit1.f
      refine Ev.bind (Ev.id (iSame_ev (rd_T45 out (i : Int)) y (hf _ (getD_mem out i hi z45)))) ?_
      refine Ev.neg (ne_true_of_eq_false hp) ?_
      simp only [e1]
      exact hr
  obtain ⟨r, hr, hd⟩ := hx
  unfold capIn
  rw [← hd]
  exact Ev.bind hr (Ev.now _)
theorem InRange_eq (a b c : Int) : impl_InRange.f a b c = some (decide (b ≤ a) && decide (a ≤ c)) := by
  unfold impl_InRange.f
  by_cases h : b ≤ a <;> simp [h]
theorem iIsAddress_eq (h p q : Int) : impl_IsAddress.f h p q = some (pAddr h p q) := by
  simp only [impl_IsAddress.f, InRange_eq, Option.bind_some, some_and]
theorem allIn_ev (l : List Int) (a b : Int) (h : l.length ≤ 1048576) : Ev (fun k => impl_allIn.f k l a b) (l.all (pIn · a b)) := by
  unfold impl_allIn.f
  refine Ev.cast (ev_all (fun k i => impl_allIn.l0 k a b l (l.length : Int) i) l 0 (pIn · a b) true (fun k => by rw [impl_allIn.l0, if_neg (by omega)]) ?_ ?_) (Bool.and_true _)
  · intro i hi hp r hr
    have e1 : wrap64 ((i : Int) + 1) = ((i + 1 : Nat) : Int) := by rw [w64 (by omega) (by omega)]; omega
    refine Ev.round (fun _ => by rw [impl_allIn.l0]) ?_
    refine Ev.pos (by omega) ?_
    refine Ev.pos (by omega) ?_
    refine Ev.pos (by omega) ?_
    refine Ev.now_bind (InRange_eq _ _ _) ?_
    refine Ev.pos ?_ ?_
    · rw [rd_nat]; exact hp
    · simp only [e1]; exact hr
  · intro i hi hp
    refine Ev.round (fun _ => by rw [impl_allIn.l0]) ?_
    refine Ev.pos (by omega) ?_
    refine Ev.pos (by omega) ?_
    refine Ev.pos (by omega) ?_
    refine Ev.now_bind (InRange_eq _ _ _) ?_
    refine Ev.neg ?_ (Ev.now _)
    rw [rd_nat]; exact ne_true_of_eq_false hp
theorem iIsResource_ev (k : Int) (b : List Int) (h p q : Int) (hb : b.length ≤ 1048576) : Ev (fun n => impl_IsResource.f n k b h p q) (pRes k b h p q) := by
  have hj : ∀ x : Bool, (x = true ↔ k = 1 ∨ k = 2) → Ev (fun n => impl_IsResource.j0 n k x k b h p q) (pRes k b h p q) := by
    intro x hx
    refine Ev.round (fun _ => by rw [impl_IsResource.j0]) ?_
    unfold pRes
    cases x with
    | true =>
      refine Ev.rpos (hx.1 rfl) ?_
      refine Ev.pos rfl ?_
      exact Ev.if_and fun _ => Ev.and (allIn_ev b 0 255 hb) fun _ => Ev.now _
    | false =>
      have hno : ¬ (k = 1 ∨ k = 2) := fun c => by simpa using hx.2 c
      refine Ev.rneg hno ?_
      refine Ev.neg (by simp) ?_
      by_cases h3 : k = 3
      · refine Ev.rpos h3 ?_
        refine Ev.pos h3 ?_
        exact Ev.if_and fun _ => Ev.now_bind (iIsAddress_eq _ _ _) (Ev.now _)
      · refine Ev.rneg h3 ?_
        refine Ev.neg h3 ?_
        by_cases h4 : k = 4
        · refine Ev.rpos h4 ?_
          refine Ev.pos h4 ?_
          exact Ev.if_and fun _ => Ev.now _
        · refine Ev.rneg h4 ?_
          refine Ev.neg h4 ?_
          exact Ev.now _
  unfold impl_IsResource.f
  by_cases h1 : k = 1
  · refine Ev.pos h1 (hj _ ?_)
    simp [h1]
  · refine Ev.neg h1 (hj _ ?_)
    simp [h1]
theorem iAreCapturesLit_ev (y : S45) (hf : FitimplCapture y) : Ev (fun k => impl_AreCaptures_lit1.f k y.f0.f0 y.f0.f1 y.f0.f2 y.f1 y.f2.f0 y.f2.f1 y.f2.f2.f0 y.f2.f2.f1 y.f2.f2.f2) (!pCapture y) := by
  unfold impl_AreCaptures_lit1.f pCapture
  refine Ev.now_bind (iIsAddress_eq _ _ _) ?_
  cases p1 : pAddr y.f0.f0 y.f0.f1 y.f0.f2 with
  | false => exact Ev.neg (by simp) (Ev.now _)
  | true =>
    refine Ev.pos rfl ?_
    refine Ev.now_bind (InRange_eq _ _ _) ?_
    cases p2 : pIn y.f1 0 2000 with
    | false => exact Ev.neg (ne_true_of_eq_false p2) (Ev.now _)
    | true =>
      refine Ev.pos p2 ?_
      rw [Bool.true_and, Bool.true_and]
      exact Ev.no (iIsResource_ev _ _ _ _ _ hf)
theorem iAreCaptures_ev (l : List S45) (h : l.length ≤ 1048576) (hf : ∀ y ∈ l, FitimplCapture y) : Ev (fun k => impl_AreCaptures.f k l) (pAreCaptures l) := by
  unfold impl_AreCaptures.f pAreCaptures
  rw [Bool.and_comm]
  refine Ev.if_and fun _ => ?_
  rw [← any_not]
  refine Ev.no ?_
  unfold slices_ContainsFunc_35.f
  have hf : ∃ r : Int, Ev (fun k => slices_IndexFunc_35.l0 k l (l.length : Int) 0) r ∧ decide (r ≥ 0) = l.any (fun y => !pCapture y) := by
    refine ev_find (fun k i => slices_IndexFunc_35.l0 k l (l.length : Int) i) l z45 (fun y => !pCapture y) (fun k => by rw [slices_IndexFunc_35.l0, if_neg (by omega)]) ?_ ?_
    · intro i hi hp
      refine Ev.round (fun _ => by rw [slices_IndexFunc_35.l0]) ?_
      refine Ev.pos (by omega) ?_
      refine Ev.pos (by omega) ?_
      refine Ev.pos (by omega) ?_
      refine Ev.bind (iAreCapturesLit_ev (rd_T45 l (i : Int)) (hf _ (getD_mem l i hi z45))) ?_
      refine Ev.pos hp ?_
      exact Ev.now _
    · intro i hi hp r hr
      have e1 : wrap64 ((i : Int) + 1) = ((i + 1 : Nat) : Int) := by rw [w64 (by omega) (by omega)]; omega
      refine Ev.round (fun _ => by rw [slices_IndexFunc_35.l0]) ?_
      refine Ev.pos (by omega) ?_
      refine Ev.pos (by omega) ?_
      refine Ev.pos (by omega) ?_
      refine Ev.bind (iAreCapturesLit_ev (rd_T45 l (i : Int)) (hf _ (getD_mem l i hi z45))) ?_
      refine Ev.neg (ne_true_of_eq_false hp) ?_
      simp only [e1]
      exact hr
  obtain ⟨r, hr, hd⟩ := hf
  rw [← hd]
  exact Ev.bind hr (Ev.now _)
theorem iAdd_ev (a b : List S45) (h : a.length + b.length ≤ 1048576) (ha : ∀ z ∈ a, FitimplCapture z) (hb : ∀ z ∈ b, FitimplCapture z) : Ev (fun k => impl_AddCaptures.f k a b) (pAdd a b) := by
  unfold impl_AddCaptures.f
  refine Ev.bind (copyCaptures_ev a (by omega) ha) ?_
  refine ev_foldl (fun k out i => impl_AddCaptures.l0 k a out b (b.length : Int) i) b z45 pAddStep (fun out => if pAreCaptures out = true then (out, true) else (a, false)) (fun i out => out.length ≤ a.length + i ∧ ∀ z ∈ out, FitimplCapture z) a ⟨by omega, ha⟩ ?_ ?_
  · intro out hout
    refine Ev.round (fun _ => by rw [impl_AddCaptures.l0]) ?_
    refine Ev.neg (by omega) ?_
    refine Ev.bind (iAreCaptures_ev out (by omega) hout.2) ?_
    refine Ev.ite (fun _ => Ev.now _) (fun _ => ?_)
    exact Ev.bind (copyCaptures_ev a (by omega) ha) (Ev.now _)
  · intro i out hi hout
    have hy : FitimplCapture (b.getD i z45) := hb _ (getD_mem b i hi z45)
    have hlen := pAddStep_len out (b.getD i z45)
    refine ⟨⟨by omega, pAddStep_fit hout.2 hy⟩, fun r hr => ?_⟩
    have e1 : wrap64 ((i : Int) + 1) = ((i + 1 : Nat) : Int) := by rw [w64 (by omega) (by omega)]; omega
    refine Ev.round (fun _ => by rw [impl_AddCaptures.l0]) ?_
    refine Ev.pos (by omega) ?_
    refine Ev.pos (by omega) ?_
    refine Ev.pos (by omega) ?_
    refine Ev.bind (hasCapture_ev out (rd_T45 b (i : Int)) (by omega) hout.2) ?_
    have eg : rd_T45 b (i : Int) = b.getD i z45 := rfl
    by_cases c : capIn out (b.getD i z45) = true
    · refine Ev.pos c ?_
      have e : pAddStep out (b.getD i z45) = out := by unfold pAddStep; rw [if_pos c]
      rw [e] at hr
      simp only [e1]
      exact hr
    · refine Ev.neg c ?_
      have e : pAddStep out (b.getD i z45) = out ++ [b.getD i z45] := by unfold pAddStep; rw [if_neg c]
      rw [e] at hr
      refine Ev.now_bind (copyResource_eq _ _ _ _ _ hy) ?_
      refine Ev.pos (by omega) ?_
      simp only [e1]
      exact hr
theorem now_at {α β : Type} {v v' : β} {g : Nat → β → Option α} {r : α} (h : v = v') (k : Ev (fun n => g n v') r) : Ev (fun n => (some v).bind (g n)) r := by
  subst h
  exact Ev.bind (Ev.now v) k
theorem set_mid {α : Type} (P Q : List α) (e x : α) (i : Nat) (h : P.length = i) : (P ++ e :: Q).set ((i : Int)).toNat x = P ++ x :: Q := by
  subst h
  simp
theorem getD_mid {α : Type} (P Q : List α) (e d : α) (i : Nat) (h : P.length = i) : (P ++ e :: Q).getD ((i : Int)).toNat d = e := by
  subst h
  simp
def bodyFrom (n : Nat) (a : Int) : List Int := (List.range n).map fun j : Nat => a + (j : Int)
def mkC (y : S45) (a : Int) : S45 := ⟨⟨a, a + 1, a + 1 + 1⟩, a + 1 + 1 + 1, ⟨a + 1 + 1 + 1 + 1, bodyFrom y.f2.f1.length (a + 1 + 1 + 1 + 1 + 1), ⟨a + 1 + 1 + 1 + 1 + 1 + (y.f2.f1.length : Int), a + 1 + 1 + 1 + 1 + 1 + (y.f2.f1.length : Int) + 1, a + 1 + 1 + 1 + 1 + 1 + (y.f2.f1.length : Int) + 1 + 1⟩⟩⟩
def nxC (y : S45) (a : Int) : Int := a + 1 + 1 + 1 + 1 + 1 + (y.f2.f1.length : Int) + 1 + 1 + 1
def mkCs : List S45 → Int → List S45
  | [], _ => []
  | y :: l, a => mkC y a :: mkCs l (nxC y a)
def endC : List S45 → Int → Int
  | [], a => a
  | y :: l, a => endC l (nxC y a)
theorem endC_ge : ∀ (l : List S45) (a : Int), a ≤ endC l a := by
  intro l
  induction l with
  | nil => intro a; exact Int.le_refl _
  | cons y l ih =>
    intro a
    have := ih (nxC y a)
    unfold endC
    unfold nxC at this ⊢
    omega
theorem mkCs_length : ∀ (l : List S45) (a : Int), (mkCs l a).length = l.length := by
  intro l
  induction l with
  | nil => intro a; rfl
  | cons y l ih => intro a; unfold mkCs; rw [List.length_cons, List.length_cons, ih]
theorem rdC_mid (P Q : List S45) (e : S45) (i : Nat) (h : P.length = i) : rd_T45 (P ++ e :: Q) (i : Int) = e := getD_mid P Q e _ i h
theorem markC_ev : ∀ (l P : List S45) (i : Nat) (a : Int), P.length = i → (P ++ l).length ≤ 1048576 → (∀ y ∈ l, y.f2.f1.length ≤ 1048576) → 0 ≤ a → endC l a ≤ 1152921504600000000 → Ev (fun k => laws_markCaptureS.l0 k (P ++ l) a (i : Int)) (endC l a, P ++ mkCs l a) := by
  intro l
  induction l with
  | nil =>
    intro P i a hP hl hf h0 h1
    refine Ev.round (fun _ => by rw [laws_markCaptureS.l0]) ?_
    refine Ev.neg (by simp; omega) ?_
    exact Ev.now _
  | cons e l ih =>
    intro P i a hP hl hf h0 h1
    have hn := hf e (List.mem_cons_self ..)
    rw [List.length_append, List.length_cons] at hl
    have hge : nxC e a ≤ endC l (nxC e a) := endC_ge l (nxC e a)
    have h1' : endC l (nxC e a) ≤ 1152921504600000000 := h1
    have hnx : nxC e a = a + 8 + (e.f2.f1.length : Int) := by unfold nxC; omega
    have hb : a + 8 + (e.f2.f1.length : Int) ≤ 1152921504600000000 := by omega
    clear h1 hge
    have w1 : wrap64 (a + 1) = a + 1 := w64 (by omega) (by omega)
    have w2 : wrap64 (a + 1 + 1) = a + 1 + 1 := w64 (by omega) (by omega)
    have w3 : wrap64 (a + 1 + 1 + 1) = a + 1 + 1 + 1 := w64 (by omega) (by omega)
    have w4 : wrap64 (a + 1 + 1 + 1 + 1) = a + 1 + 1 + 1 + 1 := w64 (by omega) (by omega)
    have w5 : wrap64 (a + 1 + 1 + 1 + 1 + 1) = a + 1 + 1 + 1 + 1 + 1 := w64 (by omega) (by omega)
    have w6 : wrap64 (a + 1 + 1 + 1 + 1 + 1 + (e.f2.f1.length : Int) + 1) = a + 1 + 1 + 1 + 1 + 1 + (e.f2.f1.length : Int) + 1 := w64 (by omega) (by omega)
    have w7 : wrap64 (a + 1 + 1 + 1 + 1 + 1 + (e.f2.f1.length : Int) + 1 + 1) = a + 1 + 1 + 1 + 1 + 1 + (e.f2.f1.length : Int) + 1 + 1 := w64 (by omega) (by omega)
    have w8 : wrap64 (a + 1 + 1 + 1 + 1 + 1 + (e.f2.f1.length : Int) + 1 + 1 + 1) = a + 1 + 1 + 1 + 1 + 1 + (e.f2.f1.length : Int) + 1 + 1 + 1 := w64 (by omega) (by omega)
    have e1 : wrap64 ((i : Int) + 1) = ((i + 1 : Nat) : Int) := by rw [w64 (by omega) (by omega)]; omega
    refine Ev.round (fun _ => by rw [laws_markCaptureS.l0]) ?_
    refine Ev.pos (by rw [List.length_append, List.length_cons]; (clear w1 w2 w3 w4 w5 w6 w7 w8 e1; omega)) ?_
    refine Ev.pos (by (clear w1 w2 w3 w4 w5 w6 w7 w8 e1; omega)) ?_
    simp only [w1, w2, w3, w4, w5, e1]
    refine now_at (set_mid P l e _ i hP) ?_
    simp only [rdC_mid _ _ _ _ hP]
    refine now_at (set_mid P l _ _ i hP) ?_
    simp only [rdC_mid _ _ _ _ hP]
    refine now_at (set_mid P l _ _ i hP) ?_
    simp only [rdC_mid _ _ _ _ hP]
    refine now_at (set_mid P l _ _ i hP) ?_
    simp only [rdC_mid _ _ _ _ hP]
    refine now_at (set_mid P l _ _ i hP) ?_
    simp only [rdC_mid _ _ _ _ hP]
    refine Ev.bind (markIntS_ev e.f2.f1 (a + 1 + 1 + 1 + 1 + 1) hn (by (clear w1 w2 w3 w4 w5 w6 w7 w8 e1; omega)) (by (clear w1 w2 w3 w4 w5 w6 w7 w8 e1; omega))) ?_
    dsimp only
    simp only [w6, w7, w8]
    refine now_at (set_mid P l _ _ i hP) ?_
    simp only [rdC_mid _ _ _ _ hP]
    refine now_at (set_mid P l _ _ i hP) ?_
    simp only [rdC_mid _ _ _ _ hP]
    refine now_at (set_mid P l _ _ i hP) ?_
    simp only [rdC_mid _ _ _ _ hP]
    rw [set_mid P l _ _ i hP]
    have h := ih (P ++ [mkC e a]) (i + 1) (nxC e a) (by rw [List.length_append, List.length_singleton, hP]) (by rw [List.length_append, List.length_append, List.length_singleton]; (clear w1 w2 w3 w4 w5 w6 w7 w8 e1; omega)) (fun y hy => hf y (List.mem_cons_of_mem _ hy)) (by (clear w1 w2 w3 w4 w5 w6 w7 w8 e1; omega)) h1'
    rw [List.append_assoc, List.append_assoc] at h
    exact h
theorem heldC_ev : ∀ (l P : List S45) (i : Nat) (a : Int), P.length = i → (P ++ l).length ≤ 1048576 → (∀ y ∈ l, y.f2.f1.length ≤ 1048576) → 0 ≤ a → endC l a ≤ 1152921504600000000 → Ev (fun k => laws_heldCaptureS.l0 k (P ++ mkCs l a) a (i : Int)) (endC l a) := by
  intro l
  induction l with
  | nil =>
    intro P i a hP hl hf h0 h1
    refine Ev.round (fun _ => by rw [laws_heldCaptureS.l0]) ?_
    refine Ev.neg (by unfold mkCs; simp; omega) ?_
    exact Ev.now _
  | cons e l ih =>
    intro P i a hP hl hf h0 h1
    have hn := hf e (List.mem_cons_self ..)
    rw [List.length_append, List.length_cons] at hl
    have hge : nxC e a ≤ endC l (nxC e a) := endC_ge l (nxC e a)
    have h1' : endC l (nxC e a) ≤ 1152921504600000000 := h1
    have hnx : nxC e a = a + 8 + (e.f2.f1.length : Int) := by unfold nxC; omega
    have hb : a + 8 + (e.f2.f1.length : Int) ≤ 1152921504600000000 := by omega
    clear h1 hge
    have w1 : wrap64 (a + 1) = a + 1 := w64 (by omega) (by omega)
    have w2 : wrap64 (a + 1 + 1) = a + 1 + 1 := w64 (by omega) (by omega)
    have w3 : wrap64 (a + 1 + 1 + 1) = a + 1 + 1 + 1 := w64 (by omega) (by omega)
    have w4 : wrap64 (a + 1 + 1 + 1 + 1) = a + 1 + 1 + 1 + 1 := w64 (by omega) (by omega)
    have w5 : wrap64 (a + 1 + 1 + 1 + 1 + 1) = a + 1 + 1 + 1 + 1 + 1 := w64 (by omega) (by omega)
    have w6 : wrap64 (a + 1 + 1 + 1 + 1 + 1 + (e.f2.f1.length : Int) + 1) = a + 1 + 1 + 1 + 1 + 1 + (e.f2.f1.length : Int) + 1 := w64 (by omega) (by omega)
    have w7 : wrap64 (a + 1 + 1 + 1 + 1 + 1 + (e.f2.f1.length : Int) + 1 + 1) = a + 1 + 1 + 1 + 1 + 1 + (e.f2.f1.length : Int) + 1 + 1 := w64 (by omega) (by omega)
    have w8 : wrap64 (a + 1 + 1 + 1 + 1 + 1 + (e.f2.f1.length : Int) + 1 + 1 + 1) = a + 1 + 1 + 1 + 1 + 1 + (e.f2.f1.length : Int) + 1 + 1 + 1 := w64 (by omega) (by omega)
    have e1 : wrap64 ((i : Int) + 1) = ((i + 1 : Nat) : Int) := by rw [w64 (by omega) (by omega)]; omega
    have h := ih (P ++ [mkC e a]) (i + 1) (nxC e a) (by rw [List.length_append, List.length_singleton, hP]) (by rw [List.length_append, List.length_append, List.length_singleton]; (clear w1 w2 w3 w4 w5 w6 w7 w8 e1; omega)) (fun y hy => hf y (List.mem_cons_of_mem _ hy)) (by (clear w1 w2 w3 w4 w5 w6 w7 w8 e1; omega)) h1'
    rw [List.append_assoc] at h
    have hL : (P ++ mkC e a :: mkCs l (nxC e a)).length = P.length + (l.length + 1) := by rw [List.length_append, List.length_cons, mkCs_length]
    unfold mkCs endC
    refine Ev.round (fun _ => by rw [laws_heldCaptureS.l0]) ?_
    refine Ev.pos (by rw [hL]; (clear w1 w2 w3 w4 w5 w6 w7 w8 e1; omega)) ?_
    refine Ev.pos (by (clear w1 w2 w3 w4 w5 w6 w7 w8 e1; omega)) ?_
    simp only [w1, w2, w3, w4, w5, e1, rdC_mid _ _ _ _ hP]
    refine Ev.pos rfl ?_
    refine Ev.pos rfl ?_
    refine Ev.pos rfl ?_
    refine Ev.pos rfl ?_
    refine Ev.pos rfl ?_
    refine Ev.bind (heldIntS_ev e.f2.f1.length (a + 1 + 1 + 1 + 1 + 1) hn (by (clear w1 w2 w3 w4 w5 w6 w7 w8 e1; omega)) (by (clear w1 w2 w3 w4 w5 w6 w7 w8 e1; omega))) ?_
    simp only [w6, w7, w8]
    exact Ev.neg (by (clear w1 w2 w3 w4 w5 w6 w7 w8 e1; omega)) (Ev.pos rfl (Ev.pos rfl (Ev.pos rfl h)))
theorem endC_le : ∀ (l : List S45) (a : Int), (∀ y ∈ l, FitimplCapture y) → endC l a ≤ a + 1048600 * (l.length : Int) := by
  intro l
  induction l with
  | nil => intro a _; simp [endC]
  | cons y l ih =>
    intro a hf
    have hy : y.f2.f1.length ≤ 1048576 := hf y (List.mem_cons_self ..)
    have := ih (nxC y a) (fun z hz => hf z (List.mem_cons_of_mem _ hz))
    rw [List.length_cons]
    unfold endC
    unfold nxC at this ⊢
    omega
theorem markCaptureS_ev (l : List S45) (a : Int) (h : l.length ≤ 1048576) (hf : ∀ y ∈ l, FitimplCapture y) (h0 : 0 ≤ a) (h1 : a ≤ 1000000000000000) : Ev (fun k => laws_markCaptureS.f k l a) (endC l a, mkCs l a) := markC_ev l [] 0 a rfl (by simpa using h) hf h0 (by have := endC_le l a hf; omega)
theorem heldCaptureS_ev (l : List S45) (a : Int) (h : l.length ≤ 1048576) (hf : ∀ y ∈ l, FitimplCapture y) (h0 : 0 ≤ a) (h1 : a ≤ 1000000000000000) : Ev (fun k => laws_heldCaptureS.f k (mkCs l a) a) (endC l a) := heldC_ev l [] 0 a rfl (by simpa using h) hf h0 (by have := endC_le l a hf; omega)
theorem szCaptureS_rest (l : List S38) (a r : Int) (h : l.length ≤ maxLen ∧ ∀ y ∈ l, MaxCapture y) (h0 : 0 ≤ a) (h1 : a ≤ 1048576) (e : Ev (fun k => laws_szCaptureS.f k l a) r) (hr : 0 ≤ r) : r ≤ a - (l.length : Int) := by
  have hx : ∃ r2, Ev (fun k => laws_szCaptureS.f k l a) r2 ∧ (0 ≤ r2 → r2 ≤ a - (l.length : Int)) := by
    obtain ⟨h, hy⟩ := h
    unfold maxLen at h
    unfold laws_szCaptureS.f
    rw [w64 (by omega) (by omega)]
    by_cases c : a - (l.length : Int) < 0
    · exact ⟨-1, Ev.pos c (Ev.now _), by omega⟩
    have key : ∀ d i : Nat, i + d = l.length → ∀ b : Int, 0 ≤ b → b ≤ 1048576 → ∃ r, Ev (fun k => laws_szCaptureS.l0 k l b (i : Int)) r ∧ (0 ≤ r → r ≤ b) := by
      intro d
      induction d with
      | zero =>
        intro i hi b hb0 hb1
        obtain rfl : i = l.length := by omega
        exact ⟨b, Ev.round (fun _ => by rw [laws_szCaptureS.l0]) (Ev.neg (by omega) (Ev.now _)), fun _ => by omega⟩
      | succ d ih =>
        intro i hi b hb0 hb1
        have hil : i < l.length := by omega
        have hmem := getD_mem l i hil z38
        have hlen := (hy _ hmem)
        have ez : ∀ y : S38, MaxCapture y → ∃ r0, laws_szCapture.f y.f0.f0 y.f0.f1 y.f0.f2 y.f1 y.f2.f0 y.f2.f1 y.f2.f2.f0 y.f2.f2.f1 y.f2.f2.f2 b = some r0 ∧ (0 ≤ r0 → r0 ≤ b) := by
          intro y my
          have my' : y.f2.f1.length ≤ maxLen := my
          unfold maxLen at my'
          simp only [laws_szCapture.f, laws_szResource.f, laws_szIntS.f, Option.bind_some]
          rw [w64 (by omega) (by omega)]
          by_cases c2 : b - (y.f2.f1.length : Int) < 0
          · rw [if_pos c2]
            exact ⟨-1, by simp, by omega⟩
          · rw [if_neg c2]
            refine ⟨b - (y.f2.f1.length : Int), ?_, by omega⟩
            simp only [Option.bind_some]
            rw [if_neg c2]
            simp only [Option.bind_some]
            rw [if_neg c2]
        obtain ⟨r0, e0, g0⟩ := ez _ hlen
        by_cases c0 : r0 < 0
        · refine ⟨-1, ?_, by omega⟩
          refine Ev.round (fun _ => by rw [laws_szCaptureS.l0]) ?_
          refine Ev.pos (by omega) ?_
          refine Ev.pos (by omega) ?_
          refine Ev.now_bind e0 ?_
          refine Ev.pos c0 ?_
          exact Ev.now _
        obtain ⟨r, er, gr⟩ := ih (i + 1) (by omega) r0 (by omega) (by have := g0 (by omega); omega)
        refine ⟨r, ?_, fun hr => by have := gr hr; have := g0 (by omega); omega⟩
        refine Ev.round (fun _ => by rw [laws_szCaptureS.l0]) ?_
        refine Ev.pos (by omega) ?_
        refine Ev.pos (by omega) ?_
        refine Ev.now_bind e0 ?_
        refine Ev.neg c0 ?_
        have e1 : wrap64 ((i : Int) + 1) = ((i + 1 : Nat) : Int) := by rw [w64 (by omega) (by omega)]; omega
        simp only [e1]
        exact er
    obtain ⟨r2, er, gr⟩ := key l.length 0 (by omega) (a - (l.length : Int)) (by omega) (by omega)
    exact ⟨r2, Ev.neg c er, gr⟩
  obtain ⟨r2, e2, g2⟩ := hx
  have := Ev.unique e e2
  subst this
  exact g2 hr
theorem FnExactAddCaptures (l0 : List S38) (l1 : List S38) (h0 : (l0.length ≤ maxLen ∧ ∀ e_ ∈ l0, W38 e_)) (h1 : (l1.length ≤ maxLen ∧ ∀ e_ ∈ l1, W38 e_)) : ∃ k, laws_FnExactAddCaptures.f k l0 l1 = some true := by
  have hA : l0.length ≤ maxLen ∧ ∀ y ∈ l0, MaxCapture y := ⟨h0.1, fun y hy => (h0.2 y hy).2.2.2.1.1⟩
  have hB : l1.length ≤ maxLen ∧ ∀ y ∈ l1, MaxCapture y := ⟨h1.1, fun y hy => (h1.2 y hy).2.2.2.1.1⟩
  obtain ⟨r, e, b, g⟩ := szCaptureS_some l0 1048576 hA (by omega) (by omega)
  refine Ev.rounds ?_
  unfold laws_FnExactAddCaptures.f
  refine Ev.bind e ?_
  by_cases c : r < 0
  · exact Ev.pos c (Ev.now _)
  have k1 := szCaptureS_rest l0 1048576 r hA (by omega) (by omega) e (by omega)
  obtain ⟨hl, hy⟩ := g (by omega)
  obtain ⟨r2, e2, b2, g2⟩ := szCaptureS_some l1 r hB (by omega) (by omega)
  refine Ev.neg c ?_
  refine Ev.bind e2 ?_
  by_cases c2 : r2 < 0
  · exact Ev.pos c2 (Ev.now _)
  have k2 := szCaptureS_rest l1 r r2 hB (by omega) (by omega) e2 (by omega)
  obtain ⟨hl2, hy2⟩ := g2 (by omega)
  have cv : ∀ l : List S38, (∀ y ∈ l, FitlawsCapture y) → ∀ y ∈ l.map cvCapture, FitimplCapture y := by
    intro l hy y h
    obtain ⟨z, hz, rfl⟩ := List.mem_map.1 h
    exact hy z hz
  have f1 := cv l0 hy
  have f2 := cv l1 hy2
  have m1 : (l0.map cvCapture).length ≤ 1048576 := by simpa using hl
  have m2 : (l1.map cvCapture).length ≤ 1048576 := by simpa using hl2
  have mm : (l0.map cvCapture).length + (l1.map cvCapture).length ≤ 1048576 := by rw [List.length_map, List.length_map]; omega
  obtain ⟨fo, lo⟩ := pAdd_fit (l0.map cvCapture) (l1.map cvCapture) f1 f2
  refine Ev.neg c2 ?_
  refine Ev.bind (toCaptureS_ev l0 hl hy) ?_
  refine Ev.bind (toCaptureS_ev l1 hl2 hy2) ?_
  refine Ev.bind (sAdd_ev _ _ mm f1 f2) ?_
  refine Ev.bind (iAdd_ev _ _ mm f1 f2) ?_
  generalize pAdd (l0.map cvCapture) (l1.map cvCapture) = z at fo lo
  have mo : z.1.length ≤ 1048576 := by omega
  refine Ev.bind (eqCaptureS_refl _ mo fo) ?_
  refine Ev.pos rfl ?_
  refine Ev.pos rfl ?_
  refine Ev.bind (eqCaptureS_refl _ m1 f1) ?_
  refine Ev.pos rfl ?_
  refine Ev.bind (eqCaptureS_refl _ m2 f2) ?_
  refine Ev.pos rfl ?_
  have u1 := endC_le (l0.map cvCapture) 1 f1
  have v1 := endC_ge (l0.map cvCapture) 1
  refine Ev.bind (markCaptureS_ev _ 1 m1 f1 (by omega) (by omega)) ?_
  refine Ev.bind (markCaptureS_ev _ _ m2 f2 (by dsimp only; omega) (by dsimp only; omega)) ?_
  have v2 := endC_ge (l1.map cvCapture) (endC (l0.map cvCapture) 1)
  refine Ev.neg (by dsimp only; omega) ?_
  refine Ev.bind (markCaptureS_ev _ 1 mo fo (by omega) (by omega)) ?_
  refine Ev.bind (heldCaptureS_ev _ 1 mo fo (by omega) (by omega)) ?_
  have v3 := endC_ge z.1 1
  exact Ev.neg (by omega) (Ev.pos rfl (Ev.now _))
end Go.Proofs.Ytmcfdpodoebokaa.Pure
