/- The program's TicksOf and the reference's return the same numbers, ascending and each once: the one puts each into its place, the other collects, sorts and compacts; what is returned is new memory. No condition. -/
import Derived.Test.YtdpkidjddlnafaaStdFnExactTicksOf
namespace Go.Proofs.Ytdpkidjddlnafaa.Pure
open Go.RowKit Go.Proofs.Ytdpkidjddlnafaa.MFnExactTicksOf Go.Proofs.YtdpkidjddlnafaaW.PrintWords Go.Proofs.YtdpkidjddlnafaaW.PrintLast Go.Proofs.YtdpkidjddlnafaaW.PrintMore Go.Proofs.Ytdpkidjddlnafaa.Gen
set_option linter.unusedVariables false
set_option linter.unusedSimpArgs false

def W40 (y : S40) : Prop := (Lit.int .i64 y.f0).wf = true ∧ (Lit.int .i64 y.f1).wf = true ∧ (Lit.int .i64 y.f2).wf = true
def W106 (y : S106) : Prop := (Lit.int .i64 y.f0).wf = true ∧ (y.f1.length ≤ maxLen ∧ ∀ e_ ∈ y.f1, (Lit.int .i64 e_).wf = true) ∧ W40 y.f2
def W114 (y : S114) : Prop := W40 y.f0 ∧ (Lit.int .i64 y.f1).wf = true ∧ W106 y.f2
def pPut : List Int → Int → List Int
  | [], n => [n]
  | y :: l, n => if y < n then y :: pPut l n else if y = n then y :: l else n :: y :: l
theorem pPut_mem (l : List Int) (n x : Int) : x ∈ pPut l n ↔ x = n ∨ x ∈ l := by
  induction l with
  | nil => simp [pPut]
  | cons y l ih =>
    unfold pPut
    split
    · rw [List.mem_cons, ih, List.mem_cons]
      constructor
      · rintro (h | h | h)
        · exact Or.inr (Or.inl h)
        · exact Or.inl h
        · exact Or.inr (Or.inr h)
      · rintro (h | h | h)
        · exact Or.inr (Or.inl h)
        · exact Or.inl h
        · exact Or.inr (Or.inr h)
    · split
      · rename_i h
        subst h
        simp
      · simp
theorem pPut_length (l : List Int) (n : Int) : (pPut l n).length ≤ l.length + 1 := by
  induction l with
  | nil => simp [pPut]
  | cons y l ih =>
    unfold pPut
    split
    · simp only [List.length_cons]
      omega
    · split
      · simp
      · simp
theorem l9Put_ev (l : List Int) (n : Int) (h : l.length ≤ 4194304) : Ev (fun k => spec_l9Put.f k l n) (pPut l n) := by
  unfold spec_l9Put.f
  have key := ev_down (fun k i => spec_l9Put.l0 k l n (i : Int)) l.length (fun i => l.take i ++ pPut (l.drop i) n) ?_ ?_
  · simpa using key
  · refine Ev.round (fun _ => by rw [spec_l9Put.l0]) ?_
    have e0 : ((l.length : Nat) : Int).toNat = l.length := Int.toNat_natCast _
    rw [List.take_length, List.drop_length]
    refine Ev.neg (by omega) ?_
    refine Ev.now_bind rfl ?_
    refine Ev.pos (by omega) ?_
    refine Ev.pos (by omega) ?_
    simp only [e0, List.take_length, List.drop_length, List.nil_append, List.length_nil]
    refine Ev.pos (by omega) ?_
    refine Ev.now_bind rfl ?_
    refine Ev.now_bind rfl ?_
    refine Ev.pos (by simp only [List.length_singleton]; omega) ?_
    refine Ev.now_bind rfl ?_
    refine Ev.pos (by simp only [List.length_append, List.length_singleton]; omega) ?_
    refine Ev.cast (Ev.now _) ?_
    simp [pPut]
  · intro i hi hr
    have e1 : wrap64 ((i : Int) + 1) = ((i + 1 : Nat) : Int) := by rw [w64 (by omega) (by omega)]; omega
    have e0 : ((i : Nat) : Int).toNat = i := Int.toNat_natCast _
    have e2 : rd l (i : Int) = l.getD i 0 := rd_nat _ _
    have e3 : l.drop i = l.getD i 0 :: l.drop (i + 1) := drop_cons l i hi 0
    have e4 : l.take (i + 1) = l.take i ++ [l.getD i 0] := by
      rw [List.take_succ_eq_append_getElem hi, getD_in l i hi 0]
    rw [e4] at hr
    rw [e3]
    have ht : (l.take i).length ≤ l.length := by rw [List.length_take]; omega
    have hd : (l.drop i).length ≤ l.length := by rw [List.length_drop]; omega
    have hall : l.take i ++ (l.getD i 0 :: l.drop (i + 1)) = l := by
      rw [← e3]
      exact List.take_append_drop i l
    refine Ev.round (fun _ => by rw [spec_l9Put.l0]) ?_
    refine Ev.pos (by omega) ?_
    refine Ev.pos (by omega) ?_
    simp only [e0, e1, e2]
    generalize hy : l.getD i 0 = y at hr e3 hall
    by_cases c1 : y < n
    · have e5 : pPut (y :: l.drop (i + 1)) n = y :: pPut (l.drop (i + 1)) n := by
        rw [pPut, if_pos c1]
      refine Ev.pos c1 ?_
      refine Ev.cast hr ?_
      rw [e5]
      simp
    · refine Ev.neg c1 ?_
      by_cases c2 : y = n
      · have e5 : pPut (y :: l.drop (i + 1)) n = y :: l.drop (i + 1) := by
          rw [pPut, if_neg c1, if_pos c2]
        refine Ev.pos c2 ?_
        refine Ev.now_bind rfl ?_
        refine Ev.pos (by simp only [List.length_nil]; omega) ?_
        refine Ev.cast (Ev.now _) ?_
        rw [List.nil_append, e5, hall]
      · have e5 : pPut (y :: l.drop (i + 1)) n = n :: y :: l.drop (i + 1) := by
          rw [pPut, if_neg c1, if_neg c2]
        refine Ev.neg c2 ?_
        refine Ev.now_bind rfl ?_
        refine Ev.pos (by omega) ?_
        simp only [List.nil_append, List.length_nil]
        refine Ev.pos (by omega) ?_
        refine Ev.now_bind rfl ?_
        refine Ev.now_bind rfl ?_
        refine Ev.pos (by simp only [List.length_singleton]; omega) ?_
        refine Ev.now_bind rfl ?_
        refine Ev.pos (by simp only [List.length_append, List.length_singleton]; omega) ?_
        refine Ev.cast (Ev.now _) ?_
        rw [e3, e5]
        simp
theorem asc_unique : ∀ (a b : List Int), a.Pairwise (· < ·) → b.Pairwise (· < ·) → (∀ x, x ∈ a ↔ x ∈ b) → a = b
  | [], [], _, _, _ => rfl
  | [], y :: b, _, _, h => absurd ((h y).2 (List.mem_cons_self ..)) (by simp)
  | x :: a, [], _, _, h => absurd ((h x).1 (List.mem_cons_self ..)) (by simp)
  | x :: a, y :: b, ha, hb, h => by
    obtain ⟨ha1, ha2⟩ := List.pairwise_cons.1 ha
    obtain ⟨hb1, hb2⟩ := List.pairwise_cons.1 hb
    have e : x = y := by
      rcases List.mem_cons.1 ((h x).1 (List.mem_cons_self ..)) with e | e
      · exact e
      · rcases List.mem_cons.1 ((h y).2 (List.mem_cons_self ..)) with e2 | e2
        · exact e2.symm
        · have h1 := hb1 x e
          have h2 := ha1 y e2
          omega
    subst e
    rw [asc_unique a b ha2 hb2 (fun z => by
      constructor
      · intro hz
        have h1 := ha1 z hz
        rcases List.mem_cons.1 ((h z).1 (List.mem_cons_of_mem _ hz)) with e | e
        · omega
        · exact e
      · intro hz
        have h1 := hb1 z hz
        rcases List.mem_cons.1 ((h z).2 (List.mem_cons_of_mem _ hz)) with e | e
        · omega
        · exact e)]
theorem pPut_asc (l : List Int) (n : Int) (h : l.Pairwise (· < ·)) : (pPut l n).Pairwise (· < ·) := by
  induction l with
  | nil => simp [pPut]
  | cons y l ih =>
    obtain ⟨h1, h2⟩ := List.pairwise_cons.1 h
    unfold pPut
    split
    · rename_i c
      refine List.pairwise_cons.2 ⟨fun z hz => ?_, ih h2⟩
      rcases (pPut_mem l n z).1 hz with e | e
      · omega
      · exact h1 z e
    · split
      · exact h
      · refine List.pairwise_cons.2 ⟨fun z hz => ?_, h⟩
        rcases List.mem_cons.1 hz with e | e
        · omega
        · have := h1 z e
          omega
theorem compact_asc (d : Array Int) (hs : ∀ i j, i < j → j < d.size → d[i]! ≤ d[j]!) : ∀ m, m ≤ d.size → (Lib.compactUpTo d m).Pairwise (· < ·) ∧ (∀ x ∈ Lib.compactUpTo d m, ∃ j, j < m ∧ x = d[j]!) ∧ ∀ j, j < m → d[j]! ∈ Lib.compactUpTo d m := by
  intro m
  induction m with
  | zero => intro _; exact ⟨by simp [Lib.compactUpTo], by simp [Lib.compactUpTo], fun j hj => by omega⟩
  | succ m ih =>
    intro hm
    obtain ⟨h1, h2, h3⟩ := ih (by omega)
    rw [Lib.compactUpTo_succ]
    by_cases hk : m = 0 ∨ d[m]! ≠ d[m - 1]!
    · have hk2 : Lib.keeps d m = true := by unfold Lib.keeps; exact decide_eq_true hk
      rw [hk2, if_pos rfl]
      refine ⟨List.pairwise_append.2 ⟨h1, List.pairwise_singleton _ _, ?_⟩, ?_, ?_⟩
      · intro x hx y hy
        rw [List.mem_singleton] at hy
        subst hy
        obtain ⟨j, hj, rfl⟩ := h2 x hx
        have ha : d[m - 1]! ≤ d[m]! := hs (m - 1) m (by omega) (by omega)
        have hb : d[j]! ≤ d[m - 1]! := by
          by_cases e : j = m - 1
          · subst e; exact Int.le_refl _
          · exact hs j (m - 1) (by omega) (by omega)
        rcases hk with hk | hk
        · omega
        · omega
      · intro x hx
        rcases List.mem_append.1 hx with hx | hx
        · obtain ⟨j, hj, e⟩ := h2 x hx
          exact ⟨j, by omega, e⟩
        · rw [List.mem_singleton] at hx
          exact ⟨m, by omega, hx⟩
      · intro j hj
        by_cases e : j = m
        · subst e; exact List.mem_append.2 (Or.inr (List.mem_singleton.2 rfl))
        · exact List.mem_append.2 (Or.inl (h3 j (by omega)))
    · have hk2 : Lib.keeps d m = false := by unfold Lib.keeps; exact decide_eq_false hk
      rw [hk2, if_neg (by simp), List.append_nil]
      refine ⟨h1, fun x hx => ?_, fun j hj => ?_⟩
      · obtain ⟨j, hj, e⟩ := h2 x hx
        exact ⟨j, by omega, e⟩
      · by_cases e : j = m
        · subst e
          have e2 : d[j]! = d[j - 1]! := Classical.byContradiction fun c => hk (Or.inr c)
          rw [e2]
          exact h3 (j - 1) (by omega)
        · exact h3 j (by omega)
/-- Sorted and each once: whatever the way, the same list. -/
theorem sorted_asc (zs : List Int) : (Lib.compact (zs.mergeSort fun x y => decide (x ≤ y))).Pairwise (· < ·) ∧ ∀ x, x ∈ Lib.compact (zs.mergeSort fun x y => decide (x ≤ y)) ↔ x ∈ zs := by
  have hp := List.mergeSort_perm zs fun x y => decide (x ≤ y)
  have hs := List.pairwise_mergeSort (le := fun x y : Int => decide (x ≤ y)) (fun a b c h1 h2 => by simp only [decide_eq_true_eq] at *; omega) (fun a b => by simp only [Bool.or_eq_true, decide_eq_true_eq]; omega) zs
  generalize (zs.mergeSort fun x y => decide (x ≤ y)) = ys at hp hs
  have hd : ∀ i j, i < j → j < ys.toArray.size → ys.toArray[i]! ≤ ys.toArray[j]! := by
    intro i j hij hj
    have hj' : j < ys.length := by simpa using hj
    have := List.pairwise_iff_getElem.1 hs i j (by omega) hj' hij
    simp only [decide_eq_true_eq] at this
    simpa [getElem!_pos, hj', show i < ys.length by omega] using this
  obtain ⟨h1, h2, h3⟩ := compact_asc ys.toArray hd ys.length (by simp)
  refine ⟨h1, fun x => ?_⟩
  rw [← hp.mem_iff]
  constructor
  · intro hx
    obtain ⟨j, hj, rfl⟩ := h2 x hx
    simp [getElem!_pos, hj]
  · intro hx
    obtain ⟨j, hj, rfl⟩ := List.mem_iff_getElem.1 hx
    have := h3 j hj
    have e : ys.toArray[j]! = ys[j] := by simp [getElem!_pos, hj]
    rw [e] at this
    exact this
theorem put_fold {α : Type} (p : α → Bool) (g : α → Int) : ∀ (l : List α) (s : List Int), (s.Pairwise (· < ·) → (l.foldl (fun s y => if p y = true then pPut s (g y) else s) s).Pairwise (· < ·)) ∧ (∀ x, x ∈ l.foldl (fun s y => if p y = true then pPut s (g y) else s) s ↔ x ∈ s ∨ ∃ y ∈ l, p y = true ∧ g y = x) := by
  intro l
  induction l with
  | nil => intro s; exact ⟨fun h => h, fun x => by simp⟩
  | cons y l ih =>
    intro s
    rw [List.foldl_cons]
    by_cases c : p y = true
    · rw [if_pos c]
      obtain ⟨h1, h2⟩ := ih (pPut s (g y))
      refine ⟨fun h => h1 (pPut_asc s _ h), fun x => ?_⟩
      rw [h2, pPut_mem]
      constructor
      · rintro ((h | h) | ⟨z, hz, hp, hg⟩)
        · exact Or.inr ⟨y, List.mem_cons_self .., c, h.symm⟩
        · exact Or.inl h
        · exact Or.inr ⟨z, List.mem_cons_of_mem _ hz, hp, hg⟩
      · rintro (h | ⟨z, hz, hp, hg⟩)
        · exact Or.inl (Or.inr h)
        · rcases List.mem_cons.1 hz with e | e
          · subst e; exact Or.inl (Or.inl hg.symm)
          · exact Or.inr ⟨z, e, hp, hg⟩
    · rw [if_neg c]
      obtain ⟨h1, h2⟩ := ih s
      refine ⟨h1, fun x => ?_⟩
      rw [h2]
      constructor
      · rintro (h | ⟨z, hz, hp, hg⟩)
        · exact Or.inl h
        · exact Or.inr ⟨z, List.mem_cons_of_mem _ hz, hp, hg⟩
      · rintro (h | ⟨z, hz, hp, hg⟩)
        · exact Or.inl h
        · rcases List.mem_cons.1 hz with e | e
          · subst e; exact absurd hp c
          · exact Or.inr ⟨z, e, hp, hg⟩
theorem app_fold {α : Type} (p : α → Bool) (g : α → Int) : ∀ (l : List α) (s : List Int), (l.foldl (fun s y => if p y = true then s ++ [g y] else s) s).length ≤ s.length + l.length ∧ (∀ x, x ∈ l.foldl (fun s y => if p y = true then s ++ [g y] else s) s ↔ x ∈ s ∨ ∃ y ∈ l, p y = true ∧ g y = x) := by
  intro l
  induction l with
  | nil => intro s; exact ⟨Nat.le_refl _, fun x => by simp⟩
  | cons y l ih =>
    intro s
    rw [List.foldl_cons, List.length_cons]
    by_cases c : p y = true
    · rw [if_pos c]
      obtain ⟨h1, h2⟩ := ih (s ++ [g y])
      rw [List.length_append, List.length_singleton] at h1
      refine ⟨by omega, fun x => ?_⟩
      rw [h2, List.mem_append, List.mem_singleton]
      constructor
      · rintro ((h | h) | ⟨z, hz, hp, hg⟩)
        · exact Or.inl h
        · exact Or.inr ⟨y, List.mem_cons_self .., c, h.symm⟩
        · exact Or.inr ⟨z, List.mem_cons_of_mem _ hz, hp, hg⟩
      · rintro (h | ⟨z, hz, hp, hg⟩)
        · exact Or.inl (Or.inl h)
        · rcases List.mem_cons.1 hz with e | e
          · subst e; exact Or.inl (Or.inr hg.symm)
          · exact Or.inr ⟨z, e, hp, hg⟩
    · rw [if_neg c]
      obtain ⟨h1, h2⟩ := ih s
      refine ⟨by omega, fun x => ?_⟩
      rw [h2]
      constructor
      · rintro (h | ⟨z, hz, hp, hg⟩)
        · exact Or.inl h
        · exact Or.inr ⟨z, List.mem_cons_of_mem _ hz, hp, hg⟩
      · rintro (h | ⟨z, hz, hp, hg⟩)
        · exact Or.inl h
        · rcases List.mem_cons.1 hz with e | e
          · subst e; exact absurd hp c
          · exact Or.inr ⟨z, e, hp, hg⟩
theorem put_sorted {α : Type} (p : α → Bool) (g : α → Int) (l : List α) : l.foldl (fun s y => if p y = true then pPut s (g y) else s) [] = Lib.compact ((l.foldl (fun s y => if p y = true then s ++ [g y] else s) []).mergeSort fun x y => decide (x ≤ y)) := by
  obtain ⟨a1, a2⟩ := put_fold p g l []
  obtain ⟨_, b2⟩ := app_fold p g l []
  obtain ⟨c1, c2⟩ := sorted_asc (l.foldl (fun s y => if p y = true then s ++ [g y] else s) [])
  exact asc_unique _ _ (a1 List.Pairwise.nil) c1 (fun x => by rw [a2, c2, b2])
def chHereCapture (a p q : Int) (y : S84) : Bool := (y.f0.f0 == a && (y.f0.f1 == p && (y.f0.f2 == q)))
def pChangesCapture (l : List S84) (a p q : Int) : List Int := l.foldl (fun s y => if chHereCapture a p q y = true then pPut s y.f1 else s) []
theorem pChangesCapture_length (l : List S84) (a p q : Int) : (pChangesCapture l a p q).length ≤ l.length := by
  unfold pChangesCapture
  have key : ∀ (l : List S84) (s : List Int), (l.foldl (fun s y => if chHereCapture a p q y = true then pPut s y.f1 else s) s).length ≤ s.length + l.length := by
    intro l
    induction l with
    | nil => intro s; exact Nat.le_refl _
    | cons y l ih =>
      intro s
      rw [List.foldl_cons, List.length_cons]
      refine Nat.le_trans (ih _) ?_
      split
      · have := pPut_length s y.f1
        omega
      · omega
  simpa using key l []
theorem sTicks_ev (l : List S84) (a p q : Int) (h : l.length ≤ 1048576) : Ev (fun k => spec_TicksOf.f k l a p q) (pChangesCapture l a p q) := by
  unfold spec_TicksOf.f pChangesCapture
  refine ev_foldl (fun k (s : List Int) i => spec_TicksOf.l0 k l s i a p q) l z84 (fun s y => if chHereCapture a p q y = true then pPut s y.f1 else s) (fun s => s) (fun i s => s.length ≤ i) [] (by simp) ?_ ?_
  · intro s _
    refine Ev.round (fun _ => by rw [spec_TicksOf.l0]) ?_
    exact Ev.neg (by omega) (Ev.now _)
  · intro i s hi hs
    have e1 : wrap64 ((i : Int) + 1) = ((i + 1 : Nat) : Int) := by rw [w64 (by omega) (by omega)]; omega
    have hl := pPut_length s (rd_T84 l (i : Int)).f1
    refine ⟨?_, fun r hr => ?_⟩
    · show (if chHereCapture a p q (rd_T84 l (i : Int)) = true then pPut s (rd_T84 l (i : Int)).f1 else s).length ≤ i + 1
      split
      · omega
      · omega
    have hr' : Ev (fun k => spec_TicksOf.l0 k l (if chHereCapture a p q (rd_T84 l (i : Int)) = true then pPut s (rd_T84 l (i : Int)).f1 else s) ((i + 1 : Nat) : Int) a p q) r := hr
    refine Ev.round (fun _ => by rw [spec_TicksOf.l0]) ?_
    refine Ev.pos (by omega) ?_
    refine Ev.pos (by omega) ?_
    generalize hy : rd_T84 l (i : Int) = y at hr' hl
    simp only [e1]
    unfold chHereCapture at hr'
    cases c1 : (y.f0.f0 == a && (y.f0.f1 == p && (y.f0.f2 == q))) with
    | false =>
      rw [c1] at hr'
      exact Ev.neg (by simp) hr'
    | true =>
      rw [c1] at hr'
      refine Ev.pos rfl ?_
      refine Ev.bind (l9Put_ev s y.f1 (by omega)) ?_
      exact hr'
theorem sorted_eq (l : List Int) (h : l.length ≤ 4194304) : impl_sorted.f l = some (Lib.compact (l.mergeSort fun x y => decide (x ≤ y))) := by
  unfold impl_sorted.f slices_Clone_int_int.f
  rw [Option.bind_some, List.nil_append, if_pos (by simp only [List.length_nil]; omega), Option.bind_some, if_pos (by omega)]
theorem iTicks_ev (l : List S84) (a p q : Int) (h : l.length ≤ 1048576) : Ev (fun k => impl_TicksOf.f k l a p q) (pChangesCapture l a p q) := by
  have e0 : pChangesCapture l a p q = Lib.compact ((l.foldl (fun s y => if chHereCapture a p q y = true then s ++ [y.f1] else s) []).mergeSort fun x y => decide (x ≤ y)) := put_sorted (chHereCapture a p q) (fun y => y.f1) l
  rw [e0]
  unfold impl_TicksOf.f
  refine ev_foldl (fun k (s : List Int) i => impl_TicksOf.l0 k s l (l.length : Int) i a p q) l z84 (fun s y => if chHereCapture a p q y = true then s ++ [y.f1] else s) (fun s => Lib.compact (s.mergeSort fun x y => decide (x ≤ y))) (fun i s => s.length ≤ i) [] (by simp) ?_ ?_
  · intro s hs
    refine Ev.round (fun _ => by rw [impl_TicksOf.l0]) ?_
    exact Ev.neg (by omega) (Ev.now_bind (sorted_eq s (by omega)) (Ev.now _))
  · intro i s hi hs
    have e1 : wrap64 ((i : Int) + 1) = ((i + 1 : Nat) : Int) := by rw [w64 (by omega) (by omega)]; omega
    refine ⟨?_, fun r hr => ?_⟩
    · show (if chHereCapture a p q (rd_T84 l (i : Int)) = true then s ++ [(rd_T84 l (i : Int)).f1] else s).length ≤ i + 1
      split
      · rw [List.length_append, List.length_singleton]
        omega
      · omega
    have hr' : Ev (fun k => impl_TicksOf.l0 k (if chHereCapture a p q (rd_T84 l (i : Int)) = true then s ++ [(rd_T84 l (i : Int)).f1] else s) l (l.length : Int) ((i + 1 : Nat) : Int) a p q) r := hr
    refine Ev.round (fun _ => by rw [impl_TicksOf.l0]) ?_
    refine Ev.pos (by omega) ?_
    refine Ev.pos (by omega) ?_
    refine Ev.pos (by omega) ?_
    generalize hy : rd_T84 l (i : Int) = y at hr'
    simp only [e1]
    unfold chHereCapture at hr'
    cases c1 : (y.f0.f0 == a && (y.f0.f1 == p && (y.f0.f2 == q))) with
    | false =>
      rw [c1] at hr'
      exact Ev.neg (by simp) hr'
    | true =>
      rw [c1] at hr'
      refine Ev.pos rfl ?_
      refine Ev.pos (by omega) ?_
      exact hr'
theorem ex_round {α : Type} {g f : Nat → Option α} {Q : α → Prop} (h : ∀ k, g (k + 1) = f k) (e : ∃ r, Ev f r ∧ Q r) : ∃ r, Ev g r ∧ Q r := by
  obtain ⟨r, e, q⟩ := e
  exact ⟨r, Ev.round h e, q⟩
theorem ex_pos {α : Type} {c : Prop} [Decidable c] {f g : Nat → Option α} {Q : α → Prop} (hc : c) (e : ∃ r, Ev f r ∧ Q r) : ∃ r, Ev (fun k => if c then f k else g k) r ∧ Q r := by
  obtain ⟨r, e, q⟩ := e
  exact ⟨r, Ev.pos hc e, q⟩
theorem ex_neg {α : Type} {c : Prop} [Decidable c] {f g : Nat → Option α} {Q : α → Prop} (hc : ¬ c) (e : ∃ r, Ev g r ∧ Q r) : ∃ r, Ev (fun k => if c then f k else g k) r ∧ Q r := by
  obtain ⟨r, e, q⟩ := e
  exact ⟨r, Ev.neg hc e, q⟩
theorem ex_bind {α β : Type} {f : Nat → Option β} {g : Nat → β → Option α} {v : β} {Q : α → Prop} (h : Ev f v) (e : ∃ r, Ev (fun k => g k v) r ∧ Q r) : ∃ r, Ev (fun k => (f k).bind (g k)) r ∧ Q r := by
  obtain ⟨r, e, q⟩ := e
  exact ⟨r, Ev.bind h e, q⟩
/-- What is handed on is told by one of its properties alone. -/
theorem ex_some {α β : Type} {v : β} {g : Nat → β → Option α} {P : β → Prop} {Q : α → Prop} (hP : P v) (h : ∀ y, P y → ∃ r, Ev (fun k => g k y) r ∧ Q r) : ∃ r, Ev (fun k => (some v).bind (g k)) r ∧ Q r := by
  obtain ⟨r, e, q⟩ := h v hP
  exact ⟨r, Ev.bind (Ev.now v) e, q⟩
theorem wraps5 (a : Int) (h0 : 0 ≤ a) (h1 : a ≤ 1152921504606846976) : wrap64 ((wrap64 ((wrap64 ((wrap64 ((wrap64 (a + 1)) + 1)) + 1)) + 1)) + 1) = a + 5 := by
  rw [w64 (n := a + 1) (by omega) (by omega), w64 (n := a + 1 + 1) (by omega) (by omega), w64 (n := a + 1 + 1 + 1) (by omega) (by omega), w64 (n := a + 1 + 1 + 1 + 1) (by omega) (by omega), w64 (n := a + 1 + 1 + 1 + 1 + 1) (by omega) (by omega)]
  omega
theorem wraps3 (a : Int) (h0 : 0 ≤ a) (h1 : a ≤ 1152921504606846976) : wrap64 ((wrap64 ((wrap64 (a + 1)) + 1)) + 1) = a + 3 := by
  rw [w64 (n := a + 1) (by omega) (by omega), w64 (n := a + 1 + 1) (by omega) (by omega), w64 (n := a + 1 + 1 + 1) (by omega) (by omega)]
  omega
def GoodCap2 (n : Nat) (y : List S84) : Prop := y.length = n ∧ ∀ z ∈ y, z.f2.f1.length ≤ 1048576
theorem goodCap2_set {n : Nat} {y : List S84} (h : GoodCap2 n y) (j : Nat) (e : S84) (he : e.f2.f1.length ≤ 1048576) : GoodCap2 n (y.set j e) := by
  refine ⟨by rw [List.length_set]; exact h.1, fun z hz => ?_⟩
  rcases List.mem_or_eq_of_mem_set hz with hz | hz
  · exact h.2 z hz
  · rw [hz]; exact he
theorem goodCap2_rd {n : Nat} {y : List S84} (h : GoodCap2 n y) (i : Nat) (hi : i < n) : (rd_T84 y (i : Int)).f2.f1.length ≤ 1048576 := h.2 _ (getD_mem y i (by rw [h.1]; exact hi) z84)
theorem markCaptureS_some (l : List S84) (h : l.length ≤ 1048576) (hf : ∀ y ∈ l, FitimplCapture y) : ∃ r, Ev (fun k => laws_markCaptureS.f k l 1) r ∧ (0 ≤ r ∧ r ≤ 2000000000000) := by
  unfold laws_markCaptureS.f
  have key : ∀ (d i : Nat) (y : List S84) (a : Int), i + d = l.length → GoodCap2 l.length y → 0 ≤ a → a ≤ 1 + 1048584 * (i : Int) → ∃ r, Ev (fun k => laws_markCaptureS.l0 k y a (i : Int)) r ∧ (0 ≤ r ∧ r ≤ 2000000000000) := by
    intro d
    induction d with
    | zero =>
      intro i y a hi hy h0 h1
      have hl := hy.1
      refine ex_round (fun _ => by rw [laws_markCaptureS.l0]) ?_
      refine ex_neg (by omega) ?_
      exact ⟨a, Ev.now _, h0, by omega⟩
    | succ d ih =>
      intro i y a hi hy h0 h1
      have hl := hy.1
      have hin : i < l.length := by omega
      have e1 : wrap64 ((i : Int) + 1) = ((i + 1 : Nat) : Int) := by rw [w64 (by omega) (by omega)]; omega
      refine ex_round (fun _ => by rw [laws_markCaptureS.l0]) ?_
      refine ex_pos (by omega) ?_
      refine ex_pos (by omega) ?_
      refine ex_some (P := GoodCap2 l.length) (goodCap2_set hy _ _ (goodCap2_rd hy i hin)) (fun y hy => ?_)
      refine ex_some (P := GoodCap2 l.length) (goodCap2_set hy _ _ (goodCap2_rd hy i hin)) (fun y hy => ?_)
      refine ex_some (P := GoodCap2 l.length) (goodCap2_set hy _ _ (goodCap2_rd hy i hin)) (fun y hy => ?_)
      refine ex_some (P := GoodCap2 l.length) (goodCap2_set hy _ _ (goodCap2_rd hy i hin)) (fun y hy => ?_)
      refine ex_some (P := GoodCap2 l.length) (goodCap2_set hy _ _ (goodCap2_rd hy i hin)) (fun y hy => ?_)
      have hb := goodCap2_rd hy i hin
      rw [wraps5 a h0 (by omega)]
      refine ex_bind (markIntS_ev _ (a + 5) hb (by omega) (by omega)) ?_
      dsimp only
      refine ex_some (P := GoodCap2 l.length) (goodCap2_set hy _ _ (by simpa using hb)) (fun y2 hy2 => ?_)
      refine ex_some (P := GoodCap2 l.length) (goodCap2_set hy2 _ _ (goodCap2_rd hy2 i hin)) (fun y3 hy3 => ?_)
      refine ex_some (P := GoodCap2 l.length) (goodCap2_set hy3 _ _ (goodCap2_rd hy3 i hin)) (fun y4 hy4 => ?_)
      rw [wraps3 _ (by omega) (by omega), e1]
      exact ih (i + 1) _ _ (by omega) (goodCap2_set hy4 _ _ (goodCap2_rd hy4 i hin)) (by omega) (by omega)
  exact key l.length 0 l 1 (by omega) ⟨rfl, hf⟩ (by omega) (by omega)
theorem FnExactTicksOf (l0 : List S114) (a1_0 : Int) (a1_1 : Int) (a1_2 : Int) (h0 : (l0.length ≤ maxLen ∧ ∀ e_ ∈ l0, W114 e_)) (h1 : (Lit.int .i64 a1_0).wf = true) (h2 : (Lit.int .i64 a1_1).wf = true) (h3 : (Lit.int .i64 a1_2).wf = true) : ∃ k, laws_FnExactTicksOf.f k l0 a1_0 a1_1 a1_2 = some true := by
  obtain ⟨r, e, b, g⟩ := szCaptureS_some l0 1048576 ⟨h0.1, fun y hy => (h0.2 y hy).2.2.2.1.1⟩ (by omega) (by omega)
  refine Ev.rounds ?_
  unfold laws_FnExactTicksOf.f
  refine Ev.bind e ?_
  by_cases c : r < 0
  · exact Ev.pos c (Ev.now _)
  obtain ⟨hl, hy⟩ := g (by omega)
  have hm : (l0.map cvCapture).length ≤ 1048576 := by simpa using hl
  have hf : ∀ y ∈ l0.map cvCapture, FitimplCapture y := by
    intro y h
    obtain ⟨z, hz, rfl⟩ := List.mem_map.1 h
    exact hy z hz
  have t := toCaptureS_ev l0 hl hy
  have ta : laws_toAddress.f a1_0 a1_1 a1_2 = some (a1_0, a1_1, a1_2) := toAddress_eq _ _ _
  have sE := sTicks_ev (l0.map cvCapture) a1_0 a1_1 a1_2 hm
  have iE := iTicks_ev (l0.map cvCapture) a1_0 a1_1 a1_2 hm
  have fit : (pChangesCapture (l0.map cvCapture) a1_0 a1_1 a1_2).length ≤ 1048576 := Nat.le_trans (pChangesCapture_length _ _ _ _) hm
  generalize pChangesCapture (l0.map cvCapture) a1_0 a1_1 a1_2 = p at sE iE fit
  refine Ev.neg c ?_
  refine Ev.bind t ?_
  refine Ev.now_bind ta ?_
  refine Ev.bind sE ?_
  refine Ev.bind t ?_
  refine Ev.now_bind ta ?_
  refine Ev.bind iE ?_
  refine Ev.bind (eqIntS_refl _ fit) ?_
  refine Ev.pos rfl ?_
  refine Ev.bind t ?_
  refine Ev.bind (eqCaptureS_refl _ hm hf) ?_
  refine Ev.pos rfl ?_
  obtain ⟨mr, me, mp⟩ := markCaptureS_some (l0.map cvCapture) hm hf
  refine Ev.bind me ?_
  refine Ev.neg (by omega) ?_
  refine Ev.bind (eqIntS_refl _ fit) ?_
  have m1 := markIntS_ev p 1 fit (by omega) (by omega)
  have q1 := heldIntS_ev p.length 1 fit (by omega) (by omega)
  refine Ev.round (fun _ => by rw [laws_FnExactTicksOf.j0]) ?_
  refine Ev.neg (by simp) ?_
  refine Ev.bind m1 ?_
  refine Ev.bind q1 ?_
  refine Ev.neg (by omega) ?_
  refine Ev.pos rfl ?_
  refine Ev.bind t ?_
  refine Ev.now_bind ta ?_
  refine Ev.bind iE ?_
  refine Ev.bind (eqIntS_refl _ fit) ?_
  refine Ev.pos rfl ?_
  refine Ev.bind q1 ?_
  refine Ev.neg (by omega) ?_
  refine Ev.pos rfl ?_
  exact Ev.now _
end Go.Proofs.Ytdpkidjddlnafaa.Pure
