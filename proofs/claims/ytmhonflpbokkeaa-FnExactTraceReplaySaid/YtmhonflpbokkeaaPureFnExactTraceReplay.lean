/- The program's TraceReplay and the reference's return the same states of a replay; what is returned is new memory, and the arguments are as they were. No condition. -/
import Derived.Test.YtmhonflpbokkeaaMFnExactTraceReplayx90
import Derived.Test.YtmhonflpbokkeaaStdFnExactTraceReplay
namespace Go.Proofs.Ytmhonflpbokkeaa.Pure
open Go.RowKit Go.Proofs.Ytmhonflpbokkeaa.MFnExactTraceReplay Go.Proofs.YtmhonflpbokkeaaW.PrintWords Go.Proofs.YtmhonflpbokkeaaW.PrintLast Go.Proofs.YtmhonflpbokkeaaW.PrintMore Go.Proofs.Ytmhonflpbokkeaa.Gen
set_option linter.unusedVariables false
set_option linter.unusedSimpArgs false

def W105 (y : S105) : Prop := (Lit.int .i64 y.f0).wf = true ∧ (Lit.int .i64 y.f1).wf = true ∧ (Lit.int .i64 y.f2).wf = true ∧ (Lit.int .i64 y.f3).wf = true
def W109 (y : S109) : Prop := (Lit.int .i64 y.f0).wf = true ∧ (Lit.int .i64 y.f1).wf = true ∧ (Lit.int .i64 y.f2).wf = true
def W111 (y : S111) : Prop := (Lit.int .i64 y.f0).wf = true ∧ W109 y.f1 ∧ (Lit.int .i64 y.f2).wf = true
def pOp (y : S103) : Bool :=
  pIn y.f1 0 3 && (
    if y.f0 = 1 then pIn y.f2 1 9 && pIn y.f3 0 99
    else if y.f0 = 2 ∨ y.f0 = 3 ∨ y.f0 = 4 then decide (y.f2 = 0) && (y.f3 == 0)
    else if y.f0 = 5 then pIn y.f2 0 3 && pIn y.f3 0 3
    else if y.f0 = 6 then pIn y.f2 0 3 && (y.f3 == 0)
    else if y.f0 = 7 then pIn y.f2 1 3 && (y.f3 == 0)
    else if y.f0 = 8 then pIn y.f2 0 2 && (y.f3 == 0)
    else if y.f0 = 9 then pIn y.f2 0 2 && (y.f3 == 0)
    else false)
def pScript (l : List S103) : Bool := l.all pOp && decide ((l.length : Int) ≤ 16)
theorem not_any {α : Type} (l : List α) (p : α → Bool) : (!(l.any fun y => !p y)) = l.all p := by
  rw [List.all_eq_not_any_not]
def pState (a : Int) (r s n : List Int) : Bool :=
  pIn a 0 19 && ((r.all (pIn · 0 999) && ((r.length : Int) == 4)) && ((s.all (pIn · 0 999) && ((s.length : Int) == 3)) && (n.all (pIn · 0 999) && ((n.length : Int) == 4))))
def pCan (l : List S103) (a : Int) (r s n : List Int) : Bool := pScript l && (pState a r s n && decide (a < (l.length : Int)))
theorem pCan_facts {l : List S103} {a : Int} {r s n : List Int} (h : pCan l a r s n = true) : 0 ≤ a ∧ a < (l.length : Int) ∧ r.length = 4 ∧ s.length = 3 ∧ n.length = 4 ∧ (∀ y ∈ r, 0 ≤ y ∧ y ≤ 999) ∧ (∀ y ∈ s, 0 ≤ y ∧ y ≤ 999) ∧ (∀ y ∈ n, 0 ≤ y ∧ y ≤ 999) ∧ (∀ y ∈ l, pOp y = true) ∧ a ≤ 19 ∧ l.length ≤ 16 := by
  unfold pCan pScript pState at h
  simp only [pIn, Bool.and_eq_true, decide_eq_true_eq, List.all_eq_true, beq_iff_eq] at h
  obtain ⟨⟨h1, h2⟩, ⟨⟨h3, h3'⟩, ⟨h4, h5⟩, ⟨h6, h7⟩, h8, h9⟩, h10⟩ := h
  exact ⟨h3, h10, by omega, by omega, by omega, h4, h6, h8, h1, h3', by omega⟩
theorem pOp_reg {y : S103} (h : pOp y = true) : 0 ≤ y.f1 ∧ y.f1 ≤ 3 := by
  unfold pOp at h
  simp only [pIn, Bool.and_eq_true, decide_eq_true_eq] at h
  exact h.1
def pClamp (v : Int) : Int := mx 0 (mn 999 v)
theorem pClamp_in (v : Int) : 0 ≤ pClamp v ∧ pClamp v ≤ 999 := by
  unfold pClamp mx mn
  constructor <;> (split <;> split <;> omega)
theorem pClamp_impl (v : Int) : mn (mx v 0) 999 = pClamp v := by
  unfold pClamp mx mn
  split <;> split <;> split <;> (try split) <;> omega
def pStep (l : List S103) (a : Int) (r s n : List Int) (v : Int) : Int × List Int × List Int × List Int :=
  if pCan l a r s n = true then (
    if (rd_T103 l a).f0 = 5 then (wrap64 (a + 1), r.set (rd_T103 l a).f1.toNat (Int.tmod (wrap64 (rd r (rd_T103 l a).f2 + rd r (rd_T103 l a).f3)) 1000), s, n)
    else if (rd_T103 l a).f0 = 6 then (wrap64 (a + 1), r, s, n.set (rd_T103 l a).f2.toNat (rd r (rd_T103 l a).f1))
    else if (rd_T103 l a).f0 = 7 then (if Int.tmod (rd r (rd_T103 l a).f1) 2 = 0 then (wrap64 (wrap64 (a + 1) + (rd_T103 l a).f2), r, s, n) else (wrap64 (a + 1), r, s, n))
    else if (rd_T103 l a).f0 = 8 then (wrap64 (a + 1), r.set (rd_T103 l a).f1.toNat (rd s (rd_T103 l a).f2), s, n)
    else if (rd_T103 l a).f0 = 9 then (wrap64 (a + 1), r, s.set (rd_T103 l a).f2.toNat (rd r (rd_T103 l a).f1), n)
    else (wrap64 (a + 1), r.set (rd_T103 l a).f1.toNat (pClamp v), s, n)) else (a, r, s, n)
theorem pStep_len (l : List S103) (a : Int) (r s n : List Int) (v : Int) : (pStep l a r s n v).2.1.length = r.length ∧ (pStep l a r s n v).2.2.1.length = s.length ∧ (pStep l a r s n v).2.2.2.length = n.length := by
  unfold pStep
  repeat' split
  all_goals simp only [List.length_set, and_self]
theorem pOp_5 {y : S103} (h : pOp y = true) (c : y.f0 = 5) : 0 ≤ y.f2 ∧ y.f2 ≤ 3 ∧ 0 ≤ y.f3 ∧ y.f3 ≤ 3 := by
  unfold pOp at h
  rw [if_neg (by omega), if_neg (by omega), if_pos c] at h
  simp only [pIn, Bool.and_eq_true, decide_eq_true_eq] at h
  omega
theorem pOp_6 {y : S103} (h : pOp y = true) (c : y.f0 = 6) : 0 ≤ y.f2 ∧ y.f2 ≤ 3 := by
  unfold pOp at h
  rw [if_neg (by omega), if_neg (by omega), if_neg (by omega), if_pos c] at h
  simp only [pIn, Bool.and_eq_true, decide_eq_true_eq] at h
  omega
theorem pOp_7 {y : S103} (h : pOp y = true) (c : y.f0 = 7) : 1 ≤ y.f2 ∧ y.f2 ≤ 3 := by
  unfold pOp at h
  rw [if_neg (by omega), if_neg (by omega), if_neg (by omega), if_neg (by omega), if_pos c] at h
  simp only [pIn, Bool.and_eq_true, decide_eq_true_eq] at h
  omega
theorem pOp_8 {y : S103} (h : pOp y = true) (c : y.f0 = 8) : 0 ≤ y.f2 ∧ y.f2 ≤ 2 := by
  unfold pOp at h
  rw [if_neg (by omega), if_neg (by omega), if_neg (by omega), if_neg (by omega), if_neg (by omega), if_pos c] at h
  simp only [pIn, Bool.and_eq_true, decide_eq_true_eq] at h
  omega
theorem pOp_9 {y : S103} (h : pOp y = true) (c : y.f0 = 9) : 0 ≤ y.f2 ∧ y.f2 ≤ 2 := by
  unfold pOp at h
  rw [if_neg (by omega), if_neg (by omega), if_neg (by omega), if_neg (by omega), if_neg (by omega), if_neg (by omega), if_pos c] at h
  simp only [pIn, Bool.and_eq_true, decide_eq_true_eq] at h
  omega
def pAsks (k : Int) : Bool := decide (1 ≤ k) && decide (k ≤ 4)
def pWant (l : List S103) (a : Int) (r s n : List Int) : Int × Int × Int × Int :=
  if pCan l a r s n = true ∧ pAsks (rd_T103 l a).f0 = true then (if (rd_T103 l a).f0 = 1 then ((rd_T103 l a).f0, (rd_T103 l a).f2, (rd_T103 l a).f3, Int.tmod (rd r (rd_T103 l a).f1) 100) else ((rd_T103 l a).f0, 0, 0, 0)) else (0, 0, 0, 0)
/-- A cursor that stands in its bytes or behind them. -/
def Cur (b : List Int) (i : Int) : Prop := b.length ≤ 1048576 ∧ 0 ≤ i ∧ i ≤ (b.length : Int)
theorem and255 (v : Int) : 0 ≤ Go.bits .and .i64 v 255 ∧ Go.bits .and .i64 v 255 ≤ 255 := by
  have hle : (BitVec.ofInt IntKind.i64.bits v &&& BitVec.ofInt IntKind.i64.bits 255).toNat ≤ 255 := by
    rw [BitVec.toNat_and]
    exact Nat.le_trans Nat.and_le_right (by decide)
  have e : Go.bits .and .i64 v 255 = (((BitVec.ofInt IntKind.i64.bits v &&& BitVec.ofInt IntKind.i64.bits 255).toNat : Nat) : Int) := by
    simp only [Go.bits]
    rw [IntKind.wrap_i64]
    omega
  rw [e]
  omega
/-- From some number of rounds on g answers something of which Q is true. -/
def Any {α : Type} (g : Nat → Option α) (Q : α → Prop) : Prop := ∃ r, Ev g r ∧ Q r
theorem Any.of {α : Type} {g : Nat → Option α} {Q : α → Prop} {r : α} (h : Ev g r) (q : Q r) : Any g Q := ⟨r, h, q⟩
theorem Any.now {α : Type} {Q : α → Prop} {r : α} (q : Q r) : Any (fun _ => some r) Q := ⟨r, Ev.now r, q⟩
theorem Any.mono {α : Type} {g : Nat → Option α} {P Q : α → Prop} (h : Any g P) (m : ∀ r, P r → Q r) : Any g Q := by
  obtain ⟨r, e, q⟩ := h
  exact ⟨r, e, m r q⟩
theorem Any.bind {α β : Type} {f : Nat → Option β} {g : Nat → β → Option α} {P : β → Prop} {Q : α → Prop} (h : Any f P) (k : ∀ x, P x → Any (fun n => g n x) Q) : Any (fun n => (f n).bind (g n)) Q := by
  obtain ⟨x, e, p⟩ := h
  obtain ⟨r, e2, q⟩ := k x p
  exact ⟨r, Ev.bind e e2, q⟩
theorem Any.ev {α β : Type} {f : Nat → Option β} {g : Nat → β → Option α} {v : β} {Q : α → Prop} (h : Ev f v) (k : Any (fun n => g n v) Q) : Any (fun n => (f n).bind (g n)) Q := by
  obtain ⟨r, e2, q⟩ := k
  exact ⟨r, Ev.bind h e2, q⟩
theorem Any.opt {α β : Type} {o : Option β} {g : Nat → β → Option α} {P : β → Prop} {Q : α → Prop} (h : ∃ x, o = some x ∧ P x) (k : ∀ x, P x → Any (fun n => g n x) Q) : Any (fun n => o.bind (g n)) Q := by
  obtain ⟨x, e, p⟩ := h
  obtain ⟨r, e2, q⟩ := k x p
  exact ⟨r, Ev.now_bind e e2, q⟩
theorem Any.ite {α : Type} {c : Prop} [Decidable c] {A B : Nat → Option α} {Q : α → Prop} (k : c → Any A Q) (l : ¬ c → Any B Q) : Any (fun n => if c then A n else B n) Q := by
  by_cases h : c
  · obtain ⟨r, e, q⟩ := k h
    exact ⟨r, Ev.pos h e, q⟩
  · obtain ⟨r, e, q⟩ := l h
    exact ⟨r, Ev.neg h e, q⟩
theorem Any.pos {α : Type} {c : Prop} [Decidable c] {A B : Nat → Option α} {Q : α → Prop} (h : c) (k : Any A Q) : Any (fun n => if c then A n else B n) Q := by
  obtain ⟨r, e, q⟩ := k
  exact ⟨r, Ev.pos h e, q⟩
theorem Any.neg {α : Type} {c : Prop} [Decidable c] {A B : Nat → Option α} {Q : α → Prop} (h : ¬ c) (k : Any B Q) : Any (fun n => if c then A n else B n) Q := by
  obtain ⟨r, e, q⟩ := k
  exact ⟨r, Ev.neg h e, q⟩
theorem Any.round {α : Type} {g f : Nat → Option α} {Q : α → Prop} (h : ∀ k, g (k + 1) = f k) (k : Any f Q) : Any g Q := by
  obtain ⟨r, e, q⟩ := k
  exact ⟨r, Ev.round h e, q⟩
theorem Any.to {α : Type} {g : Nat → Option α} {v : α} (h : Any g (fun r => r = v)) : Ev g v := by
  obtain ⟨r, e, rfl⟩ := h
  exact e
theorem Any.then_ {α β : Type} {f : Nat → Option β} {g : Nat → β → Option α} {P : β → Prop} {v : α} (h : Any f P) (k : ∀ x, P x → Ev (fun n => g n x) v) : Ev (fun n => (f n).bind (g n)) v := by
  obtain ⟨x, e, p⟩ := h
  exact Ev.bind e (k x p)
theorem pOp_kind {y : S103} (h : pOp y = true) : 1 ≤ y.f0 ∧ y.f0 ≤ 9 := by
  unfold pOp at h
  simp only [Bool.and_eq_true] at h
  have h2 := h.2
  by_cases h1 : y.f0 = 1
  · omega
  rw [if_neg h1] at h2
  by_cases h2' : y.f0 = 2 ∨ y.f0 = 3 ∨ y.f0 = 4
  · omega
  rw [if_neg h2'] at h2
  by_cases h5 : y.f0 = 5
  · omega
  rw [if_neg h5] at h2
  by_cases h6 : y.f0 = 6
  · omega
  rw [if_neg h6] at h2
  by_cases h7 : y.f0 = 7
  · omega
  rw [if_neg h7] at h2
  by_cases h8 : y.f0 = 8
  · omega
  rw [if_neg h8] at h2
  by_cases h9 : y.f0 = 9
  · omega
  rw [if_neg h9] at h2
  simp at h2
theorem rd_in {l : List Int} (h : ∀ y ∈ l, 0 ≤ y ∧ y ≤ 999) (i : Int) : 0 ≤ rd l i ∧ rd l i ≤ 999 := by
  unfold rd
  rw [List.getD_eq_getElem?_getD]
  cases e : l[i.toNat]? with
  | none => simp
  | some y => exact h y (List.mem_of_getElem? e)
theorem Ev.ite_to {α : Type} {c : Prop} [Decidable c] {A B : Nat → Option α} {r : α} (k : c → Ev A r) (l : ¬ c → Ev B r) : Ev (fun n => if c then A n else B n) r := by
  by_cases h : c
  · exact Ev.pos h (k h)
  · exact Ev.neg h (l h)
theorem set_in {l : List Int} (h : ∀ y ∈ l, 0 ≤ y ∧ y ≤ 999) (i : Nat) {x : Int} (hx : 0 ≤ x ∧ x ≤ 999) : ∀ y ∈ l.set i x, 0 ≤ y ∧ y ≤ 999 := by
  intro y hy
  rcases List.mem_or_eq_of_mem_set hy with h1 | h1
  · exact h y h1
  · omega
theorem tmod_in (m : Int) (h : 0 ≤ m) : 0 ≤ Int.tmod m 1000 ∧ Int.tmod m 1000 ≤ 999 := by
  rw [Int.tmod_eq_emod_of_nonneg h]
  omega
theorem pState_mk {a : Int} {r s n : List Int} (ha : 0 ≤ a ∧ a ≤ 19) (h1 : r.length = 4) (h2 : s.length = 3) (h3 : n.length = 4) (k1 : ∀ y ∈ r, 0 ≤ y ∧ y ≤ 999) (k2 : ∀ y ∈ s, 0 ≤ y ∧ y ≤ 999) (k3 : ∀ y ∈ n, 0 ≤ y ∧ y ≤ 999) : pState a r s n = true := by
  unfold pState
  simp only [pIn, Bool.and_eq_true, decide_eq_true_eq, List.all_eq_true, beq_iff_eq]
  exact ⟨ha, ⟨k1, by omega⟩, ⟨k2, by omega⟩, k3, by omega⟩
theorem pStep_ok (l : List S103) (a : Int) (r s n : List Int) (v : Int) (hc : pCan l a r s n = true) : pState (pStep l a r s n v).1 (pStep l a r s n v).2.1 (pStep l a r s n v).2.2.1 (pStep l a r s n v).2.2.2 = true ∧ a < (pStep l a r s n v).1 ∧ (pStep l a r s n v).1 ≤ a + 4 := by
  obtain ⟨f1, f2, f3, f4, f5, f6, f7, f8, f9, f10, f11⟩ := pCan_facts hc
  have ho : pOp (rd_T103 l a) = true := f9 _ (getD_mem l a.toNat (by omega) z103)
  have ew : wrap64 (a + 1) = a + 1 := w64 (by omega) (by omega)
  unfold pStep
  rw [if_pos hc]
  generalize rd_T103 l a = y at ho
  by_cases c5 : y.f0 = 5
  · rw [if_pos c5, ew]
    have g1 := rd_in f6 y.f2
    have g2 := rd_in f6 y.f3
    refine ⟨pState_mk (by dsimp only; omega) (by simpa using f3) f4 f5 (set_in f6 _ (tmod_in _ ?_)) f7 f8, by dsimp only; omega, by dsimp only; omega⟩
    rw [w64 (by omega) (by omega)]
    omega
  rw [if_neg c5]
  by_cases c6 : y.f0 = 6
  · rw [if_pos c6, ew]
    exact ⟨pState_mk (by dsimp only; omega) f3 f4 (by simpa using f5) f6 f7 (set_in f8 _ (rd_in f6 _)), by dsimp only; omega, by dsimp only; omega⟩
  rw [if_neg c6]
  by_cases c7 : y.f0 = 7
  · have g := pOp_7 ho c7
    rw [if_pos c7, ew]
    by_cases c : Int.tmod (rd r y.f1) 2 = 0
    · rw [if_pos c, w64 (by omega) (by omega)]
      exact ⟨pState_mk (by dsimp only; omega) f3 f4 f5 f6 f7 f8, by dsimp only; omega, by dsimp only; omega⟩
    · rw [if_neg c]
      exact ⟨pState_mk (by dsimp only; omega) f3 f4 f5 f6 f7 f8, by dsimp only; omega, by dsimp only; omega⟩
  rw [if_neg c7]
  by_cases c8 : y.f0 = 8
  · rw [if_pos c8, ew]
    exact ⟨pState_mk (by dsimp only; omega) (by simpa using f3) f4 f5 (set_in f6 _ (rd_in f7 _)) f7 f8, by dsimp only; omega, by dsimp only; omega⟩
  rw [if_neg c8]
  by_cases c9 : y.f0 = 9
  · rw [if_pos c9, ew]
    exact ⟨pState_mk (by dsimp only; omega) f3 (by simpa using f4) f5 f6 (set_in f7 _ (rd_in f6 _)) f8, by dsimp only; omega, by dsimp only; omega⟩
  rw [if_neg c9, ew]
  exact ⟨pState_mk (by dsimp only; omega) (by simpa using f3) f4 f5 (set_in f6 _ (pClamp_in v)) f7 f8, by dsimp only; omega, by dsimp only; omega⟩
theorem pWant_ok (l : List S103) (a : Int) (r s n : List Int) (hc : pCan l a r s n = true) (h : 0 < (pWant l a r s n).1) : pAsks (pWant l a r s n).1 = true ∧ ((pWant l a r s n).1 = 1 → pAddr (pWant l a r s n).2.1 (pWant l a r s n).2.2.1 (pWant l a r s n).2.2.2 = true) := by
  obtain ⟨f1, f2, f3, f4, f5, f6, f7, f8, f9, f10, f11⟩ := pCan_facts hc
  have ho : pOp (rd_T103 l a) = true := f9 _ (getD_mem l a.toNat (by omega) z103)
  unfold pWant at h ⊢
  generalize rd_T103 l a = y at ho h ⊢
  by_cases c : pCan l a r s n = true ∧ pAsks y.f0 = true
  · rw [if_pos c] at h ⊢
    by_cases c1 : y.f0 = 1
    · rw [if_pos c1] at h ⊢
      refine ⟨c.2, fun _ => ?_⟩
      have g := rd_in f6 y.f1
      have hg : 0 ≤ Int.tmod (rd r y.f1) 100 ∧ Int.tmod (rd r y.f1) 100 ≤ 99 := by
        rw [Int.tmod_eq_emod_of_nonneg g.1]
        omega
      unfold pOp at ho
      rw [if_pos c1] at ho
      unfold pAddr
      simp only [pIn, Bool.and_eq_true, decide_eq_true_eq] at ho ⊢
      exact ⟨ho.2.1, ho.2.2, hg⟩
    · rw [if_neg c1] at h ⊢
      exact ⟨c.2, fun e => absurd e c1⟩
  · rw [if_neg c] at h
    exact absurd h (by simp)
theorem pStep_one (l : List S103) (a : Int) (r s n : List Int) (v u : Int) (h : (pWant l a r s n).1 = 0) : pStep l a r s n v = pStep l a r s n u := by
  by_cases hc : pCan l a r s n = true
  · obtain ⟨f1, f2, f3, f4, f5, f6, f7, f8, f9, f10, f11⟩ := pCan_facts hc
    have ho : pOp (rd_T103 l a) = true := f9 _ (getD_mem l a.toNat (by omega) z103)
    unfold pWant at h
    unfold pStep
    rw [if_pos hc, if_pos hc]
    generalize rd_T103 l a = y at ho h ⊢
    have hk : ¬ (1 ≤ y.f0 ∧ y.f0 ≤ 4) := by
      intro hk
      have e : pAsks y.f0 = true := by unfold pAsks; simp; omega
      rw [if_pos ⟨hc, e⟩] at h
      split at h
      · dsimp only at h; omega
      · dsimp only at h; omega
    have hkind : 1 ≤ y.f0 ∧ y.f0 ≤ 9 := pOp_kind ho
    repeat' split
    all_goals first | rfl | omega
  · unfold pStep
    rw [if_neg hc, if_neg hc]
def pEntry (y : S107) : Bool := (decide (1 ≤ y.f0) && decide (y.f0 ≤ 4)) && (pIn y.f2 0 999 && (if y.f0 = 1 then pAddr y.f1.f0 y.f1.f1 y.f1.f2 else pZero y.f1.f0 y.f1.f1 y.f1.f2))
def pEntries (l : List S107) : Bool := l.all pEntry && decide ((l.length : Int) ≤ 16)
theorem not_any' {α : Type} (l : List α) (p : α → Bool) : (!(l.any fun y => !p y)) = l.all p := by
  rw [List.all_eq_not_any_not]
theorem not_zero (a b c : Int) : (!(a == 0) || (!(b == 0) || (!(c == 0)))) = !pZero a b c := by
  unfold pZero
  cases (a == 0) <;> cases (b == 0) <;> cases (c == 0) <;> rfl
theorem l1In_eq (a b c : Int) : spec_l1In.f a b c = some (decide (b ≤ a) && decide (a ≤ c)) := by
  unfold spec_l1In.f
  by_cases h : b ≤ a <;> simp [h]
theorem sAsks_eq (k : Int) : spec_Asks.f k = some (pAsks k) := by
  unfold spec_Asks.f pAsks
  rw [l1In_eq]
  rfl
theorem sIsAddress_eq (h p q : Int) : spec_IsAddress.f h p q = some (pAddr h p q) := by
  simp only [spec_IsAddress.f, l1In_eq, Option.bind_some, some_and]
theorem sAreEntries_ev (l : List S107) (h : l.length ≤ 1048576) : Ev (fun k => spec_AreEntries.f k l) (pEntries l) := by
  unfold spec_AreEntries.f pEntries
  refine ev_all (fun k i => spec_AreEntries.l0 k l i) l z107 pEntry _ (fun k => by rw [spec_AreEntries.l0, if_neg (by omega)]) ?_ ?_
  · intro i hi hp r hr
    have e1 : wrap64 ((i : Int) + 1) = ((i + 1 : Nat) : Int) := by rw [w64 (by omega) (by omega)]; omega
    have hp' : pEntry (rd_T107 l (i : Int)) = true := hp
    generalize hy : rd_T107 l (i : Int) = y at hp'
    unfold pEntry at hp'
    simp only [Bool.and_eq_true] at hp'
    obtain ⟨p1, p2, p3⟩ := hp'
    refine Ev.round (fun _ => by rw [spec_AreEntries.l0]) ?_
    refine Ev.pos (by omega) ?_
    refine Ev.pos (by omega) ?_
    simp only [hy, e1]
    refine Ev.now_bind (sAsks_eq _) ?_
    refine Ev.pos (by unfold pAsks; simp [p1]) ?_
    refine Ev.now_bind (l1In_eq _ _ _) ?_
    refine Ev.pos (by simp [p2]) ?_
    by_cases h1 : y.f0 = 1
    · rw [if_pos h1] at p3
      refine Ev.pos h1 ?_
      refine Ev.now_bind (sIsAddress_eq _ _ _) ?_
      exact Ev.pos p3 hr
    · rw [if_neg h1] at p3
      refine Ev.neg h1 ?_
      refine Ev.neg ?_ hr
      rw [not_zero, p3]
      simp
  · intro i hi hp
    have hp' : pEntry (rd_T107 l (i : Int)) = false := hp
    generalize hy : rd_T107 l (i : Int) = y at hp'
    unfold pEntry pIn at hp'
    refine Ev.round (fun _ => by rw [spec_AreEntries.l0]) ?_
    refine Ev.pos (by omega) ?_
    refine Ev.pos (by omega) ?_
    simp only [hy]
    refine Ev.now_bind (sAsks_eq _) ?_
    unfold pAsks
    cases p1 : (decide (1 ≤ y.f0) && decide (y.f0 ≤ 4)) with
    | false => exact Ev.neg (by simp) (Ev.now _)
    | true =>
      rw [p1, Bool.true_and] at hp'
      refine Ev.pos rfl ?_
      refine Ev.now_bind (l1In_eq _ _ _) ?_
      cases p2 : (decide (0 ≤ y.f2) && decide (y.f2 ≤ 999)) with
      | false => exact Ev.neg (by simp) (Ev.now _)
      | true =>
        have hp2 : (if y.f0 = 1 then pAddr y.f1.f0 y.f1.f1 y.f1.f2 else pZero y.f1.f0 y.f1.f1 y.f1.f2) = false := by
          rw [p2, Bool.true_and] at hp'
          exact hp'
        refine Ev.pos rfl ?_
        by_cases h1 : y.f0 = 1
        · rw [if_pos h1] at hp2
          refine Ev.pos h1 ?_
          refine Ev.now_bind (sIsAddress_eq _ _ _) ?_
          refine Ev.neg (ne_true_of_eq_false hp2) ?_
          exact Ev.now _
        · rw [if_neg h1] at hp2
          refine Ev.neg h1 ?_
          refine Ev.pos ?_ (Ev.now _)
          rw [not_zero, hp2]
          rfl
def pDiff (e : S107) (w : Int × Int × Int × Int) : Bool := (!((e.f1.f0) == w.2.1) || (!((e.f1.f1) == w.2.2.1) || (!((e.f1.f2) == w.2.2.2))))
/-- A replay, with at most so many rounds. -/
def pRun (l : List S103) (es : List S107) : Nat → List S41 → Int → (Int × List Int × List Int × List Int) → Int × Int × Int × List Int × List Int × List Int × List S41
  | 0, tr, _, z => (0, 0, z.1, z.2.1, z.2.2.1, z.2.2.2, tr)
  | m + 1, tr, n, z =>
    if (l.length : Int) ≤ z.1 then (if n < (es.length : Int) then (1, n, z.1, z.2.1, z.2.2.1, z.2.2.2, tr) else (0, 0, z.1, z.2.1, z.2.2.1, z.2.2.2, tr))
    else if (pWant l z.1 z.2.1 z.2.2.1 z.2.2.2).1 = 0 then
      pRun l es m (tr ++ [⟨(pStep l z.1 z.2.1 z.2.2.1 z.2.2.2 0).1, (pStep l z.1 z.2.1 z.2.2.1 z.2.2.2 0).2.1, (pStep l z.1 z.2.1 z.2.2.1 z.2.2.2 0).2.2.1, (pStep l z.1 z.2.1 z.2.2.1 z.2.2.2 0).2.2.2⟩]) n (pStep l z.1 z.2.1 z.2.2.1 z.2.2.2 0)
    else if n = (es.length : Int) then (2, n, z.1, z.2.1, z.2.2.1, z.2.2.2, tr)
    else if (rd_T107 es n).f0 = (pWant l z.1 z.2.1 z.2.2.1 z.2.2.2).1 ∧ pDiff (rd_T107 es n) (pWant l z.1 z.2.1 z.2.2.1 z.2.2.2) = false then
      pRun l es m (tr ++ [⟨(pStep l z.1 z.2.1 z.2.2.1 z.2.2.2 (rd_T107 es n).f2).1, (pStep l z.1 z.2.1 z.2.2.1 z.2.2.2 (rd_T107 es n).f2).2.1, (pStep l z.1 z.2.1 z.2.2.1 z.2.2.2 (rd_T107 es n).f2).2.2.1, (pStep l z.1 z.2.1 z.2.2.1 z.2.2.2 (rd_T107 es n).f2).2.2.2⟩]) (n + 1) (pStep l z.1 z.2.1 z.2.2.1 z.2.2.2 (rd_T107 es n).f2)
    else (1, n, z.1, z.2.1, z.2.2.1, z.2.2.2, tr)
theorem pRun_left (l : List S103) (es : List S107) (m : Nat) (tr : List S41) (n : Int) (z : Int × List Int × List Int × List Int) (h : (l.length : Int) ≤ z.1) (c : n < (es.length : Int)) : pRun l es (m + 1) tr n z = (1, n, z.1, z.2.1, z.2.2.1, z.2.2.2, tr) := by rw [pRun, if_pos h, if_pos c]
theorem pRun_same (l : List S103) (es : List S107) (m : Nat) (tr : List S41) (n : Int) (z : Int × List Int × List Int × List Int) (h : (l.length : Int) ≤ z.1) (c : ¬ n < (es.length : Int)) : pRun l es (m + 1) tr n z = (0, 0, z.1, z.2.1, z.2.2.1, z.2.2.2, tr) := by rw [pRun, if_pos h, if_neg c]
def z0 : Int × List Int × List Int × List Int := (0, [0, 0, 0, 0], [0, 0, 0], [0, 0, 0, 0])
def pPlay (l : List S103) (es : List S107) : Int × Int × Int × List Int × List Int × List Int × List S41 :=
  if pScript l = true ∧ pEntries es = true then pRun l es 40 [⟨0, [0, 0, 0, 0], [0, 0, 0], [0, 0, 0, 0]⟩] 0 z0 else (2, 0, 0, [0, 0, 0, 0], [0, 0, 0], [0, 0, 0, 0], [⟨0, [0, 0, 0, 0], [0, 0, 0], [0, 0, 0, 0]⟩])
theorem pWant_nn (l : List S103) (a : Int) (r s n : List Int) (hc : pCan l a r s n = true) : 0 ≤ (pWant l a r s n).1 := by
  unfold pWant
  split
  · rename_i c
    have := c.2
    unfold pAsks at this
    simp only [Bool.and_eq_true, decide_eq_true_eq] at this
    split <;> (dsimp only; omega)
  · simp
theorem pScript_len {l : List S103} (h : pScript l = true) : l.length ≤ 16 := by
  unfold pScript at h
  simp only [Bool.and_eq_true, decide_eq_true_eq] at h
  omega
def StOk (z : Int × List Int × List Int × List Int) : Prop := pState z.1 z.2.1 z.2.2.1 z.2.2.2 = true
theorem z0_ok : StOk z0 := by unfold StOk; decide
theorem can_of {l : List S103} (hs : pScript l = true) {z : Int × List Int × List Int × List Int} (hz : StOk z) (h : ¬ (l.length : Int) ≤ z.1) : pCan l z.1 z.2.1 z.2.2.1 z.2.2.2 = true := by
  unfold pCan
  unfold StOk at hz
  rw [hs, hz]
  simp only [Bool.true_and, decide_eq_true_eq]
  omega
theorem StOk_len {z : Int × List Int × List Int × List Int} (h : StOk z) : z.2.1.length = 4 ∧ z.2.2.1.length = 3 ∧ z.2.2.2.length = 4 := by
  unfold StOk pState at h
  simp only [Bool.and_eq_true, beq_iff_eq] at h
  omega
theorem pRun_ok (l : List S103) (es : List S107) (hs : pScript l = true) : ∀ (m : Nat) (tr : List S41) (n : Int) (z : Int × List Int × List Int × List Int), StOk z →
    StOk ((pRun l es m tr n z).2.2.1, (pRun l es m tr n z).2.2.2.1, (pRun l es m tr n z).2.2.2.2.1, (pRun l es m tr n z).2.2.2.2.2.1) := by
  intro m
  induction m with
  | zero => intro tr n z hz; exact hz
  | succ m ih =>
    intro tr n z hz
    rw [pRun]
    by_cases c1 : (l.length : Int) ≤ z.1
    · rw [if_pos c1]
      split <;> exact hz
    rw [if_neg c1]
    have hc := can_of hs hz c1
    split
    · exact ih _ _ _ (pStep_ok l _ _ _ _ _ hc).1
    split
    · exact hz
    split
    · exact ih _ _ _ (pStep_ok l _ _ _ _ _ hc).1
    · exact hz
theorem pPlay_ok (l : List S103) (es : List S107) : StOk ((pPlay l es).2.2.1, (pPlay l es).2.2.2.1, (pPlay l es).2.2.2.2.1, (pPlay l es).2.2.2.2.2.1) := by
  unfold pPlay
  split
  · rename_i h
    exact pRun_ok l es h.1 40 _ 0 z0 z0_ok
  · exact z0_ok
theorem sOp_ev (y : S103) : Ev (fun k => spec_l10Ok.f k y.f0 y.f1 y.f2 y.f3) (pOp y) := by
  unfold spec_l10Ok.f pOp
  refine Ev.now_and (l1In_eq _ _ _) fun _ => ?_
  by_cases h1 : y.f0 = 1
  · rw [if_pos h1]
    refine Ev.pos h1 ?_
    exact Ev.now_and (l1In_eq _ _ _) fun _ => Ev.now_bind (l1In_eq _ _ _) (Ev.now _)
  rw [if_neg h1]
  refine Ev.neg h1 ?_
  have hj : ∀ x : Bool, (x = true ↔ y.f0 = 2 ∨ y.f0 = 3 ∨ y.f0 = 4) → Ev (fun k => spec_l10Ok.j0 k 3 y.f0 x y.f0 y.f1 y.f2 y.f3) (if y.f0 = 2 ∨ y.f0 = 3 ∨ y.f0 = 4 then decide (y.f2 = 0) && (y.f3 == 0)
    else if y.f0 = 5 then pIn y.f2 0 3 && pIn y.f3 0 3
    else if y.f0 = 6 then pIn y.f2 0 3 && (y.f3 == 0)
    else if y.f0 = 7 then pIn y.f2 1 3 && (y.f3 == 0)
    else if y.f0 = 8 then pIn y.f2 0 2 && (y.f3 == 0)
    else if y.f0 = 9 then pIn y.f2 0 2 && (y.f3 == 0)
    else false) := by
    intro x hx
    refine Ev.round (fun _ => by rw [spec_l10Ok.j0]) ?_
    cases x with
    | true =>
      rw [if_pos (hx.1 rfl)]
      refine Ev.pos rfl ?_
      exact Ev.if_and fun _ => Ev.now _
    | false =>
      have hno : ¬ (y.f0 = 2 ∨ y.f0 = 3 ∨ y.f0 = 4) := fun c => by simpa using hx.2 c
      rw [if_neg hno]
      refine Ev.neg (by simp) ?_
      refine Ev.ite (fun _ => ?_) (fun _ => ?_)
      · exact Ev.now_and (l1In_eq _ _ _) fun _ => Ev.now_bind (l1In_eq _ _ _) (Ev.now _)
      refine Ev.ite (fun _ => ?_) (fun _ => ?_)
      · exact Ev.now_and (l1In_eq _ _ _) fun _ => Ev.now _
      refine Ev.ite (fun _ => ?_) (fun _ => ?_)
      · exact Ev.now_and (l1In_eq _ _ _) fun _ => Ev.now _
      refine Ev.ite (fun _ => ?_) (fun _ => ?_)
      · exact Ev.now_and (l1In_eq _ _ _) fun _ => Ev.now _
      refine Ev.ite (fun _ => ?_) (fun _ => ?_)
      · exact Ev.now_and (l1In_eq _ _ _) fun _ => Ev.now _
      · exact Ev.now _
  by_cases h2 : y.f0 = 2
  · refine Ev.pos h2 (hj _ ?_)
    simp [h2]
  refine Ev.neg h2 ?_
  by_cases h3 : y.f0 = 3
  · refine Ev.pos h3 (hj _ ?_)
    simp [h3]
  refine Ev.neg h3 (hj _ ?_)
  simp [h2, h3]
theorem sIsScript_ev (l : List S103) (h : l.length ≤ 1048576) : Ev (fun k => spec_IsScript.f k l) (pScript l) := by
  unfold spec_IsScript.f pScript
  refine ev_all (fun k i => spec_IsScript.l0 k l i) l z103 pOp _ (fun k => by rw [spec_IsScript.l0, if_neg (by omega)]) ?_ ?_
  · intro i hi hp r hr
    have e1 : wrap64 ((i : Int) + 1) = ((i + 1 : Nat) : Int) := by rw [w64 (by omega) (by omega)]; omega
    refine Ev.round (fun _ => by rw [spec_IsScript.l0]) ?_
    refine Ev.pos (by omega) ?_
    refine Ev.pos (by omega) ?_
    refine Ev.bind (sOp_ev (rd_T103 l (i : Int))) ?_
    refine Ev.pos hp ?_
    simp only [e1]
    exact hr
  · intro i hi hp
    refine Ev.round (fun _ => by rw [spec_IsScript.l0]) ?_
    refine Ev.pos (by omega) ?_
    refine Ev.pos (by omega) ?_
    refine Ev.bind (sOp_ev (rd_T103 l (i : Int))) ?_
    refine Ev.neg (ne_true_of_eq_false hp) ?_
    exact Ev.now _
theorem l11All_ev (l : List Int) (n : Int) (h : l.length ≤ 1048576) : Ev (fun k => spec_l11All.f k l n) (l.all (pIn · 0 999) && ((l.length : Int) == n)) := by
  unfold spec_l11All.f
  refine ev_all (fun k i => spec_l11All.l0 k l n i) l 0 (pIn · 0 999) _ (fun k => by rw [spec_l11All.l0, if_neg (by omega)]) ?_ ?_
  · intro i hi hp r hr
    have e1 : wrap64 ((i : Int) + 1) = ((i + 1 : Nat) : Int) := by rw [w64 (by omega) (by omega)]; omega
    refine Ev.round (fun _ => by rw [spec_l11All.l0]) ?_
    refine Ev.pos (by omega) ?_
    refine Ev.pos (by omega) ?_
    refine Ev.now_bind (l1In_eq _ _ _) ?_
    refine Ev.pos ?_ ?_
    · rw [rd_nat]; exact hp
    · simp only [e1]; exact hr
  · intro i hi hp
    refine Ev.round (fun _ => by rw [spec_l11All.l0]) ?_
    refine Ev.pos (by omega) ?_
    refine Ev.pos (by omega) ?_
    refine Ev.now_bind (l1In_eq _ _ _) ?_
    refine Ev.neg ?_ (Ev.now _)
    rw [rd_nat]; exact ne_true_of_eq_false hp
theorem sIsState_ev (a : Int) (r s n : List Int) (h1 : r.length ≤ 1048576) (h2 : s.length ≤ 1048576) (h3 : n.length ≤ 1048576) : Ev (fun k => spec_IsState.f k a r s n) (pState a r s n) := by
  unfold spec_IsState.f pState
  exact Ev.now_and (l1In_eq _ _ _) fun _ => Ev.and (l11All_ev r 4 h1) fun _ => Ev.and (l11All_ev s 3 h2) fun _ => Ev.id (l11All_ev n 4 h3)
theorem sCan_ev (l : List S103) (a : Int) (r s n : List Int) (h : l.length ≤ 1048576) (h1 : r.length ≤ 1048576) (h2 : s.length ≤ 1048576) (h3 : n.length ≤ 1048576) : Ev (fun k => spec_l11Can.f k l a r s n) (pCan l a r s n) := by
  unfold spec_l11Can.f pCan
  exact Ev.and (sIsScript_ev l h) fun _ => Ev.and (sIsState_ev a r s n h1 h2 h3) fun _ => Ev.now _
theorem sWant_ev (l : List S103) (a : Int) (r s n : List Int) (h : l.length ≤ 1048576) (h1 : r.length ≤ 1048576) (h2 : s.length ≤ 1048576) (h3 : n.length ≤ 1048576) : Ev (fun k => spec_WantOf.f k l a r s n) (pWant l a r s n) := by
  unfold spec_WantOf.f pWant
  refine Ev.bind (sCan_ev l a r s n h h1 h2 h3) ?_
  have hj : Ev (fun k => spec_WantOf.j0 k l true a r s n) (0, 0, 0, 0) := by
    refine Ev.round (fun _ => by rw [spec_WantOf.j0]) ?_
    refine Ev.pos rfl ?_
    exact Ev.now _
  cases hc : pCan l a r s n with
  | false => exact Ev.neg (by simp) (Ev.cast hj (by simp))
  | true =>
    obtain ⟨f1, f2, f3, f4, f5, f6, f7, f8, f9, _, _⟩ := pCan_facts hc
    refine Ev.pos rfl ?_
    refine Ev.pos f1 ?_
    refine Ev.pos f2 ?_
    refine Ev.now_bind (sAsks_eq _) ?_
    cases hk : pAsks (rd_T103 l a).f0 with
    | false => exact Ev.cast hj (by simp)
    | true =>
      have hr := pOp_reg (f9 _ (getD_mem l a.toNat (by omega) z103))
      have hr' : 0 ≤ (rd_T103 l a).f1 ∧ (rd_T103 l a).f1 ≤ 3 := hr
      rw [if_pos ⟨rfl, rfl⟩]
      refine Ev.round (fun _ => by rw [spec_WantOf.j0]) ?_
      refine Ev.neg (by simp) ?_
      refine Ev.pos f1 ?_
      refine Ev.pos f2 ?_
      refine Ev.ite (fun _ => ?_) (fun _ => Ev.now _)
      exact Ev.pos hr'.1 (Ev.pos (by omega) (Ev.now _))
theorem sCopy_eq (a : Int) (r s n : List Int) (h1 : r.length ≤ 1048576) (h2 : s.length ≤ 1048576) (h3 : n.length ≤ 1048576) : spec_l11Copy.f a r s n = some (a, r, s, n) := by
  simp only [spec_l11Copy.f, Option.bind_some, List.nil_append, List.length_nil]
  rw [if_pos (by omega)]
  rw [if_pos (by omega)]
  rw [if_pos (by omega)]
theorem sStep_ev (l : List S103) (a : Int) (r s n : List Int) (v : Int) (h : l.length ≤ 1048576) (h1 : r.length ≤ 1048576) (h2 : s.length ≤ 1048576) (h3 : n.length ≤ 1048576) : Ev (fun k => spec_StepState.f k l a r s n v) (pStep l a r s n v) := by
  unfold spec_StepState.f
  refine Ev.now_bind (sCopy_eq a r s n h1 h2 h3) ?_
  refine Ev.bind (sCan_ev l a r s n h h1 h2 h3) ?_
  dsimp only
  unfold pStep
  by_cases c : pCan l a r s n = true
  · obtain ⟨f1, f2, f3, f4, f5, f6, f7, f8, f9, f10, f11⟩ := pCan_facts c
    have ho : pOp (rd_T103 l a) = true := f9 _ (getD_mem l a.toNat (by omega) z103)
    have hr := pOp_reg ho
    refine Ev.rpos c ?_
    refine Ev.pos c ?_
    refine Ev.pos f1 ?_
    refine Ev.pos f2 ?_
    refine Ev.ite (fun c5 => ?_) (fun c5 => ?_)
    · have ha := pOp_5 ho c5
      refine Ev.pos ha.1 ?_
      refine Ev.pos (by omega) ?_
      refine Ev.pos ha.2.2.1 ?_
      refine Ev.pos (by omega) ?_
      refine Ev.pos hr.1 ?_
      refine Ev.pos (by omega) ?_
      exact Ev.now _
    refine Ev.ite (fun c6 => ?_) (fun c6 => ?_)
    · have ha := pOp_6 ho c6
      refine Ev.pos hr.1 ?_
      refine Ev.pos (by omega) ?_
      refine Ev.pos ha.1 ?_
      refine Ev.pos (by omega) ?_
      exact Ev.now _
    refine Ev.ite (fun c7 => ?_) (fun c7 => ?_)
    · refine Ev.pos hr.1 ?_
      refine Ev.pos (by omega) ?_
      exact Ev.ite (fun _ => Ev.now _) (fun _ => Ev.now _)
    refine Ev.ite (fun c8 => ?_) (fun c8 => ?_)
    · have ha := pOp_8 ho c8
      refine Ev.pos ha.1 ?_
      refine Ev.pos (by omega) ?_
      refine Ev.pos hr.1 ?_
      refine Ev.pos (by omega) ?_
      exact Ev.now _
    refine Ev.ite (fun c9 => ?_) (fun c9 => ?_)
    · have ha := pOp_9 ho c9
      refine Ev.pos hr.1 ?_
      refine Ev.pos (by omega) ?_
      refine Ev.pos ha.1 ?_
      refine Ev.pos (by omega) ?_
      exact Ev.now _
    have em : spec_Min.f 999 v = some (mn 999 v) := by
      unfold spec_Min.f mn
      split <;> rfl
    have ex : spec_Max.f 0 (mn 999 v) = some (pClamp v) := by
      unfold spec_Max.f pClamp mx
      by_cases cx : (0 : Int) < mn 999 v
      · rw [if_pos cx, if_pos (show mn 999 v > 0 from cx)]
      · rw [if_neg cx, if_neg (show ¬ mn 999 v > 0 from cx)]
    refine Ev.now_bind em ?_
    refine Ev.now_bind ex ?_
    refine Ev.pos hr.1 ?_
    refine Ev.pos (by omega) ?_
    exact Ev.now _
  · refine Ev.rneg c ?_
    exact Ev.neg c (Ev.now _)
theorem l11Zeros_ev (n : Nat) (hn : n ≤ 1048576) : Ev (fun k => spec_l11Zeros.f k (n : Int)) (List.replicate n 0) := by
  have key : ∀ d i : Nat, i + d = n → Ev (fun k => spec_l11Zeros.l0 k (n : Int) (List.replicate i 0) (i : Int)) (List.replicate n 0) := by
    intro d
    induction d with
    | zero =>
      intro i hi
      obtain rfl : i = n := by omega
      refine Ev.round (fun _ => by rw [spec_l11Zeros.l0]) ?_
      exact Ev.neg (by omega) (Ev.now _)
    | succ d ih =>
      intro i hi
      have e1 : wrap64 ((i : Int) + 1) = ((i + 1 : Nat) : Int) := by rw [w64 (by omega) (by omega)]; omega
      have h := ih (i + 1) (by omega)
      rw [List.replicate_succ'] at h
      refine Ev.round (fun _ => by rw [spec_l11Zeros.l0]) ?_
      refine Ev.pos (by omega) ?_
      refine Ev.pos (by rw [List.length_replicate]; omega) ?_
      simp only [e1]
      exact h
  exact key n 0 (by omega)
theorem sStart_ev : Ev (fun k => spec_StartState.f k) (0, [0, 0, 0, 0], [0, 0, 0], [0, 0, 0, 0]) := by
  unfold spec_StartState.f
  exact Ev.bind (l11Zeros_ev 4 (by omega)) (Ev.bind (l11Zeros_ev 3 (by omega)) (Ev.bind (l11Zeros_ev 4 (by omega)) (Ev.now _)))
theorem s14_l0 (l : List S103) (es : List S107) (hs : pScript l = true) : ∀ (m : Nat) (tr : List S41) (n : Int) (z : Int × List Int × List Int × List Int), StOk z → 0 ≤ n → n ≤ (es.length : Int) → (l.length : Int) ≤ z.1 + (m : Int) → tr.length + m ≤ 1000 → es.length ≤ 1048576 →
    Ev (fun k => spec_l14Run.l0 k l es tr n z.1 z.2.1 z.2.2.1 z.2.2.2) (pRun l es (m + 1) tr n z) := by
  have hl := pScript_len hs
  intro m
  induction m with
  | zero =>
    intro tr n z hz h0 h1 hm ht he
    refine Ev.round (fun _ => by rw [spec_l14Run.l0]) ?_
    refine Ev.now_bind rfl ?_
    refine Ev.pos (decide_eq_true (by omega)) ?_
    by_cases c : n < (es.length : Int)
    · rw [pRun_left l es 0 tr n z (by omega) c]
      exact Ev.pos c (Ev.now _)
    · rw [pRun_same l es 0 tr n z (by omega) c]
      exact Ev.neg c (Ev.now _)
  | succ m ih =>
    intro tr n z hz h0 h1 hm ht he
    by_cases c1 : (l.length : Int) ≤ z.1
    · refine Ev.round (fun _ => by rw [spec_l14Run.l0]) ?_
      refine Ev.now_bind rfl ?_
      refine Ev.pos (decide_eq_true (by omega)) ?_
      by_cases c : n < (es.length : Int)
      · rw [pRun_left l es (m + 1) tr n z c1 c]
        exact Ev.pos c (Ev.now _)
      · rw [pRun_same l es (m + 1) tr n z c1 c]
        exact Ev.neg c (Ev.now _)
    have hc := can_of hs hz c1
    obtain ⟨g1, g2, g3⟩ := StOk_len hz
    have hw := sWant_ev l z.1 z.2.1 z.2.2.1 z.2.2.2 (by omega) (by omega) (by omega) (by omega)
    have hst := fun v => sStep_ev l z.1 z.2.1 z.2.2.1 z.2.2.2 v (by omega) (by omega) (by omega) (by omega)
    have hok := fun v => pStep_ok l z.1 z.2.1 z.2.2.1 z.2.2.2 v hc
    have hnn := pWant_nn l z.1 z.2.1 z.2.2.1 z.2.2.2 hc
    have e1 : n < (es.length : Int) → wrap64 (n + 1) = n + 1 := fun _ => w64 (by omega) (by omega)
    rw [pRun, if_neg c1]
    refine Ev.round (fun _ => by rw [spec_l14Run.l0]) ?_
    refine Ev.now_bind rfl ?_
    refine Ev.neg (by simp only [decide_eq_true_eq]; omega) ?_
    refine Ev.bind hw ?_
    generalize pWant l z.1 z.2.1 z.2.2.1 z.2.2.2 = w at hnn ⊢
    try dsimp only
    by_cases cw : w.1 = 0
    · rw [if_pos cw]
      refine Ev.neg (by omega) ?_
      refine Ev.bind (hst 0) ?_
      refine Ev.pos (by omega) ?_
      exact ih _ n _ (hok 0).1 h0 h1 (by have := (hok 0).2.1; omega) (by rw [List.length_append, List.length_singleton]; omega) he
    rw [if_neg cw]
    refine Ev.pos (by omega) ?_
    by_cases cn : n = (es.length : Int)
    · rw [if_pos cn]
      exact Ev.pos (by omega) (Ev.now _)
    rw [if_neg cn, e1 (by omega)]
    refine Ev.neg (by omega) ?_
    refine Ev.pos (by omega) ?_
    refine Ev.pos (by omega) ?_
    by_cases ck : (rd_T107 es n).f0 = w.1
    · refine Ev.pos ck ?_
      by_cases ca : pDiff (rd_T107 es n) w = true
      · rw [if_neg (by rw [ca]; simp)]
        exact Ev.pos ca (Ev.now _)
      · have cf : pDiff (rd_T107 es n) w = false := by simpa using ca
        rw [if_pos ⟨ck, cf⟩]
        refine Ev.neg ca ?_
        refine Ev.bind (hst _) ?_
        refine Ev.pos (by omega) ?_
        exact ih _ (n + 1) _ (hok _).1 (by omega) (by omega) (by have := (hok (rd_T107 es n).f2).2.1; omega) (by rw [List.length_append, List.length_singleton]; omega) he
    · rw [if_neg (fun h => ck h.1)]
      exact Ev.neg ck (Ev.now _)
theorem s14_ev (l : List S103) (es : List S107) (hl : l.length ≤ 1048576) (he : es.length ≤ 1048576) : Ev (fun k => spec_l14Run.f k l es) (pPlay l es) := by
  unfold spec_l14Run.f pPlay
  refine Ev.bind sStart_ev ?_
  refine Ev.now_bind rfl ?_
  refine Ev.bind (sIsScript_ev l hl) ?_
  by_cases c1 : pScript l = true
  · refine Ev.pos c1 ?_
    refine Ev.bind (sAreEntries_ev es he) ?_
    refine Ev.round (fun _ => by rw [spec_l14Run.j0]) ?_
    by_cases c2 : pEntries es = true
    · rw [if_pos ⟨c1, c2⟩]
      have := pScript_len c1
      refine Ev.neg (by simp [c2]) ?_
      exact s14_l0 l es c1 39 _ 0 z0 z0_ok (by omega) (by omega) (by show _ ≤ (0 : Int) + ((39 : Nat) : Int); omega) (by simp) he
    · rw [if_neg (fun h => c2 h.2)]
      exact Ev.pos (by simp [c2]) (Ev.now _)
  · rw [if_neg (fun h => c1 h.1)]
    refine Ev.neg c1 ?_
    refine Ev.round (fun _ => by rw [spec_l14Run.j0]) ?_
    exact Ev.pos rfl (Ev.now _)
theorem sTrace_ev (l : List S103) (es : List S107) (hl : l.length ≤ 1048576) (he : es.length ≤ 1048576) : Ev (fun k => spec_TraceReplay.f k l es) (pPlay l es).2.2.2.2.2.2 := by
  unfold spec_TraceReplay.f
  exact Ev.bind (s14_ev l es hl he) (Ev.now _)
theorem at_eq (a b : Int) : impl_at.f a b = some (decide (0 ≤ a) && decide (a < b)) := by
  unfold impl_at.f
  by_cases h : 0 ≤ a <;> simp [h]
theorem InRange_eq (a b c : Int) : impl_InRange.f a b c = some (decide (b ≤ a) && decide (a ≤ c)) := by
  unfold impl_InRange.f
  by_cases h : b ≤ a <;> simp [h]
theorem pIn_at (a : Int) : (decide (0 ≤ a) && decide (a < 4)) = pIn a 0 3 := by
  have : (a < 4) = (a ≤ 3) := by apply propext; omega
  simp only [this]
theorem pIn_at3 (a : Int) : (decide (0 ≤ a) && decide (a < 3)) = pIn a 0 2 := by
  have : (a < 3) = (a ≤ 2) := by apply propext; omega
  simp only [this]
theorem iOp_ev (y : S103) : Ev (fun k => impl_isOp.f k y.f0 y.f1 y.f2 y.f3) (pOp y) := by
  unfold impl_isOp.f pOp
  refine Ev.now_and ((at_eq _ _).trans (congrArg some (pIn_at _))) fun _ => ?_
  by_cases h1 : y.f0 = 1
  · rw [if_pos h1]
    refine Ev.pos h1 ?_
    exact Ev.now_and (InRange_eq _ _ _) fun _ => Ev.now_bind (InRange_eq _ _ _) (Ev.now _)
  rw [if_neg h1]
  refine Ev.neg h1 ?_
  have hj : ∀ x : Bool, (x = true ↔ y.f0 = 2 ∨ y.f0 = 3 ∨ y.f0 = 4) → Ev (fun k => impl_isOp.j0 k y.f0 x y.f0 y.f1 y.f2 y.f3) (if y.f0 = 2 ∨ y.f0 = 3 ∨ y.f0 = 4 then decide (y.f2 = 0) && (y.f3 == 0)
    else if y.f0 = 5 then pIn y.f2 0 3 && pIn y.f3 0 3
    else if y.f0 = 6 then pIn y.f2 0 3 && (y.f3 == 0)
    else if y.f0 = 7 then pIn y.f2 1 3 && (y.f3 == 0)
    else if y.f0 = 8 then pIn y.f2 0 2 && (y.f3 == 0)
    else if y.f0 = 9 then pIn y.f2 0 2 && (y.f3 == 0)
    else false) := by
    intro x hx
    refine Ev.round (fun _ => by rw [impl_isOp.j0]) ?_
    cases x with
    | true =>
      rw [if_pos (hx.1 rfl)]
      refine Ev.pos rfl ?_
      exact Ev.if_and fun _ => Ev.now _
    | false =>
      have hno : ¬ (y.f0 = 2 ∨ y.f0 = 3 ∨ y.f0 = 4) := fun c => by simpa using hx.2 c
      rw [if_neg hno]
      refine Ev.neg (by simp) ?_
      refine Ev.ite (fun _ => ?_) (fun _ => ?_)
      · exact Ev.now_and ((at_eq _ _).trans (congrArg some (pIn_at _))) fun _ => Ev.now_bind ((at_eq _ _).trans (congrArg some (pIn_at _))) (Ev.now _)
      refine Ev.ite (fun _ => ?_) (fun _ => ?_)
      · exact Ev.now_and ((at_eq _ _).trans (congrArg some (pIn_at _))) fun _ => Ev.now _
      refine Ev.ite (fun _ => ?_) (fun _ => ?_)
      · exact Ev.now_and (InRange_eq _ _ _) fun _ => Ev.now _
      refine Ev.ite (fun _ => ?_) (fun _ => ?_)
      · exact Ev.now_and ((at_eq _ _).trans (congrArg some (pIn_at3 _))) fun _ => Ev.now _
      refine Ev.ite (fun _ => ?_) (fun _ => ?_)
      · exact Ev.now_and ((at_eq _ _).trans (congrArg some (pIn_at3 _))) fun _ => Ev.now _
      · exact Ev.now _
  by_cases h2 : y.f0 = 2
  · refine Ev.pos h2 (hj _ ?_)
    simp [h2]
  refine Ev.neg h2 ?_
  by_cases h3 : y.f0 = 3
  · refine Ev.pos h3 (hj _ ?_)
    simp [h3]
  refine Ev.neg h3 (hj _ ?_)
  simp [h2, h3]
theorem iIsScript_ev (l : List S103) (h : l.length ≤ 1048576) : Ev (fun k => impl_IsScript.f k l) (pScript l) := by
  unfold impl_IsScript.f pScript
  rw [Bool.and_comm]
  refine Ev.if_and fun _ => ?_
  rw [← not_any]
  refine Ev.no ?_
  unfold slices_ContainsFunc_116.f
  have hf : ∃ r : Int, Ev (fun k => slices_IndexFunc_116.l0 k l (l.length : Int) 0) r ∧ decide (r ≥ 0) = l.any (fun y => !pOp y) := by
    refine ev_find (fun k i => slices_IndexFunc_116.l0 k l (l.length : Int) i) l z103 (fun y => !pOp y) (fun k => by rw [slices_IndexFunc_116.l0, if_neg (by omega)]) ?_ ?_
    · intro i hi hp
      refine Ev.round (fun _ => by rw [slices_IndexFunc_116.l0]) ?_
      refine Ev.pos (by omega) ?_
      refine Ev.pos (by omega) ?_
      refine Ev.pos (by omega) ?_
      refine Ev.bind (Ev.no (iOp_ev (rd_T103 l (i : Int)))) ?_
      refine Ev.pos hp ?_
      exact Ev.now _
    · intro i hi hp r hr
      have e1 : wrap64 ((i : Int) + 1) = ((i + 1 : Nat) : Int) := by rw [w64 (by omega) (by omega)]; omega
      refine Ev.round (fun _ => by rw [slices_IndexFunc_116.l0]) ?_
      refine Ev.pos (by omega) ?_
      refine Ev.pos (by omega) ?_
      refine Ev.pos (by omega) ?_
      refine Ev.bind (Ev.no (iOp_ev (rd_T103 l (i : Int)))) ?_
      refine Ev.neg (ne_true_of_eq_false hp) ?_
      simp only [e1]
      exact hr
  obtain ⟨r, hr, hd⟩ := hf
  rw [← hd]
  exact Ev.bind hr (Ev.now _)
theorem allIn_ev (l : List Int) (a b : Int) (h : l.length ≤ 1048576) : Ev (fun k => impl_allIn.f k l a b) (l.all (pIn · a b)) := by
  unfold impl_allIn.f
  refine Ev.cast (ev_all (fun k i => impl_allIn.l0 k a b l (l.length : Int) i) l 0 (pIn · a b) true (fun k => by rw [impl_allIn.l0, if_neg (by omega)]) ?_ ?_) (Bool.and_true _)
  · intro i hi hp r hr
    have e1 : wrap64 ((i : Int) + 1) = ((i + 1 : Nat) : Int) := by rw [w64 (by omega) (by omega)]; omega
    refine Ev.round (fun _ => by rw [impl_allIn.l0]) ?_
    refine Ev.pos (by omega) ?_
    refine Ev.pos (by omega) ?_
    refine Ev.pos (by omega) ?_
    refine Ev.now_bind (InRange_eq _ _ _) ?_
    refine Ev.pos ?_ ?_
    · rw [rd_nat]; exact hp
    · simp only [e1]; exact hr
  · intro i hi hp
    refine Ev.round (fun _ => by rw [impl_allIn.l0]) ?_
    refine Ev.pos (by omega) ?_
    refine Ev.pos (by omega) ?_
    refine Ev.pos (by omega) ?_
    refine Ev.now_bind (InRange_eq _ _ _) ?_
    refine Ev.neg ?_ (Ev.now _)
    rw [rd_nat]; exact ne_true_of_eq_false hp
theorem iIsState_ev (a : Int) (r s n : List Int) (h1 : r.length ≤ 1048576) (h2 : s.length ≤ 1048576) (h3 : n.length ≤ 1048576) : Ev (fun k => impl_IsState.f k a r s n) (pState a r s n) := by
  unfold impl_IsState.f pState
  refine Ev.cast (Ev.now_and (InRange_eq _ _ _) fun _ => Ev.if_and fun _ => Ev.if_and fun _ => Ev.if_and fun _ => Ev.and (allIn_ev r 0 999 h1) fun _ => Ev.and (allIn_ev s 0 999 h2) fun _ => Ev.id (allIn_ev n 0 999 h3)) ?_
  rw [Bool.eq_iff_iff]
  simp only [Bool.and_eq_true, decide_eq_true_eq, beq_iff_eq]
  constructor
  · rintro ⟨a1, a2, a3, a4, a5, a6, a7⟩; exact ⟨a1, ⟨a5, a2⟩, ⟨a6, a3⟩, a7, a4⟩
  · rintro ⟨a1, ⟨a5, a2⟩, ⟨a6, a3⟩, a7, a4⟩; exact ⟨a1, a2, a3, a4, a5, a6, a7⟩
theorem iCan_ev (l : List S103) (a : Int) (r s n : List Int) (h : l.length ≤ 1048576) (h1 : r.length ≤ 1048576) (h2 : s.length ≤ 1048576) (h3 : n.length ≤ 1048576) : Ev (fun k => impl_canStep.f k l a r s n) (pCan l a r s n) := by
  unfold impl_canStep.f pCan
  exact Ev.and (iIsScript_ev l h) fun _ => Ev.and (iIsState_ev a r s n h1 h2 h3) fun _ => Ev.now _
theorem iAsks_eq (k : Int) : impl_Asks.f k = some (pAsks k) := by
  unfold impl_Asks.f pAsks
  rw [InRange_eq]
  rfl
theorem iWant_ev (l : List S103) (a : Int) (r s n : List Int) (h : l.length ≤ 1048576) (h1 : r.length ≤ 1048576) (h2 : s.length ≤ 1048576) (h3 : n.length ≤ 1048576) : Ev (fun k => impl_WantOf.f k l a r s n) (pWant l a r s n) := by
  unfold impl_WantOf.f pWant
  refine Ev.bind (iCan_ev l a r s n h h1 h2 h3) ?_
  have hj : Ev (fun k => impl_WantOf.j0 k l true a r s n) (0, 0, 0, 0) := by
    refine Ev.round (fun _ => by rw [impl_WantOf.j0]) ?_
    refine Ev.pos rfl ?_
    exact Ev.now _
  cases hc : pCan l a r s n with
  | false => exact Ev.neg (by simp) (Ev.cast hj (by simp))
  | true =>
    obtain ⟨f1, f2, f3, f4, f5, f6, f7, f8, f9, _, _⟩ := pCan_facts hc
    refine Ev.pos rfl ?_
    refine Ev.pos f1 ?_
    refine Ev.pos f2 ?_
    refine Ev.now_bind (iAsks_eq _) ?_
    cases hk : pAsks (rd_T103 l a).f0 with
    | false => exact Ev.cast hj (by simp)
    | true =>
      have hr := pOp_reg (f9 _ (getD_mem l a.toNat (by omega) z103))
      have hr' : 0 ≤ (rd_T103 l a).f1 ∧ (rd_T103 l a).f1 ≤ 3 := hr
      rw [if_pos ⟨rfl, rfl⟩]
      refine Ev.round (fun _ => by rw [impl_WantOf.j0]) ?_
      refine Ev.neg (by simp) ?_
      refine Ev.pos f1 ?_
      refine Ev.pos f2 ?_
      refine Ev.ite (fun _ => ?_) (fun _ => Ev.now _)
      exact Ev.pos hr'.1 (Ev.pos (by omega) (Ev.now _))
theorem iCopy_eq (a : Int) (r s n : List Int) (h1 : r.length ≤ 1048576) (h2 : s.length ≤ 1048576) (h3 : n.length ≤ 1048576) : impl_copyState.f a r s n = some (a, r, s, n) := by
  simp only [impl_copyState.f, slices_Clone_int_int.f, Option.bind_some, List.nil_append, List.length_nil]
  rw [if_pos (by omega), if_pos (by omega), if_pos (by omega)]
  rfl
theorem iStep_ev (l : List S103) (a : Int) (r s n : List Int) (v : Int) (h : l.length ≤ 1048576) (h1 : r.length ≤ 1048576) (h2 : s.length ≤ 1048576) (h3 : n.length ≤ 1048576) : Ev (fun k => impl_StepState.f k l a r s n v) (pStep l a r s n v) := by
  unfold impl_StepState.f
  refine Ev.now_bind (iCopy_eq a r s n h1 h2 h3) ?_
  refine Ev.bind (iCan_ev l a r s n h h1 h2 h3) ?_
  dsimp only
  unfold pStep
  by_cases c : pCan l a r s n = true
  · obtain ⟨f1, f2, f3, f4, f5, f6, f7, f8, f9, f10, f11⟩ := pCan_facts c
    have ho : pOp (rd_T103 l a) = true := f9 _ (getD_mem l a.toNat (by omega) z103)
    have hr := pOp_reg ho
    refine Ev.rpos c ?_
    refine Ev.pos c ?_
    refine Ev.pos f1 ?_
    refine Ev.pos f2 ?_
    refine Ev.ite (fun c5 => ?_) (fun c5 => ?_)
    · have ha := pOp_5 ho c5
      refine Ev.pos ha.1 ?_
      refine Ev.pos (by omega) ?_
      refine Ev.pos ha.2.2.1 ?_
      refine Ev.pos (by omega) ?_
      refine Ev.pos hr.1 ?_
      refine Ev.pos (by omega) ?_
      exact Ev.now _
    refine Ev.ite (fun c6 => ?_) (fun c6 => ?_)
    · have ha := pOp_6 ho c6
      refine Ev.pos hr.1 ?_
      refine Ev.pos (by omega) ?_
      refine Ev.pos ha.1 ?_
      refine Ev.pos (by omega) ?_
      exact Ev.now _
    refine Ev.ite (fun c7 => ?_) (fun c7 => ?_)
    · refine Ev.pos hr.1 ?_
      refine Ev.pos (by omega) ?_
      exact Ev.ite (fun _ => Ev.now _) (fun _ => Ev.now _)
    refine Ev.ite (fun c8 => ?_) (fun c8 => ?_)
    · have ha := pOp_8 ho c8
      refine Ev.pos ha.1 ?_
      refine Ev.pos (by omega) ?_
      refine Ev.pos hr.1 ?_
      refine Ev.pos (by omega) ?_
      exact Ev.now _
    refine Ev.ite (fun c9 => ?_) (fun c9 => ?_)
    · have ha := pOp_9 ho c9
      refine Ev.pos hr.1 ?_
      refine Ev.pos (by omega) ?_
      refine Ev.pos ha.1 ?_
      refine Ev.pos (by omega) ?_
      exact Ev.now _
    refine Ev.pos hr.1 ?_
    refine Ev.pos (by omega) ?_
    rw [← pClamp_impl v]
    exact Ev.now _
  · refine Ev.rneg c ?_
    exact Ev.neg c (Ev.now _)
theorem iStart_eq : impl_StartState.f = some (0, [0, 0, 0, 0], [0, 0, 0], [0, 0, 0, 0]) := rfl
theorem iIsAddress_eq (h p q : Int) : impl_IsAddress.f h p q = some (pAddr h p q) := by
  simp only [impl_IsAddress.f, InRange_eq, Option.bind_some, some_and]
theorem lit1_eq (y : S107) : impl_AreEntries_lit1.f y.f0 y.f1.f0 y.f1.f1 y.f1.f2 y.f2 = some (!pEntry y) := by
  unfold impl_AreEntries_lit1.f pEntry pIn
  rw [iIsAddress_eq, InRange_eq, iAsks_eq, not_zero]
  unfold pAsks
  by_cases h1 : y.f0 = 1
  · have e1 : (decide (1 ≤ y.f0) && decide (y.f0 ≤ 4)) = true := by simp [h1]
    rw [e1]
    simp only [h1, if_true, Option.bind_some]
    cases pAddr y.f1.f0 y.f1.f1 y.f1.f2 <;> cases (decide (0 ≤ y.f2) && decide (y.f2 ≤ 999)) <;> rfl
  · simp only [h1, if_false, Option.bind_some]
    cases (decide (1 ≤ y.f0) && decide (y.f0 ≤ 4)) <;> cases pZero y.f1.f0 y.f1.f1 y.f1.f2 <;> cases (decide (0 ≤ y.f2) && decide (y.f2 ≤ 999)) <;> rfl
theorem iAreEntries_ev (l : List S107) (h : l.length ≤ 1048576) : Ev (fun k => impl_AreEntries.f k l) (pEntries l) := by
  unfold impl_AreEntries.f pEntries
  rw [Bool.and_comm]
  refine Ev.if_and fun _ => ?_
  rw [← not_any']
  refine Ev.no ?_
  unfold slices_ContainsFunc_167.f
  have hf : ∃ r : Int, Ev (fun k => slices_IndexFunc_167.l0 k l (l.length : Int) 0) r ∧ decide (r ≥ 0) = l.any (fun y => !pEntry y) := by
    refine ev_find (fun k i => slices_IndexFunc_167.l0 k l (l.length : Int) i) l z107 (fun y => !pEntry y) (fun k => by rw [slices_IndexFunc_167.l0, if_neg (by omega)]) ?_ ?_
    · intro i hi hp
      refine Ev.round (fun _ => by rw [slices_IndexFunc_167.l0]) ?_
      refine Ev.pos (by omega) ?_
      refine Ev.pos (by omega) ?_
      refine Ev.pos (by omega) ?_
      refine Ev.now_bind (lit1_eq (rd_T107 l (i : Int))) ?_
      refine Ev.pos hp ?_
      exact Ev.now _
    · intro i hi hp r hr
      have e1 : wrap64 ((i : Int) + 1) = ((i + 1 : Nat) : Int) := by rw [w64 (by omega) (by omega)]; omega
      refine Ev.round (fun _ => by rw [slices_IndexFunc_167.l0]) ?_
      refine Ev.pos (by omega) ?_
      refine Ev.pos (by omega) ?_
      refine Ev.pos (by omega) ?_
      refine Ev.now_bind (lit1_eq (rd_T107 l (i : Int))) ?_
      refine Ev.neg (ne_true_of_eq_false hp) ?_
      simp only [e1]
      exact hr
  obtain ⟨r, hr, hd⟩ := hf
  rw [← hd]
  exact Ev.bind hr (Ev.now _)
theorem i14_l0 (l : List S103) (es : List S107) (hs : pScript l = true) : ∀ (m : Nat) (tr : List S41) (n : Int) (z : Int × List Int × List Int × List Int), StOk z → 0 ≤ n → n ≤ (es.length : Int) → (l.length : Int) ≤ z.1 + (m : Int) → tr.length + m ≤ 1000 → es.length ≤ 1048576 →
    Ev (fun k => impl_played.l0 k l es tr n z.1 z.2.1 z.2.2.1 z.2.2.2) (pRun l es (m + 1) tr n z) := by
  have hl := pScript_len hs
  intro m
  induction m with
  | zero =>
    intro tr n z hz h0 h1 hm ht he
    refine Ev.round (fun _ => by rw [impl_played.l0]) ?_
    refine Ev.now_bind rfl ?_
    refine Ev.pos (decide_eq_true (by omega)) ?_
    by_cases c : n < (es.length : Int)
    · rw [pRun_left l es 0 tr n z (by omega) c]
      exact Ev.pos c (Ev.now _)
    · rw [pRun_same l es 0 tr n z (by omega) c]
      exact Ev.neg c (Ev.now _)
  | succ m ih =>
    intro tr n z hz h0 h1 hm ht he
    by_cases c1 : (l.length : Int) ≤ z.1
    · refine Ev.round (fun _ => by rw [impl_played.l0]) ?_
      refine Ev.now_bind rfl ?_
      refine Ev.pos (decide_eq_true (by omega)) ?_
      by_cases c : n < (es.length : Int)
      · rw [pRun_left l es (m + 1) tr n z c1 c]
        exact Ev.pos c (Ev.now _)
      · rw [pRun_same l es (m + 1) tr n z c1 c]
        exact Ev.neg c (Ev.now _)
    have hc := can_of hs hz c1
    obtain ⟨g1, g2, g3⟩ := StOk_len hz
    have hw := iWant_ev l z.1 z.2.1 z.2.2.1 z.2.2.2 (by omega) (by omega) (by omega) (by omega)
    have hst := fun v => iStep_ev l z.1 z.2.1 z.2.2.1 z.2.2.2 v (by omega) (by omega) (by omega) (by omega)
    have hok := fun v => pStep_ok l z.1 z.2.1 z.2.2.1 z.2.2.2 v hc
    have e1 : n < (es.length : Int) → wrap64 (n + 1) = n + 1 := fun _ => w64 (by omega) (by omega)
    rw [pRun, if_neg c1]
    refine Ev.round (fun _ => by rw [impl_played.l0]) ?_
    refine Ev.now_bind rfl ?_
    refine Ev.neg (by simp only [decide_eq_true_eq]; omega) ?_
    refine Ev.bind hw ?_
    generalize pWant l z.1 z.2.1 z.2.2.1 z.2.2.2 = w
    try dsimp only
    by_cases cw : w.1 = 0
    · rw [if_pos cw]
      refine Ev.pos cw ?_
      refine Ev.bind (hst 0) ?_
      refine Ev.pos (by omega) ?_
      exact ih _ n _ (hok 0).1 h0 h1 (by have := (hok 0).2.1; omega) (by rw [List.length_append, List.length_singleton]; omega) he
    rw [if_neg cw]
    refine Ev.neg cw ?_
    by_cases cn : n = (es.length : Int)
    · rw [if_pos cn]
      exact Ev.pos cn (Ev.now _)
    rw [if_neg cn, e1 (by omega)]
    refine Ev.neg cn ?_
    refine Ev.pos (by omega) ?_
    refine Ev.pos (by omega) ?_
    by_cases ck : (rd_T107 es n).f0 = w.1
    · refine Ev.pos ck ?_
      by_cases ca : pDiff (rd_T107 es n) w = true
      · rw [if_neg (by rw [ca]; simp)]
        exact Ev.pos ca (Ev.now _)
      · have cf : pDiff (rd_T107 es n) w = false := by simpa using ca
        rw [if_pos ⟨ck, cf⟩]
        refine Ev.neg ca ?_
        refine Ev.bind (hst _) ?_
        refine Ev.pos (by omega) ?_
        exact ih _ (n + 1) _ (hok _).1 (by omega) (by omega) (by have := (hok (rd_T107 es n).f2).2.1; omega) (by rw [List.length_append, List.length_singleton]; omega) he
    · rw [if_neg (fun h => ck h.1)]
      exact Ev.neg ck (Ev.now _)
theorem i14_ev (l : List S103) (es : List S107) (hl : l.length ≤ 1048576) (he : es.length ≤ 1048576) : Ev (fun k => impl_played.f k l es) (pPlay l es) := by
  unfold impl_played.f pPlay
  refine Ev.now_bind iStart_eq ?_
  refine Ev.now_bind rfl ?_
  refine Ev.bind (iIsScript_ev l hl) ?_
  by_cases c1 : pScript l = true
  · refine Ev.pos c1 ?_
    refine Ev.bind (iAreEntries_ev es he) ?_
    refine Ev.round (fun _ => by rw [impl_played.j0]) ?_
    by_cases c2 : pEntries es = true
    · rw [if_pos ⟨c1, c2⟩]
      have := pScript_len c1
      refine Ev.neg (by simp [c2]) ?_
      exact i14_l0 l es c1 39 _ 0 z0 z0_ok (by omega) (by omega) (by show _ ≤ (0 : Int) + ((39 : Nat) : Int); omega) (by simp) he
    · rw [if_neg (fun h => c2 h.2)]
      exact Ev.pos (by simp [c2]) (Ev.now _)
  · rw [if_neg (fun h => c1 h.1)]
    refine Ev.neg c1 ?_
    refine Ev.round (fun _ => by rw [impl_played.j0]) ?_
    exact Ev.pos rfl (Ev.now _)
theorem iTrace_ev (l : List S103) (es : List S107) (hl : l.length ≤ 1048576) (he : es.length ≤ 1048576) : Ev (fun k => impl_TraceReplay.f k l es) (pPlay l es).2.2.2.2.2.2 := by
  unfold impl_TraceReplay.f
  exact Ev.bind (i14_ev l es hl he) (Ev.now _)
def Row3 (y : S41) : Prop := y.f1.length = 4 ∧ y.f2.length = 3 ∧ y.f3.length = 4
def upFrom (c : Int) (n : Nat) : List Int := (List.range n).map fun j : Nat => c + (j : Int)
def mkSt (c : Int) : S41 := ⟨c, upFrom (c + 1) 4, upFrom (c + 5) 3, upFrom (c + 8) 4⟩
def stRow (a : Int) (n : Nat) : List S41 := (List.range n).map fun j : Nat => mkSt (a + 12 * (j : Int))
theorem stRow_len (a : Int) (n : Nat) : (stRow a n).length = n := by simp [stRow]
theorem upFrom_len (a : Int) (n : Nat) : (upFrom a n).length = n := by simp [upFrom]
theorem stRow_rd (a : Int) (n i : Nat) (h : i < n) : rd_T41 (stRow a n) (i : Int) = mkSt (a + 12 * (i : Int)) := by
  unfold rd_T41 stRow
  simp [List.getD_eq_getElem?_getD, h]
theorem markUp_ev (l : List Int) (n : Nat) (hn : l.length = n) (c : Int) (h : n ≤ 100) (h0 : 0 ≤ c) (h1 : c ≤ 1152921504606846976) : Ev (fun k => laws_markIntS.f k l c) (c + (n : Int), upFrom c n) := by
  subst hn
  exact markIntS_ev l c (by omega) h0 h1
theorem markStateS_ev (l : List S41) (a : Int) (h : l.length ≤ 1048576) (hf : ∀ y ∈ l, Row3 y) (h0 : 0 ≤ a) (h1 : a ≤ 1000000000000) : Ev (fun k => laws_markStateS.f k l a) (a + 12 * (l.length : Int), stRow a l.length) := by
  unfold laws_markStateS.f
  have main := ev_down (fun k i => laws_markStateS.l0 k (stRow a i ++ l.drop i) (a + 12 * (i : Int)) (i : Int)) l.length (fun _ => (a + 12 * (l.length : Int), stRow a l.length))
    (Ev.round (fun _ => by rw [laws_markStateS.l0]) (Ev.neg (by simp [stRow_len]) (Ev.const fun _ => by simp)))
    (fun i hi h => ?_)
  · simpa [stRow] using main
  have hlen := stRow_len a i
  have e1 : wrap64 ((i : Int) + 1) = ((i + 1 : Nat) : Int) := by rw [w64 (by omega) (by omega)]; omega
  have e2 : wrap64 (a + 12 * (i : Int) + 1) = a + 12 * (i : Int) + 1 := w64 (by omega) (by omega)
  have e3 : stRow a i ++ l.drop i = stRow a i ++ l.getD i z41 :: l.drop (i + 1) := by rw [drop_cons l i hi z41]
  have e4 : ∀ v u, (stRow a i ++ u :: l.drop (i + 1)).set i v = stRow a i ++ v :: l.drop (i + 1) := by
    intro v u
    rw [List.set_append_right _ _ (by omega), hlen]
    simp
  have e5 : ∀ u, rd_T41 (stRow a i ++ u :: l.drop (i + 1)) (i : Int) = u := by
    intro u
    unfold rd_T41
    simp [List.getD_eq_getElem?_getD, hlen]
  obtain ⟨g1, g2, g3⟩ := hf _ (getD_mem l i hi z41)
  refine Ev.round (fun _ => by rw [laws_markStateS.l0]) ?_
  refine Ev.pos (by simp [hlen]; omega) ?_
  refine Ev.pos (by omega) ?_
  simp only [e1, e2, e3, Int.toNat_natCast, Option.bind_some, e4, e5]
  generalize l.getD i z41 = u at g1 g2 g3
  refine Ev.bind (markUp_ev u.f1 4 g1 _ (by omega) (by omega) (by omega)) ?_
  simp only [Int.toNat_natCast, Option.bind_some, e4, e5]
  refine Ev.bind (markUp_ev u.f2 3 g2 _ (by omega) (by omega) (by omega)) ?_
  simp only [Int.toNat_natCast, Option.bind_some, e4, e5]
  refine Ev.bind (markUp_ev u.f3 4 g3 _ (by omega) (by omega) (by omega)) ?_
  simp only [Int.toNat_natCast, Option.bind_some, e4, e5]
  have e9 : stRow a (i + 1) ++ l.drop (i + 1) = stRow a i ++ mkSt (a + 12 * (i : Int)) :: l.drop (i + 1) := by
    unfold stRow
    rw [List.range_succ, List.map_append, List.append_assoc]
    rfl
  rw [e9, show a + 12 * ((i + 1 : Nat) : Int) = a + 12 * (i : Int) + 12 by omega] at h
  unfold mkSt at h
  rw [show a + 12 * (i : Int) + 1 + ((4 : Nat) : Int) = a + 12 * (i : Int) + 5 by omega, show a + 12 * (i : Int) + 5 + ((3 : Nat) : Int) = a + 12 * (i : Int) + 8 by omega, show a + 12 * (i : Int) + 8 + ((4 : Nat) : Int) = a + 12 * (i : Int) + 12 by omega]
  exact h
theorem StOk_row {z : Int × List Int × List Int × List Int} (h : StOk z) : Row3 ⟨z.1, z.2.1, z.2.2.1, z.2.2.2⟩ := StOk_len h
theorem tr_add {c : Nat} {tr : List S41} (ht : tr.length ≤ c ∧ ∀ y ∈ tr, Row3 y) {z : Int × List Int × List Int × List Int} (h : StOk z) : (tr ++ [(⟨z.1, z.2.1, z.2.2.1, z.2.2.2⟩ : S41)]).length ≤ c + 1 ∧ ∀ y ∈ tr ++ [(⟨z.1, z.2.1, z.2.2.1, z.2.2.2⟩ : S41)], Row3 y := by
  refine ⟨by rw [List.length_append, List.length_singleton]; omega, fun y hy => ?_⟩
  rcases List.mem_append.1 hy with hy | hy
  · exact ht.2 y hy
  · rw [List.mem_singleton.1 hy]
    exact StOk_row h
theorem pRun_tr (l : List S103) (es : List S107) (hs : pScript l = true) : ∀ (m c : Nat) (tr : List S41) (n : Int) (z : Int × List Int × List Int × List Int), StOk z → (tr.length ≤ c ∧ ∀ y ∈ tr, Row3 y) →
    ((pRun l es m tr n z).2.2.2.2.2.2.length ≤ c + m ∧ ∀ y ∈ (pRun l es m tr n z).2.2.2.2.2.2, Row3 y) := by
  intro m
  induction m with
  | zero => intro c tr n z hz ht; exact ht
  | succ m ih =>
    intro c tr n z hz ht
    have ht2 : tr.length ≤ c + (m + 1) ∧ ∀ y ∈ tr, Row3 y := ⟨by omega, ht.2⟩
    rw [pRun]
    by_cases c1 : (l.length : Int) ≤ z.1
    · rw [if_pos c1]
      split <;> exact ht2
    rw [if_neg c1]
    have hc := can_of hs hz c1
    have e : c + 1 + m = c + (m + 1) := by omega
    split
    · have hk := (pStep_ok l z.1 z.2.1 z.2.2.1 z.2.2.2 0 hc).1
      have r := ih (c + 1) _ n _ hk (tr_add ht hk)
      rw [e] at r
      exact r
    split
    · exact ht2
    split
    · have hk := (pStep_ok l z.1 z.2.1 z.2.2.1 z.2.2.2 (rd_T107 es n).f2 hc).1
      have r := ih (c + 1) _ (n + 1) _ hk (tr_add ht hk)
      rw [e] at r
      exact r
    · exact ht2
theorem pPlay_tr (l : List S103) (es : List S107) : (pPlay l es).2.2.2.2.2.2.length ≤ 41 ∧ ∀ y ∈ (pPlay l es).2.2.2.2.2.2, Row3 y := by
  have h0 : ([⟨0, [0, 0, 0, 0], [0, 0, 0], [0, 0, 0, 0]⟩] : List S41).length ≤ 1 ∧ ∀ y ∈ ([⟨0, [0, 0, 0, 0], [0, 0, 0], [0, 0, 0, 0]⟩] : List S41), Row3 y := by
    refine ⟨by simp, fun y hy => ?_⟩
    rw [List.mem_singleton.1 hy]
    exact ⟨rfl, rfl, rfl⟩
  unfold pPlay
  split
  · rename_i h
    exact pRun_tr l es h.1 40 1 _ 0 z0 z0_ok h0
  · exact ⟨by simp, h0.2⟩
theorem heldUp_ev (n : Nat) (c : Int) (h : n ≤ 100) (h0 : 0 ≤ c) (h1 : c ≤ 1152921504606846976) : Ev (fun k => laws_heldIntS.f k (upFrom c n) c) (c + (n : Int)) := heldIntS_ev n c (by omega) h0 h1
theorem heldStateS_ev (n : Nat) (a : Int) (h : n ≤ 1048576) (h0 : 0 ≤ a) (h1 : a ≤ 1000000000000) : Ev (fun k => laws_heldStateS.f k (stRow a n) a) (a + 12 * (n : Int)) := by
  unfold laws_heldStateS.f
  have main := ev_down (fun k i => laws_heldStateS.l0 k (stRow a n) (a + 12 * (i : Int)) (i : Int)) n (fun _ => a + 12 * (n : Int))
    (Ev.round (fun _ => by rw [laws_heldStateS.l0]) (Ev.neg (by simp [stRow_len]) (Ev.now _)))
    (fun i hi h => ?_)
  · simpa using main
  have hlen := stRow_len a n
  have e1 : wrap64 ((i : Int) + 1) = ((i + 1 : Nat) : Int) := by rw [w64 (by omega) (by omega)]; omega
  have e2 : wrap64 (a + 12 * (i : Int) + 1) = a + 12 * (i : Int) + 1 := w64 (by omega) (by omega)
  refine Ev.round (fun _ => by rw [laws_heldStateS.l0]) ?_
  refine Ev.pos (by rw [hlen]; omega) ?_
  refine Ev.pos (by omega) ?_
  simp only [e1, e2, stRow_rd a n i hi]
  unfold mkSt
  refine Ev.pos rfl ?_
  refine Ev.bind (heldUp_ev 4 _ (by omega) (by omega) (by omega)) ?_
  refine Ev.neg (by omega) ?_
  rw [show a + 12 * (i : Int) + 1 + ((4 : Nat) : Int) = a + 12 * (i : Int) + 5 by omega]
  refine Ev.bind (heldUp_ev 3 _ (by omega) (by omega) (by omega)) ?_
  refine Ev.neg (by omega) ?_
  rw [show a + 12 * (i : Int) + 5 + ((3 : Nat) : Int) = a + 12 * (i : Int) + 8 by omega]
  refine Ev.bind (heldUp_ev 4 _ (by omega) (by omega) (by omega)) ?_
  refine Ev.neg (by omega) ?_
  rw [show a + 12 * (i : Int) + 8 + ((4 : Nat) : Int) = a + 12 * ((i + 1 : Nat) : Int) by omega]
  exact h
theorem FnExactTraceReplay (l0 : List S105) (l1 : List S111) (h0 : (l0.length ≤ maxLen ∧ ∀ e_ ∈ l0, W105 e_)) (h1 : (l1.length ≤ maxLen ∧ ∀ e_ ∈ l1, W111 e_)) : ∃ k, laws_FnExactTraceReplay.f k l0 l1 = some true := by
  obtain ⟨r0, e0, b0, g0⟩ := szOpS_some l0 1048576 h0.1 (by omega) (by omega)
  refine Ev.rounds ?_
  unfold laws_FnExactTraceReplay.f
  refine Ev.now_bind e0 ?_
  by_cases c0 : r0 < 0
  · exact Ev.pos c0 (Ev.now _)
  have hl := g0 (by omega)
  have hm : (l0.map cvOp).length ≤ 1048576 := by simpa using hl
  obtain ⟨r, e, b, g⟩ := szEntryS_some l1 r0 h1.1 (by omega) (by omega)
  refine Ev.neg c0 ?_
  refine Ev.now_bind e ?_
  by_cases c : r < 0
  · exact Ev.pos c (Ev.now _)
  have hl2 := g (by omega)
  have hm2 : (l1.map cvEntry).length ≤ 1048576 := by simpa using hl2
  have t1 := toEntryS_ev l1 hl2
  have t2 := toOpS_ev l0 hl
  have s1 := sTrace_ev (l0.map cvOp) (l1.map cvEntry) hm hm2
  have i1 := iTrace_ev (l0.map cvOp) (l1.map cvEntry) hm hm2
  obtain ⟨y1, y2⟩ := pPlay_tr (l0.map cvOp) (l1.map cvEntry)
  generalize (pPlay (l0.map cvOp) (l1.map cvEntry)).2.2.2.2.2.2 = z at s1 i1 y1 y2
  have q := eqStateS_refl z (by omega) (fun y hy => by obtain ⟨g1, g2, g3⟩ := y2 y hy; exact ⟨by omega, by omega, by omega⟩)
  have hk := markStateS_ev z 1 (by omega) y2 (by omega) (by omega)
  have hd := heldStateS_ev z.length 1 (by omega) (by omega) (by omega)
  refine Ev.neg c ?_
  refine Ev.bind t2 ?_
  refine Ev.bind t1 ?_
  refine Ev.bind s1 ?_
  refine Ev.bind i1 ?_
  refine Ev.bind q ?_
  refine Ev.pos rfl ?_
  refine Ev.bind (eqOpS_refl _ hm) ?_
  refine Ev.pos rfl ?_
  refine Ev.bind (eqEntryS_refl _ hm2) ?_
  refine Ev.pos rfl ?_
  refine Ev.bind (markOpS_ev _ 1 hm (by omega) (by omega)) ?_
  refine Ev.bind (markEntryS_ev _ _ hm2 (by dsimp only; omega) (by dsimp only; omega)) ?_
  dsimp only
  refine Ev.neg (by omega) ?_
  refine Ev.bind hk ?_
  refine Ev.bind hd ?_
  dsimp only
  exact Ev.neg (by omega) (Ev.pos rfl (Ev.now _))
end Go.Proofs.Ytmhonflpbokkeaa.Pure
