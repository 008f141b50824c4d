/- Plain lemmas on rounds, loops and lists, of no program. -/
import Derived.Test.YtoclgniogcdilaaWMore
namespace Go.Proofs.Ytoclgniogcdilaa.Gen
open Go.RowKit Go.Proofs.YtoclgniogcdilaaW.PrintWords Go.Proofs.YtoclgniogcdilaaW.PrintMore

theorem w64 {n : Int} (h0 : -9223372036854775808 ≤ n) (h1 : n ≤ 9223372036854775807) : wrap64 n = n := by unfold wrap64; omega
theorem wf64 {n : Int} (h : (Lit.int .i64 n).wf = true) : -9223372036854775808 ≤ n ∧ n ≤ 9223372036854775807 := by
  simp only [Lit.wf, Bool.and_eq_true, decide_eq_true_eq] at h
  have h2 : IntKind.i64.max = 9223372036854775807 := rfl
  have h3 : IntKind.i64.min = -9223372036854775808 := rfl
  omega

section
variable {α β ρ : Type}
theorem Ev.const {g : Nat → Option α} {r : α} (h : ∀ k, g k = some r) : Ev g r := ⟨0, fun k _ => h k⟩
theorem Ev.pos {c : Prop} [Decidable c] {A B : Nat → Option α} {r : α} (h : c) (k : Ev A r) : Ev (fun n => if c then A n else B n) r := by
  obtain ⟨K, k⟩ := k
  exact ⟨K, fun n hn => by simp only [if_pos h]; exact k n hn⟩
theorem Ev.neg {c : Prop} [Decidable c] {A B : Nat → Option α} {r : α} (h : ¬ c) (k : Ev B r) : Ev (fun n => if c then A n else B n) r := by
  obtain ⟨K, k⟩ := k
  exact ⟨K, fun n hn => by simp only [if_neg h]; exact k n hn⟩
theorem Ev.ite {c : Prop} [Decidable c] {A B : Nat → Option α} {r s : α} (k : c → Ev A r) (l : ¬ c → Ev B s) : Ev (fun n => if c then A n else B n) (if c then r else s) := by
  by_cases h : c
  · rw [if_pos h]; exact Ev.pos h (k h)
  · rw [if_neg h]; exact Ev.neg h (l h)
theorem Ev.cast {g : Nat → Option α} {r s : α} (h : Ev g r) (e : r = s) : Ev g s := e ▸ h
/-- A step that needs no rounds. -/
theorem Ev.now_bind {o : Option α} {f : Nat → α → Option β} {a : α} {r : β} (h : o = some a) (k : Ev (fun n => f n a) r) : Ev (fun n => o.bind (f n)) r := by
  subst h
  exact k
/-- From the last state of a loop back to its first. -/
theorem ev_down (G : Nat → Nat → Option ρ) (n : Nat) (R : Nat → ρ) (hend : Ev (fun k => G k n) (R n))
    (hstep : ∀ i, i < n → Ev (fun k => G k (i + 1)) (R (i + 1)) → Ev (fun k => G k i) (R i)) : Ev (fun k => G k 0) (R 0) := by
  have key : ∀ d i, i + d = n → Ev (fun k => G k i) (R i) := by
    intro d
    induction d with
    | zero =>
      intro i hi
      obtain rfl : i = n := by omega
      exact hend
    | succ d ih =>
      intro i hi
      exact hstep i (by omega) (ih (i + 1) (by omega))
  exact key n 0 (by omega)
/-- A round: what stands behind the first number. -/
theorem Ev.round {g : Nat → Option α} {f : Nat → Option α} {r : α} (h : ∀ k, g (k + 1) = f k) (k : Ev f r) : Ev g r := Ev.step h k
theorem Ev.unique {g : Nat → Option α} {r s : α} (h : Ev g r) (k : Ev g s) : r = s := by
  obtain ⟨K, h⟩ := h
  obtain ⟨L, k⟩ := k
  have h1 := h (max K L) (Nat.le_max_left _ _)
  rw [k (max K L) (Nat.le_max_right _ _)] at h1
  exact (Option.some.inj h1).symm
end

/-! ### Lists -/
theorem drop_cons {α : Type} (l : List α) (i : Nat) (h : i < l.length) (d : α) : l.drop i = l.getD i d :: l.drop (i + 1) := by
  rw [List.drop_eq_getElem_cons h, List.getD_eq_getElem?_getD, List.getElem?_eq_getElem h]
  rfl
theorem getD_in {α : Type} (l : List α) (i : Nat) (h : i < l.length) (d : α) : l.getD i d = l[i] := by
  rw [List.getD_eq_getElem?_getD, List.getElem?_eq_getElem h]
  rfl
theorem getD_mem {α : Type} (l : List α) (i : Nat) (h : i < l.length) (d : α) : l.getD i d ∈ l := by
  rw [getD_in l i h d]
  exact List.getElem_mem h
theorem rd_nat (l : List Int) (i : Nat) : rd l (i : Int) = l.getD i 0 := by simp [rd]
/-- A row being filled from the left. -/
theorem fill_step {α β : Type} (l : List α) (f : α → β) (z : β) (d : α) (i : Nat) (h : i < l.length) :
    ((l.take i).map f ++ List.replicate (l.length - i) z).set i (f (l.getD i d)) = (l.take (i + 1)).map f ++ List.replicate (l.length - (i + 1)) z := by
  have h1 : ((l.take i).map f).length = i := by simp; omega
  rw [List.set_append_right _ _ (by omega), h1, Nat.sub_self, show l.length - i = (l.length - (i + 1)) + 1 by omega, List.replicate_succ, List.set_cons_zero, getD_in l i h d, List.take_succ_eq_append_getElem h, List.map_append, List.append_assoc]
  rfl
theorem fill_length {α β : Type} (l : List α) (f : α → β) (z : β) (i : Nat) (h : i ≤ l.length) : ((l.take i).map f ++ List.replicate (l.length - i) z).length = l.length := by simp; omega
theorem fill_zero {α β : Type} (l : List α) (f : α → β) (z : β) : (l.take 0).map f ++ List.replicate (l.length - 0) z = List.replicate l.length z := by simp
theorem fill_full {α β : Type} (l : List α) (f : α → β) (z : β) : (l.take l.length).map f ++ List.replicate (l.length - l.length) z = l.map f := by simp

/-! ### Loops over an index, for programs whose last state is the index -/
section
variable {α β ρ : Type}
/-- A row filled from another. -/
theorem ev_fill (F : Nat → List β → Int → Option (List β)) (l : List α) (d : α) (f : α → β) (z : β)
    (hend : ∀ k x, F (k + 1) x (l.length : Int) = some x)
    (hstep : ∀ (i : Nat) (x : List β) (r : List β), i < l.length → x.length = l.length → Ev (fun k => F k (x.set i (f (l.getD i d))) ((i + 1 : Nat) : Int)) r → Ev (fun k => F k x (i : Int)) r) :
    Ev (fun k => F k (List.replicate l.length z) 0) (l.map f) := by
  have h := ev_down (fun k i => F k ((l.take i).map f ++ List.replicate (l.length - i) z) (i : Int)) l.length (fun _ => l.map f)
    (Ev.round (hend · _) (Ev.const fun _ => by rw [fill_full]))
    (fun i hi h => hstep i _ _ hi (fill_length l f z i (by omega)) (by rw [fill_step l f z d i hi]; exact h))
  have e := fill_zero l f z
  simp only [e] at h
  exact h
/-- All or none: a loop that ends at once where one does not meet p. -/
theorem ev_all (F : Nat → Int → Option Bool) (l : List α) (d : α) (p : α → Bool) (b : Bool)
    (hend : ∀ k, F (k + 1) (l.length : Int) = some b)
    (hyes : ∀ i : Nat, i < l.length → p (l.getD i d) = true → ∀ r, Ev (fun k => F k ((i + 1 : Nat) : Int)) r → Ev (fun k => F k (i : Int)) r)
    (hno : ∀ i : Nat, i < l.length → p (l.getD i d) = false → Ev (fun k => F k (i : Int)) false) :
    Ev (fun k => F k 0) (l.all p && b) := by
  have h := ev_down (fun k i => F k (i : Int)) l.length (fun i => (l.drop i).all p && b) (Ev.round hend (Ev.const fun _ => by simp))
    (fun i hi h => by
      rw [drop_cons l i hi d, List.all_cons]
      cases hp : p (l.getD i d) with
      | true => simpa using hyes i hi hp _ h
      | false => simpa using hno i hi hp)
  simpa using h
/-- A fold. -/
theorem ev_foldl (F : Nat → β → Int → Option ρ) (l : List α) (d : α) (f : β → α → β) (g : β → ρ) (Inv : Nat → β → Prop) (b : β) (h0 : Inv 0 b)
    (hend : ∀ x, Inv l.length x → Ev (fun k => F k x (l.length : Int)) (g x))
    (hstep : ∀ (i : Nat) (x : β), i < l.length → Inv i x → Inv (i + 1) (f x (l.getD i d)) ∧ ∀ r, Ev (fun k => F k (f x (l.getD i d)) ((i + 1 : Nat) : Int)) r → Ev (fun k => F k x (i : Int)) r) :
    Ev (fun k => F k b 0) (g (l.foldl f b)) := by
  have key : ∀ dd i x, i + dd = l.length → Inv i x → Ev (fun k => F k x (i : Int)) (g ((l.drop i).foldl f x)) := by
    intro dd
    induction dd with
    | zero =>
      intro i x hi hx
      obtain rfl : i = l.length := by omega
      have := hend x hx
      simpa using this
    | succ dd ih =>
      intro i x hi hx
      obtain ⟨h1, h2⟩ := hstep i x (by omega) hx
      rw [drop_cons l i (by omega) d, List.foldl_cons]
      exact h2 _ (ih (i + 1) _ (by omega) h1)
  simpa using key l.length 0 b (by omega) h0
end
end Go.Proofs.Ytoclgniogcdilaa.Gen
