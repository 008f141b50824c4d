/- Texts put together (a claim has at most 60 files). By a program of this session. -/
import Derived.Test.YthojdjnchhkafaaWMore
import Derived.Laws.BitsLemmas
import Derived.Test.YthojdjnchhkafaaMFnExactTraceVisitx0
import Derived.Test.YthojdjnchhkafaaMFnExactTraceVisitx1
import Derived.Test.YthojdjnchhkafaaMFnExactTraceVisitx2
import Derived.Test.YthojdjnchhkafaaMFnExactTraceVisitx3
import Derived.Test.YthojdjnchhkafaaMFnExactTraceVisitx4
import Derived.Test.YthojdjnchhkafaaMFnExactTraceVisitx5
import Derived.Test.YthojdjnchhkafaaMFnExactTraceVisitx6
import Derived.Test.YthojdjnchhkafaaMFnExactTraceVisitx7
import Derived.Test.YthojdjnchhkafaaMFnExactTraceVisitx8
import Derived.Test.YthojdjnchhkafaaMFnExactTraceVisitx9
import Derived.Test.YthojdjnchhkafaaMFnExactTraceVisitx10
import Derived.Test.YthojdjnchhkafaaMFnExactTraceVisitx11
import Derived.Test.YthojdjnchhkafaaMFnExactTraceVisitx12
import Derived.Test.YthojdjnchhkafaaMFnExactTraceVisitx13
import Derived.Test.YthojdjnchhkafaaMFnExactTraceVisitx14
import Derived.Test.YthojdjnchhkafaaMFnExactTraceVisitx15
import Derived.Test.YthojdjnchhkafaaMFnExactTraceVisitx16
import Derived.Test.YthojdjnchhkafaaMFnExactTraceVisitx17
import Derived.Test.YthojdjnchhkafaaMFnExactTraceVisitx18
import Derived.Test.YthojdjnchhkafaaMFnExactTraceVisitx19
import Derived.Test.YthojdjnchhkafaaMFnExactTraceVisitx20
import Derived.Test.YthojdjnchhkafaaMFnExactTraceVisitx21
import Derived.Test.YthojdjnchhkafaaMFnExactTraceVisitx22
import Derived.Test.YthojdjnchhkafaaMFnExactTraceVisitx23
import Derived.Test.YthojdjnchhkafaaMFnExactTraceVisitx24
import Derived.Test.YthojdjnchhkafaaMFnExactTraceVisitx27
import Derived.Test.YthojdjnchhkafaaItv
namespace Go.Proofs.Ythojdjnchhkafaa.Gen
open Go.RowKit Go.Proofs.YthojdjnchhkafaaW.PrintWords Go.Proofs.YthojdjnchhkafaaW.PrintMore

theorem w64 {n : Int} (h0 : -9223372036854775808 ≤ n) (h1 : n ≤ 9223372036854775807) : wrap64 n = n := by unfold wrap64; omega
section
variable {α β ρ : Type}
theorem Ev.const {g : Nat → Option α} {r : α} (h : ∀ k, g k = some r) : Ev g r := ⟨0, fun k _ => h k⟩
theorem Ev.pos {c : Prop} [Decidable c] {A B : Nat → Option α} {r : α} (h : c) (k : Ev A r) : Ev (fun n => if c then A n else B n) r := by
  obtain ⟨K, k⟩ := k
  exact ⟨K, fun n hn => by simp only [if_pos h]; exact k n hn⟩
theorem Ev.neg {c : Prop} [Decidable c] {A B : Nat → Option α} {r : α} (h : ¬ c) (k : Ev B r) : Ev (fun n => if c then A n else B n) r := by
  obtain ⟨K, k⟩ := k
  exact ⟨K, fun n hn => by simp only [if_neg h]; exact k n hn⟩
theorem Ev.ite {c : Prop} [Decidable c] {A B : Nat → Option α} {r s : α} (k : c → Ev A r) (l : ¬ c → Ev B s) : Ev (fun n => if c then A n else B n) (if c then r else s) := by
  by_cases h : c
  · rw [if_pos h]; exact Ev.pos h (k h)
  · rw [if_neg h]; exact Ev.neg h (l h)
theorem Ev.cast {g : Nat → Option α} {r s : α} (h : Ev g r) (e : r = s) : Ev g s := e ▸ h
theorem Ev.now_bind {o : Option α} {f : Nat → α → Option β} {a : α} {r : β} (h : o = some a) (k : Ev (fun n => f n a) r) : Ev (fun n => o.bind (f n)) r := by
  subst h
  exact k
theorem ev_down (G : Nat → Nat → Option ρ) (n : Nat) (R : Nat → ρ) (hend : Ev (fun k => G k n) (R n))
    (hstep : ∀ i, i < n → Ev (fun k => G k (i + 1)) (R (i + 1)) → Ev (fun k => G k i) (R i)) : Ev (fun k => G k 0) (R 0) := by
  have key : ∀ d i, i + d = n → Ev (fun k => G k i) (R i) := by
    intro d
    induction d with
    | zero =>
      intro i hi
      obtain rfl : i = n := by omega
      exact hend
    | succ d ih =>
      intro i hi
      exact hstep i (by omega) (ih (i + 1) (by omega))
  exact key n 0 (by omega)
theorem Ev.round {g : Nat → Option α} {f : Nat → Option α} {r : α} (h : ∀ k, g (k + 1) = f k) (k : Ev f r) : Ev g r := Ev.step h k
end

theorem drop_cons {α : Type} (l : List α) (i : Nat) (h : i < l.length) (d : α) : l.drop i = l.getD i d :: l.drop (i + 1) := by
  rw [List.drop_eq_getElem_cons h, List.getD_eq_getElem?_getD, List.getElem?_eq_getElem h]
  rfl
theorem getD_in {α : Type} (l : List α) (i : Nat) (h : i < l.length) (d : α) : l.getD i d = l[i] := by
  rw [List.getD_eq_getElem?_getD, List.getElem?_eq_getElem h]
  rfl
theorem getD_mem {α : Type} (l : List α) (i : Nat) (h : i < l.length) (d : α) : l.getD i d ∈ l := by
  rw [getD_in l i h d]
  exact List.getElem_mem h
theorem rd_nat (l : List Int) (i : Nat) : rd l (i : Int) = l.getD i 0 := by simp [rd]
theorem fill_step {α β : Type} (l : List α) (f : α → β) (z : β) (d : α) (i : Nat) (h : i < l.length) :
    ((l.take i).map f ++ List.replicate (l.length - i) z).set i (f (l.getD i d)) = (l.take (i + 1)).map f ++ List.replicate (l.length - (i + 1)) z := by
  have h1 : ((l.take i).map f).length = i := by simp; omega
  rw [List.set_append_right _ _ (by omega), h1, Nat.sub_self, show l.length - i = (l.length - (i + 1)) + 1 by omega, List.replicate_succ, List.set_cons_zero, getD_in l i h d, List.take_succ_eq_append_getElem h, List.map_append, List.append_assoc]
  rfl
theorem fill_length {α β : Type} (l : List α) (f : α → β) (z : β) (i : Nat) (h : i ≤ l.length) : ((l.take i).map f ++ List.replicate (l.length - i) z).length = l.length := by simp; omega
theorem fill_zero {α β : Type} (l : List α) (f : α → β) (z : β) : (l.take 0).map f ++ List.replicate (l.length - 0) z = List.replicate l.length z := by simp
theorem fill_full {α β : Type} (l : List α) (f : α → β) (z : β) : (l.take l.length).map f ++ List.replicate (l.length - l.length) z = l.map f := by simp

section
variable {α β ρ : Type}
theorem ev_fill (F : Nat → List β → Int → Option (List β)) (l : List α) (d : α) (f : α → β) (z : β)
    (hend : ∀ k x, F (k + 1) x (l.length : Int) = some x)
    (hstep : ∀ (i : Nat) (x : List β) (r : List β), i < l.length → x.length = l.length → Ev (fun k => F k (x.set i (f (l.getD i d))) ((i + 1 : Nat) : Int)) r → Ev (fun k => F k x (i : Int)) r) :
    Ev (fun k => F k (List.replicate l.length z) 0) (l.map f) := by
  have h := ev_down (fun k i => F k ((l.take i).map f ++ List.replicate (l.length - i) z) (i : Int)) l.length (fun _ => l.map f)
    (Ev.round (hend · _) (Ev.const fun _ => by rw [fill_full]))
    (fun i hi h => hstep i _ _ hi (fill_length l f z i (by omega)) (by rw [fill_step l f z d i hi]; exact h))
  have e := fill_zero l f z
  simp only [e] at h
  exact h
theorem ev_all (F : Nat → Int → Option Bool) (l : List α) (d : α) (p : α → Bool) (b : Bool)
    (hend : ∀ k, F (k + 1) (l.length : Int) = some b)
    (hyes : ∀ i : Nat, i < l.length → p (l.getD i d) = true → ∀ r, Ev (fun k => F k ((i + 1 : Nat) : Int)) r → Ev (fun k => F k (i : Int)) r)
    (hno : ∀ i : Nat, i < l.length → p (l.getD i d) = false → Ev (fun k => F k (i : Int)) false) :
    Ev (fun k => F k 0) (l.all p && b) := by
  have h := ev_down (fun k i => F k (i : Int)) l.length (fun i => (l.drop i).all p && b) (Ev.round hend (Ev.const fun _ => by simp))
    (fun i hi h => by
      rw [drop_cons l i hi d, List.all_cons]
      cases hp : p (l.getD i d) with
      | true => simpa using hyes i hi hp _ h
      | false => simpa using hno i hi hp)
  simpa using h
theorem ev_foldl (F : Nat → β → Int → Option ρ) (l : List α) (d : α) (f : β → α → β) (g : β → ρ) (Inv : Nat → β → Prop) (b : β) (h0 : Inv 0 b)
    (hend : ∀ x, Inv l.length x → Ev (fun k => F k x (l.length : Int)) (g x))
    (hstep : ∀ (i : Nat) (x : β), i < l.length → Inv i x → Inv (i + 1) (f x (l.getD i d)) ∧ ∀ r, Ev (fun k => F k (f x (l.getD i d)) ((i + 1 : Nat) : Int)) r → Ev (fun k => F k x (i : Int)) r) :
    Ev (fun k => F k b 0) (g (l.foldl f b)) := by
  have key : ∀ dd i x, i + dd = l.length → Inv i x → Ev (fun k => F k x (i : Int)) (g ((l.drop i).foldl f x)) := by
    intro dd
    induction dd with
    | zero =>
      intro i x hi hx
      obtain rfl : i = l.length := by omega
      have := hend x hx
      simpa using this
    | succ dd ih =>
      intro i x hi hx
      obtain ⟨h1, h2⟩ := hstep i x (by omega) hx
      rw [drop_cons l i (by omega) d, List.foldl_cons]
      exact h2 _ (ih (i + 1) _ (by omega) h1)
  simpa using key l.length 0 b (by omega) h0
end
abbrev pIn (a b c : Int) : Bool := decide (b ≤ a) && decide (a ≤ c)
abbrev pAddr (h p q : Int) : Bool := pIn h 1 9 && (pIn p 0 99 && pIn q 0 99)
abbrev pZero (h p q : Int) : Bool := h == 0 && (p == 0 && (q == 0))
theorem some_and (a b : Bool) : (if a = true then some b else some false) = some (a && b) := by cases a <;> simp
theorem Ev.and {A B : Nat → Option Bool} {a b : Bool} (hA : Ev A a) (hB : a = true → Ev B b) : Ev (fun n => (A n).bind fun t => if t = true then B n else some false) (a && b) := by
  refine Ev.bind hA ?_
  cases a with
  | true => exact Ev.pos rfl (hB rfl)
  | false => exact Ev.neg (by simp) (Ev.now _)
theorem Ev.now_and {o : Option Bool} {B : Nat → Option Bool} {a b : Bool} (hA : o = some a) (hB : a = true → Ev B b) : Ev (fun n => o.bind fun t => if t = true then B n else some false) (a && b) := by
  subst hA
  exact Ev.and (A := fun _ => some a) (Ev.now a) hB
theorem Ev.if_and {c : Prop} [Decidable c] {B : Nat → Option Bool} {b : Bool} (hB : c → Ev B b) : Ev (fun n => if c then B n else some false) (decide c && b) := by
  by_cases h : c
  · refine Ev.pos h ?_
    simpa [h] using hB h
  · refine Ev.neg h ?_
    simpa [h] using Ev.now false
theorem Ev.id {α : Type} {A : Nat → Option α} {a : α} (h : Ev A a) : Ev (fun n => (A n).bind fun t => some t) a := Ev.bind h (Ev.now _)
theorem Ev.no {A : Nat → Option Bool} {a : Bool} (h : Ev A a) : Ev (fun n => (A n).bind fun t => some (!t)) (!a) := Ev.bind h (Ev.now _)
theorem ev_find {α : Type} (F : Nat → Int → Option Int) (l : List α) (d : α) (p : α → Bool)
    (hend : ∀ k, F (k + 1) (l.length : Int) = some (-1))
    (hyes : ∀ i : Nat, i < l.length → p (l.getD i d) = true → Ev (fun k => F k (i : Int)) (i : Int))
    (hno : ∀ i : Nat, i < l.length → p (l.getD i d) = false → ∀ r, Ev (fun k => F k ((i + 1 : Nat) : Int)) r → Ev (fun k => F k (i : Int)) r) :
    ∃ r : Int, Ev (fun k => F k 0) r ∧ decide (r ≥ 0) = l.any p := by
  have key : ∀ dd i : Nat, i + dd = l.length → ∃ r : Int, Ev (fun k => F k (i : Int)) r ∧ decide (r ≥ 0) = (l.drop i).any p := by
    intro dd
    induction dd with
    | zero =>
      intro i hi
      obtain rfl : i = l.length := by omega
      exact ⟨-1, Ev.round hend (Ev.now _), by simp⟩
    | succ dd ih =>
      intro i hi
      have hil : i < l.length := by omega
      rw [drop_cons l i hil d, List.any_cons]
      cases hp : p (l.getD i d) with
      | true => exact ⟨(i : Int), hyes i hil hp, by simp⟩
      | false =>
        obtain ⟨r, hr, hd⟩ := ih (i + 1) (by omega)
        exact ⟨r, hno i hil hp r hr, by simpa using hd⟩
  simpa using key l.length 0 (by omega)
theorem Ev.rpos {α : Type} {c : Prop} [Decidable c] {g : Nat → Option α} {r s : α} (h : c) (k : Ev g r) : Ev g (if c then r else s) := by rw [if_pos h]; exact k
theorem Ev.rneg {α : Type} {c : Prop} [Decidable c] {g : Nat → Option α} {r s : α} (h : ¬ c) (k : Ev g s) : Ev g (if c then r else s) := by rw [if_neg h]; exact k
theorem any_not {α : Type} (l : List α) (p : α → Bool) : (!(l.any fun y => !p y)) = l.all p := by
  rw [List.all_eq_not_any_not]
end Go.Proofs.Ythojdjnchhkafaa.Gen
namespace Go.Proofs.Ythojdjnchhkafaa.MFnExactTraceVisit
open Go.RowKit Go.Proofs.YthojdjnchhkafaaW.PrintWords Go.Proofs.YthojdjnchhkafaaW.PrintLast Go.Proofs.YthojdjnchhkafaaW.PrintMore Go.Proofs.Ythojdjnchhkafaa.Gen
set_option linter.unusedVariables false
set_option linter.unusedSimpArgs false

theorem szIntS_some (l : List Int) (a : Int) (h : l.length ≤ maxLen) (h0 : 0 ≤ a) (h1 : a ≤ 1048576) : ∃ r, laws_szIntS.f l a = some r ∧ r ≤ 1048576 ∧ (0 ≤ r → l.length ≤ 1048576) := by
  unfold maxLen at h
  unfold laws_szIntS.f
  rw [w64 (by omega) (by omega)]
  by_cases c : a - (l.length : Int) < 0
  · rw [if_pos c]; exact ⟨_, rfl, by omega, by omega⟩
  · rw [if_neg c]; exact ⟨_, rfl, by omega, by omega⟩
theorem toIntS_ev (l : List Int) (h : l.length ≤ 1048576) : Ev (fun k => laws_toIntS.f k l) l := by
  unfold laws_toIntS.f
  refine Ev.pos (by omega) ?_
  refine Ev.pos (by simp only [Int.toNat_natCast]; omega) ?_
  simp only [Int.toNat_natCast]
  refine Ev.cast (ev_fill (fun k x i => laws_toIntS.l0 k l x i) l 0 id 0 (fun k x => by simp [laws_toIntS.l0]) ?_) (List.map_id l)
  intro i x r hi hx h
  refine Ev.round (fun _ => by rw [laws_toIntS.l0]) ?_
  refine Ev.pos (by omega) ?_
  refine Ev.pos (by omega) ?_
  refine Ev.pos (by omega) ?_
  have e1 : wrap64 ((i : Int) + 1) = ((i + 1 : Nat) : Int) := by rw [w64 (by omega) (by omega)]; omega
  simp only [e1]
  exact h
theorem eqIntSb_refl (l : List Int) (h : l.length ≤ 16777216) : Ev (fun k => laws_eqIntS.f k l l) true := by
  unfold laws_eqIntS.f
  refine Ev.pos rfl ?_
  refine ev_down (fun k i => laws_eqIntS.l0 k l l (i : Int)) l.length (fun _ => true) (Ev.round (fun _ => by rw [laws_eqIntS.l0]) (Ev.neg (by omega) (Ev.now _))) (fun i hi h => ?_)
  refine Ev.round (fun _ => by rw [laws_eqIntS.l0]) ?_
  refine Ev.pos (by omega) ?_
  refine Ev.pos (by omega) ?_
  refine Ev.pos (by omega) ?_
  refine Ev.pos rfl ?_
  have e1 : wrap64 ((i : Int) + 1) = ((i + 1 : Nat) : Int) := by rw [w64 (by omega) (by omega)]; omega
  simp only [e1]
  exact h
theorem eqIntS_refl (l : List Int) (h : l.length ≤ 1048576) : Ev (fun k => laws_eqIntS.f k l l) true := eqIntSb_refl l (by omega)
theorem markIntSb_ev (l : List Int) (a : Int) (h : l.length ≤ 16777216) (h0 : 0 ≤ a) (h1 : a ≤ 1152921504606846976) : Ev (fun k => laws_markIntS.f k l a) (a + (l.length : Int), (List.range l.length).map fun j : Nat => a + (j : Int)) := by
  unfold laws_markIntS.f
  have main := ev_down (fun k i => laws_markIntS.l0 k ((List.range i).map (fun j : Nat => a + (j : Int)) ++ l.drop i) (a + (i : Int)) (i : Int)) l.length (fun _ => (a + (l.length : Int), (List.range l.length).map fun j : Nat => a + (j : Int)))
    (Ev.round (fun _ => by rw [laws_markIntS.l0]) (Ev.neg (by simp) (Ev.const fun _ => by simp)))
    (fun i hi h => ?_)
  · simpa using main
  refine Ev.round (fun _ => by rw [laws_markIntS.l0]) ?_
  refine Ev.pos (by simp; omega) ?_
  refine Ev.pos (by omega) ?_
  have e1 : wrap64 ((i : Int) + 1) = ((i + 1 : Nat) : Int) := by rw [w64 (by omega) (by omega)]; omega
  have e2 : wrap64 (a + (i : Int) + 1) = a + ((i + 1 : Nat) : Int) := by rw [w64 (by omega) (by omega)]; omega
  have e3 : ((List.range i).map (fun j : Nat => a + (j : Int)) ++ l.drop i).set i (a + (i : Int)) = (List.range (i + 1)).map (fun j : Nat => a + (j : Int)) ++ l.drop (i + 1) := by
    rw [List.set_append_right _ _ (by simp), drop_cons l i hi 0, List.range_succ, List.map_append, List.append_assoc]
    simp
  simp only [e1, e2, Int.toNat_natCast, e3]
  exact h
theorem markIntS_ev (l : List Int) (a : Int) (h : l.length ≤ 1048576) (h0 : 0 ≤ a) (h1 : a ≤ 1152921504606846976) : Ev (fun k => laws_markIntS.f k l a) (a + (l.length : Int), (List.range l.length).map fun j : Nat => a + (j : Int)) := markIntSb_ev l a (by omega) h0 h1
theorem heldIntSb_ev (n : Nat) (a : Int) (h : n ≤ 16777216) (h0 : 0 ≤ a) (h1 : a ≤ 1152921504606846976) : Ev (fun k => laws_heldIntS.f k ((List.range n).map fun j : Nat => a + (j : Int)) a) (a + (n : Int)) := by
  unfold laws_heldIntS.f
  have main := ev_down (fun k i => laws_heldIntS.l0 k ((List.range n).map fun j : Nat => a + (j : Int)) (a + (i : Int)) (i : Int)) n (fun _ => a + (n : Int))
    (Ev.round (fun _ => by rw [laws_heldIntS.l0]) (Ev.neg (by simp) (Ev.now _)))
    (fun i hi h => ?_)
  · simpa using main
  refine Ev.round (fun _ => by rw [laws_heldIntS.l0]) ?_
  refine Ev.pos (by simp; omega) ?_
  refine Ev.pos (by omega) ?_
  refine Ev.pos ?_ ?_
  · rw [rd_nat, getD_in _ _ (by simpa using hi)]
    simp
  have e1 : wrap64 ((i : Int) + 1) = ((i + 1 : Nat) : Int) := by rw [w64 (by omega) (by omega)]; omega
  have e2 : wrap64 (a + (i : Int) + 1) = a + ((i + 1 : Nat) : Int) := by rw [w64 (by omega) (by omega)]; omega
  simp only [e1, e2]
  exact h
theorem heldIntS_ev (n : Nat) (a : Int) (h : n ≤ 1048576) (h0 : 0 ≤ a) (h1 : a ≤ 1152921504606846976) : Ev (fun k => laws_heldIntS.f k ((List.range n).map fun j : Nat => a + (j : Int)) a) (a + (n : Int)) := heldIntSb_ev n a (by omega) h0 h1
def FitlawsVersion (y : S68) : Prop := y.f2.f1.length ≤ 1048576
def cvVersion (y : S68) : S84 := (⟨(⟨y.f0.f0, y.f0.f1, y.f0.f2⟩ : S73), y.f1, (⟨y.f2.f0, y.f2.f1, (⟨y.f2.f2.f0, y.f2.f2.f1, y.f2.f2.f2⟩ : S73)⟩ : S82)⟩ : S84)
def FitimplVersion (y : S84) : Prop := y.f2.f1.length ≤ 1048576
def FitlawsOp (y : S52) : Prop := True
def cvOp (y : S52) : S50 := (⟨y.f0, y.f1, y.f2, y.f3⟩ : S50)
def FitimplOp (y : S50) : Prop := True
def FitimplState (y : S57) : Prop := y.f1.length ≤ 1048576 ∧ y.f2.length ≤ 1048576 ∧ y.f3.length ≤ 1048576
theorem toAddress_eq (a0 : Int) (a1 : Int) (a2 : Int) : laws_toAddress.f a0 a1 a2 = some (a0, a1, a2) := by
  simp [laws_toAddress.f]
theorem eqAddress_refl (a0 : Int) (a1 : Int) (a2 : Int) : laws_eqAddress.f a0 a1 a2 a0 a1 a2 = some true := by
  simp [laws_eqAddress.f]
theorem toResource_ev (a0 : Int) (a1 : List Int) (a2 : Int) (a3 : Int) (a4 : Int) (ha1 : a1.length ≤ 1048576) : Ev (fun k => laws_toResource.f k a0 a1 a2 a3 a4) (a0, a1, a2, a3, a4) := by
  unfold laws_toResource.f
  refine Ev.bind (toIntS_ev a1 ha1) ?_
  refine Ev.now_bind (toAddress_eq a2 a3 a4) ?_
  exact Ev.now _
theorem eqResource_refl (a0 : Int) (a1 : List Int) (a2 : Int) (a3 : Int) (a4 : Int) (ha1 : a1.length ≤ 1048576) : Ev (fun k => laws_eqResource.f k a0 a1 a2 a3 a4 a0 a1 a2 a3 a4) true := by
  unfold laws_eqResource.f
  refine Ev.pos rfl ?_
  refine Ev.bind (eqIntS_refl a1 ha1) ?_
  refine Ev.pos rfl ?_
  refine Ev.now_bind (eqAddress_refl a2 a3 a4) ?_
  refine Ev.pos rfl ?_
  exact Ev.now _
theorem szResource_some (a0 : Int) (a1 : List Int) (a2 : Int) (a3 : Int) (a4 : Int) (n : Int) (ma1 : a1.length ≤ maxLen) (h0 : 0 ≤ n) (h1 : n ≤ 1048576) : ∃ r, laws_szResource.f a0 a1 a2 a3 a4 n = some r ∧ r ≤ 1048576 ∧ (0 ≤ r → a1.length ≤ 1048576) := by
  unfold laws_szResource.f
  obtain ⟨r0, e0, b0, g0⟩ := szIntS_some a1 n ma1 (by omega) (by omega)
  rw [e0]
  simp only [Option.bind_some]
  by_cases c0 : r0 < 0
  · rw [if_pos c0]; exact ⟨_, rfl, by omega, fun h => by omega⟩
  rw [if_neg c0]
  exact ⟨_, rfl, by omega, fun _ => (g0 (by omega))⟩
theorem toVersion_ev (a0 : Int) (a1 : Int) (a2 : Int) (a3 : Int) (a4 : Int) (a5 : List Int) (a6 : Int) (a7 : Int) (a8 : Int) (ha5 : a5.length ≤ 1048576) : Ev (fun k => laws_toVersion.f k a0 a1 a2 a3 a4 a5 a6 a7 a8) (a0, a1, a2, a3, a4, a5, a6, a7, a8) := by
  unfold laws_toVersion.f
  refine Ev.now_bind (toAddress_eq a0 a1 a2) ?_
  refine Ev.bind (toResource_ev a4 a5 a6 a7 a8 ha5) ?_
  exact Ev.now _
theorem eqVersion_refl (a0 : Int) (a1 : Int) (a2 : Int) (a3 : Int) (a4 : Int) (a5 : List Int) (a6 : Int) (a7 : Int) (a8 : Int) (ha5 : a5.length ≤ 1048576) : Ev (fun k => laws_eqVersion.f k a0 a1 a2 a3 a4 a5 a6 a7 a8 a0 a1 a2 a3 a4 a5 a6 a7 a8) true := by
  unfold laws_eqVersion.f
  refine Ev.now_bind (eqAddress_refl a0 a1 a2) ?_
  refine Ev.pos rfl ?_
  refine Ev.pos rfl ?_
  refine Ev.bind (eqResource_refl a4 a5 a6 a7 a8 ha5) ?_
  refine Ev.pos rfl ?_
  exact Ev.now _
theorem szVersion_some (a0 : Int) (a1 : Int) (a2 : Int) (a3 : Int) (a4 : Int) (a5 : List Int) (a6 : Int) (a7 : Int) (a8 : Int) (n : Int) (ma5 : a5.length ≤ maxLen) (h0 : 0 ≤ n) (h1 : n ≤ 1048576) : ∃ r, laws_szVersion.f a0 a1 a2 a3 a4 a5 a6 a7 a8 n = some r ∧ r ≤ 1048576 ∧ (0 ≤ r → a5.length ≤ 1048576) := by
  unfold laws_szVersion.f
  obtain ⟨r0, e0, b0, g0⟩ := szResource_some a4 a5 a6 a7 a8 n ma5 (by omega) (by omega)
  rw [e0]
  simp only [Option.bind_some]
  by_cases c0 : r0 < 0
  · rw [if_pos c0]; exact ⟨_, rfl, by omega, fun h => by omega⟩
  rw [if_neg c0]
  exact ⟨_, rfl, by omega, fun _ => (g0 (by omega))⟩
def MaxVersion (y : S68) : Prop := y.f2.f1.length ≤ maxLen
theorem szVersionS_some (l : List S68) (a : Int) (h : l.length ≤ maxLen ∧ ∀ y ∈ l, MaxVersion y) (h0 : 0 ≤ a) (h1 : a ≤ 1048576) : ∃ r, Ev (fun k => laws_szVersionS.f k l a) r ∧ r ≤ 1048576 ∧ (0 ≤ r → l.length ≤ 1048576 ∧ ∀ y ∈ l, FitlawsVersion y) := by
  obtain ⟨h, hy⟩ := h
  unfold maxLen at h
  unfold laws_szVersionS.f
  rw [w64 (by omega) (by omega)]
  by_cases c : a - (l.length : Int) < 0
  · exact ⟨-1, Ev.pos c (Ev.now _), by omega, fun h => by omega⟩
  have key : ∀ d i : Nat, i + d = l.length → ∀ b : Int, 0 ≤ b → b ≤ 1048576 → ∃ r, Ev (fun k => laws_szVersionS.l0 k l b (i : Int)) r ∧ r ≤ 1048576 ∧ (0 ≤ r → ∀ y ∈ l.drop i, FitlawsVersion y) := by
    intro d
    induction d with
    | zero =>
      intro i hi b hb0 hb1
      obtain rfl : i = l.length := by omega
      exact ⟨b, Ev.round (fun _ => by rw [laws_szVersionS.l0]) (Ev.neg (by omega) (Ev.now _)), hb1, fun _ => by simp⟩
    | succ d ih =>
      intro i hi b hb0 hb1
      have hil : i < l.length := by omega
      have hmem := getD_mem l i hil z68
      obtain ⟨r0, e0, b0, g0⟩ := szVersion_some (l.getD i z68).f0.f0 (l.getD i z68).f0.f1 (l.getD i z68).f0.f2 (l.getD i z68).f1 (l.getD i z68).f2.f0 (l.getD i z68).f2.f1 (l.getD i z68).f2.f2.f0 (l.getD i z68).f2.f2.f1 (l.getD i z68).f2.f2.f2 b (hy _ hmem) hb0 hb1
      by_cases c0 : r0 < 0
      · refine ⟨-1, ?_, by omega, fun h => by omega⟩
        refine Ev.round (fun _ => by rw [laws_szVersionS.l0]) ?_
        refine Ev.pos (by omega) ?_
        refine Ev.pos (by omega) ?_
        refine Ev.now_bind e0 ?_
        refine Ev.pos c0 ?_
        exact Ev.now _
      obtain ⟨r, er, br, gr⟩ := ih (i + 1) (by omega) r0 (by omega) b0
      refine ⟨r, ?_, br, fun hr => ?_⟩
      · refine Ev.round (fun _ => by rw [laws_szVersionS.l0]) ?_
        refine Ev.pos (by omega) ?_
        refine Ev.pos (by omega) ?_
        refine Ev.now_bind e0 ?_
        refine Ev.neg c0 ?_
        have e1 : wrap64 ((i : Int) + 1) = ((i + 1 : Nat) : Int) := by rw [w64 (by omega) (by omega)]; omega
        simp only [e1]
        exact er
      · rw [drop_cons l i hil z68]
        intro y hy2
        rcases List.mem_cons.1 hy2 with rfl | hy2
        · exact g0 (by omega)
        · exact gr hr y hy2
  obtain ⟨r, er, br, gr⟩ := key l.length 0 (by omega) (a - (l.length : Int)) (by omega) (by omega)
  exact ⟨r, Ev.neg c er, br, fun hr => ⟨by omega, by simpa using gr hr⟩⟩
theorem toVersionS_ev (l : List S68) (h : l.length ≤ 1048576) (hy : ∀ y ∈ l, FitlawsVersion y) : Ev (fun k => laws_toVersionS.f k l) (l.map cvVersion) := by
  unfold laws_toVersionS.f
  refine Ev.pos (by omega) ?_
  refine Ev.pos (by simp only [Int.toNat_natCast]; omega) ?_
  simp only [Int.toNat_natCast]
  refine ev_fill (fun k x i => laws_toVersionS.l0 k l x i) l z68 cvVersion z84 (fun k x => by simp [laws_toVersionS.l0]) ?_
  intro i x r hi hx h
  have hmem := getD_mem l i hi z68
  refine Ev.round (fun _ => by rw [laws_toVersionS.l0]) ?_
  refine Ev.pos (by omega) ?_
  refine Ev.pos (by omega) ?_
  refine Ev.bind (toVersion_ev _ _ _ _ _ _ _ _ _ (hy _ hmem)) ?_
  refine Ev.pos (by omega) ?_
  have e1 : wrap64 ((i : Int) + 1) = ((i + 1 : Nat) : Int) := by rw [w64 (by omega) (by omega)]; omega
  simp only [e1]
  exact h
theorem eqVersionS_refl (l : List S84) (h : l.length ≤ 1048576) (hy : ∀ y ∈ l, FitimplVersion y) : Ev (fun k => laws_eqVersionS.f k l l) true := by
  unfold laws_eqVersionS.f
  refine Ev.pos rfl ?_
  refine ev_down (fun k i => laws_eqVersionS.l0 k l l (i : Int)) l.length (fun _ => true) (Ev.round (fun _ => by rw [laws_eqVersionS.l0]) (Ev.neg (by omega) (Ev.now _))) (fun i hi h => ?_)
  have hmem := getD_mem l i hi z84
  refine Ev.round (fun _ => by rw [laws_eqVersionS.l0]) ?_
  refine Ev.pos (by omega) ?_
  refine Ev.pos (by omega) ?_
  refine Ev.pos (by omega) ?_
  refine Ev.bind (eqVersion_refl _ _ _ _ _ _ _ _ _ (hy _ hmem)) ?_
  refine Ev.pos rfl ?_
  have e1 : wrap64 ((i : Int) + 1) = ((i + 1 : Nat) : Int) := by rw [w64 (by omega) (by omega)]; omega
  simp only [e1]
  exact h
theorem toOp_eq (a0 : Int) (a1 : Int) (a2 : Int) (a3 : Int) : laws_toOp.f a0 a1 a2 a3 = some (a0, a1, a2, a3) := by
  simp [laws_toOp.f]
theorem eqOp_refl (a0 : Int) (a1 : Int) (a2 : Int) (a3 : Int) : laws_eqOp.f a0 a1 a2 a3 a0 a1 a2 a3 = some true := by
  simp [laws_eqOp.f]
theorem szOpS_some (l : List S52) (a : Int) (h : l.length ≤ maxLen) (h0 : 0 ≤ a) (h1 : a ≤ 1048576) : ∃ r, laws_szOpS.f l a = some r ∧ r ≤ 1048576 ∧ (0 ≤ r → l.length ≤ 1048576) := by
  unfold maxLen at h
  unfold laws_szOpS.f
  rw [w64 (by omega) (by omega)]
  by_cases c : a - (l.length : Int) < 0
  · rw [if_pos c]; exact ⟨_, rfl, by omega, by omega⟩
  · rw [if_neg c]; exact ⟨_, rfl, by omega, by omega⟩
theorem toOpS_ev (l : List S52) (h : l.length ≤ 1048576) : Ev (fun k => laws_toOpS.f k l) (l.map cvOp) := by
  unfold laws_toOpS.f
  refine Ev.pos (by omega) ?_
  refine Ev.pos (by simp only [Int.toNat_natCast]; omega) ?_
  simp only [Int.toNat_natCast]
  refine ev_fill (fun k x i => laws_toOpS.l0 k l x i) l z52 cvOp z50 (fun k x => by simp [laws_toOpS.l0]) ?_
  intro i x r hi hx h
  have hmem := getD_mem l i hi z52
  refine Ev.round (fun _ => by rw [laws_toOpS.l0]) ?_
  refine Ev.pos (by omega) ?_
  refine Ev.pos (by omega) ?_
  refine Ev.now_bind (toOp_eq _ _ _ _) ?_
  refine Ev.pos (by omega) ?_
  have e1 : wrap64 ((i : Int) + 1) = ((i + 1 : Nat) : Int) := by rw [w64 (by omega) (by omega)]; omega
  simp only [e1]
  exact h
theorem eqOpS_refl (l : List S50) (h : l.length ≤ 1048576) : Ev (fun k => laws_eqOpS.f k l l) true := by
  unfold laws_eqOpS.f
  refine Ev.pos rfl ?_
  refine ev_down (fun k i => laws_eqOpS.l0 k l l (i : Int)) l.length (fun _ => true) (Ev.round (fun _ => by rw [laws_eqOpS.l0]) (Ev.neg (by omega) (Ev.now _))) (fun i hi h => ?_)
  have hmem := getD_mem l i hi z50
  refine Ev.round (fun _ => by rw [laws_eqOpS.l0]) ?_
  refine Ev.pos (by omega) ?_
  refine Ev.pos (by omega) ?_
  refine Ev.pos (by omega) ?_
  refine Ev.now_bind (eqOp_refl _ _ _ _) ?_
  refine Ev.pos rfl ?_
  have e1 : wrap64 ((i : Int) + 1) = ((i + 1 : Nat) : Int) := by rw [w64 (by omega) (by omega)]; omega
  simp only [e1]
  exact h
def mkOp (c : Int) : S50 := (⟨c, c + 1, c + 2, c + 3⟩ : S50)
theorem markOpS_ev (l : List S50) (a : Int) (h : l.length ≤ 1048576) (h0 : 0 ≤ a) (h1 : a ≤ 1152921504600000000) : Ev (fun k => laws_markOpS.f k l a) (a + 4 * (l.length : Int), (List.range l.length).map fun j : Nat => mkOp (a + 4 * (j : Int))) := by
  unfold laws_markOpS.f
  have main := ev_down (fun k i => laws_markOpS.l0 k ((List.range i).map (fun j : Nat => mkOp (a + 4 * (j : Int))) ++ l.drop i) (a + 4 * (i : Int)) (i : Int)) l.length (fun _ => (a + 4 * (l.length : Int), (List.range l.length).map fun j : Nat => mkOp (a + 4 * (j : Int))))
    (Ev.round (fun _ => by rw [laws_markOpS.l0]) (Ev.neg (by simp) (Ev.const fun _ => by simp)))
    (fun i hi h => ?_)
  · simpa using main
  refine Ev.round (fun _ => by rw [laws_markOpS.l0]) ?_
  refine Ev.pos (by simp; omega) ?_
  refine Ev.pos (by omega) ?_
  have e1 : wrap64 ((i : Int) + 1) = ((i + 1 : Nat) : Int) := by rw [w64 (by omega) (by omega)]; omega
  have hlen : ((List.range i).map (fun j : Nat => mkOp (a + 4 * (j : Int))) ++ l.drop i).length = l.length := by simp; omega
  have e3 : ∀ v, ((List.range i).map (fun j : Nat => mkOp (a + 4 * (j : Int))) ++ l.drop i).set i v = (List.range i).map (fun j : Nat => mkOp (a + 4 * (j : Int))) ++ v :: l.drop (i + 1) := by
    intro v
    rw [List.set_append_right _ _ (by simp), drop_cons l i hi z50]
    simp
  have e4 : ∀ v u, ((List.range i).map (fun j : Nat => mkOp (a + 4 * (j : Int))) ++ u :: l.drop (i + 1)).set i v = (List.range i).map (fun j : Nat => mkOp (a + 4 * (j : Int))) ++ v :: l.drop (i + 1) := by
    intro v u
    rw [List.set_append_right _ _ (by simp)]
    simp
  have e5 : ∀ u, rd_T50 ((List.range i).map (fun j : Nat => mkOp (a + 4 * (j : Int))) ++ u :: l.drop (i + 1)) (i : Int) = u := by
    intro u
    unfold rd_T50
    simp [List.getD_eq_getElem?_getD]
  have w0 : wrap64 (a + 4 * (i : Int) + 1) = a + 4 * (i : Int) + 1 := (w64 (by omega) (by omega)).trans (by omega)
  have w1 : wrap64 (a + 4 * (i : Int) + 1 + 1) = a + 4 * (i : Int) + 2 := (w64 (by omega) (by omega)).trans (by omega)
  have w2 : wrap64 (a + 4 * (i : Int) + 2 + 1) = a + 4 * (i : Int) + 3 := (w64 (by omega) (by omega)).trans (by omega)
  have w3 : wrap64 (a + 4 * (i : Int) + 3 + 1) = a + 4 * (i : Int) + 4 := (w64 (by omega) (by omega)).trans (by omega)
  simp only [e1, w0, w1, w2, w3, Int.toNat_natCast, Option.bind_some, e3, e4, e5]
  have e9 : (List.range (i + 1)).map (fun j : Nat => mkOp (a + 4 * (j : Int))) ++ l.drop (i + 1) = (List.range i).map (fun j : Nat => mkOp (a + 4 * (j : Int))) ++ mkOp (a + 4 * (i : Int)) :: l.drop (i + 1) := by
    rw [List.range_succ, List.map_append, List.append_assoc]
    rfl
  rw [e9, show a + 4 * ((i + 1 : Nat) : Int) = a + 4 * (i : Int) + 4 by omega] at h
  exact h
theorem eqState_refl (a0 : Int) (a1 : List Int) (a2 : List Int) (a3 : List Int) (ha1 : a1.length ≤ 1048576) (ha2 : a2.length ≤ 1048576) (ha3 : a3.length ≤ 1048576) : Ev (fun k => laws_eqState.f k a0 a1 a2 a3 a0 a1 a2 a3) true := by
  unfold laws_eqState.f
  refine Ev.pos rfl ?_
  refine Ev.bind (eqIntS_refl a1 ha1) ?_
  refine Ev.pos rfl ?_
  refine Ev.bind (eqIntS_refl a2 ha2) ?_
  refine Ev.pos rfl ?_
  refine Ev.bind (eqIntS_refl a3 ha3) ?_
  refine Ev.pos rfl ?_
  exact Ev.now _
theorem eqStateS_refl (l : List S57) (h : l.length ≤ 1048576) (hy : ∀ y ∈ l, FitimplState y) : Ev (fun k => laws_eqStateS.f k l l) true := by
  unfold laws_eqStateS.f
  refine Ev.pos rfl ?_
  refine ev_down (fun k i => laws_eqStateS.l0 k l l (i : Int)) l.length (fun _ => true) (Ev.round (fun _ => by rw [laws_eqStateS.l0]) (Ev.neg (by omega) (Ev.now _))) (fun i hi h => ?_)
  have hmem := getD_mem l i hi z57
  refine Ev.round (fun _ => by rw [laws_eqStateS.l0]) ?_
  refine Ev.pos (by omega) ?_
  refine Ev.pos (by omega) ?_
  refine Ev.pos (by omega) ?_
  refine Ev.bind (eqState_refl _ _ _ _ (hy _ hmem).1 (hy _ hmem).2.1 (hy _ hmem).2.2) ?_
  refine Ev.pos rfl ?_
  have e1 : wrap64 ((i : Int) + 1) = ((i + 1 : Nat) : Int) := by rw [w64 (by omega) (by omega)]; omega
  simp only [e1]
  exact h
theorem toVisit_ev (a0 : List S68) (a1 : Int) (a2 : Int) (a3 : List Int) (ha0 : (a0.length ≤ 1048576 ∧ ∀ e_ ∈ a0, FitlawsVersion e_)) (ha3 : a3.length ≤ 1048576) : Ev (fun k => laws_toVisit.f k a0 a1 a2 a3) (a0.map cvVersion, a1, a2, a3) := by
  unfold laws_toVisit.f
  refine Ev.bind (toVersionS_ev a0 ha0.1 ha0.2) ?_
  refine Ev.bind (toIntS_ev a3 ha3) ?_
  exact Ev.now _
theorem eqVisit_refl (a0 : List S84) (a1 : Int) (a2 : Int) (a3 : List Int) (ha0 : (a0.length ≤ 1048576 ∧ ∀ e_ ∈ a0, FitimplVersion e_)) (ha3 : a3.length ≤ 1048576) : Ev (fun k => laws_eqVisit.f k a0 a1 a2 a3 a0 a1 a2 a3) true := by
  unfold laws_eqVisit.f
  refine Ev.bind (eqVersionS_refl a0 ha0.1 ha0.2) ?_
  refine Ev.pos rfl ?_
  refine Ev.pos rfl ?_
  refine Ev.pos rfl ?_
  refine Ev.bind (eqIntS_refl a3 ha3) ?_
  refine Ev.pos rfl ?_
  exact Ev.now _
theorem szVisit_some (a0 : List S68) (a1 : Int) (a2 : Int) (a3 : List Int) (n : Int) (ma0 : (a0.length ≤ maxLen ∧ ∀ e_ ∈ a0, MaxVersion e_)) (ma3 : a3.length ≤ maxLen) (h0 : 0 ≤ n) (h1 : n ≤ 1048576) : ∃ r, Ev (fun k => laws_szVisit.f k a0 a1 a2 a3 n) r ∧ r ≤ 1048576 ∧ (0 ≤ r → (a0.length ≤ 1048576 ∧ ∀ e_ ∈ a0, FitlawsVersion e_) ∧ a3.length ≤ 1048576) := by
  unfold laws_szVisit.f
  obtain ⟨r0, e0, b0, g0⟩ := szVersionS_some a0 n ma0 (by omega) (by omega)
  by_cases c0 : r0 < 0
  · refine ⟨-1, ?_, by omega, fun h => by omega⟩
    refine Ev.bind e0 ?_
    exact Ev.pos c0 (Ev.now _)
  obtain ⟨r1, e1, b1, g1⟩ := szIntS_some a3 r0 ma3 (by omega) (by omega)
  by_cases c1 : r1 < 0
  · refine ⟨-1, ?_, by omega, fun h => by omega⟩
    refine Ev.bind e0 ?_
    refine Ev.neg c0 ?_
    refine Ev.now_bind e1 ?_
    exact Ev.pos c1 (Ev.now _)
  refine ⟨r1, ?_, by omega, fun _ => ⟨(g0 (by omega)), (g1 (by omega))⟩⟩
  refine Ev.bind e0 ?_
  refine Ev.neg c0 ?_
  refine Ev.now_bind e1 ?_
  exact Ev.neg c1 (Ev.now _)
end Go.Proofs.Ythojdjnchhkafaa.MFnExactTraceVisit
