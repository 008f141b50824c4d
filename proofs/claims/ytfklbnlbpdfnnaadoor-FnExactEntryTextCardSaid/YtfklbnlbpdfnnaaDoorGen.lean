/- Plain lemmas on rounds, loops and lists, of no program. -/
import Derived.Test.YtfklbnlbpdfnnaaDoorWMore
import Derived.Laws.BitsLemmas
namespace Go.Proofs.YtfklbnlbpdfnnaaDoor.Gen
open Go.RowKit Go.Proofs.YtfklbnlbpdfnnaaDoorW.PrintWords Go.Proofs.YtfklbnlbpdfnnaaDoorW.PrintMore

theorem w64 {n : Int} (h0 : -9223372036854775808 ≤ n) (h1 : n ≤ 9223372036854775807) : wrap64 n = n := by unfold wrap64; omega
theorem wf64 {n : Int} (h : (Lit.int .i64 n).wf = true) : -9223372036854775808 ≤ n ∧ n ≤ 9223372036854775807 := by
  simp only [Lit.wf, Bool.and_eq_true, decide_eq_true_eq] at h
  have h2 : IntKind.i64.max = 9223372036854775807 := rfl
  have h3 : IntKind.i64.min = -9223372036854775808 := rfl
  omega

section
variable {α β ρ : Type}
theorem Ev.const {g : Nat → Option α} {r : α} (h : ∀ k, g k = some r) : Ev g r := ⟨0, fun k _ => h k⟩
theorem Ev.pos {c : Prop} [Decidable c] {A B : Nat → Option α} {r : α} (h : c) (k : Ev A r) : Ev (fun n => if c then A n else B n) r := by
  obtain ⟨K, k⟩ := k
  exact ⟨K, fun n hn => by simp only [if_pos h]; exact k n hn⟩
theorem Ev.neg {c : Prop} [Decidable c] {A B : Nat → Option α} {r : α} (h : ¬ c) (k : Ev B r) : Ev (fun n => if c then A n else B n) r := by
  obtain ⟨K, k⟩ := k
  exact ⟨K, fun n hn => by simp only [if_neg h]; exact k n hn⟩
theorem Ev.ite {c : Prop} [Decidable c] {A B : Nat → Option α} {r s : α} (k : c → Ev A r) (l : ¬ c → Ev B s) : Ev (fun n => if c then A n else B n) (if c then r else s) := by
  by_cases h : c
  · rw [if_pos h]; exact Ev.pos h (k h)
  · rw [if_neg h]; exact Ev.neg h (l h)
theorem Ev.cast {g : Nat → Option α} {r s : α} (h : Ev g r) (e : r = s) : Ev g s := e ▸ h
/-- A step that needs no rounds. -/
theorem Ev.now_bind {o : Option α} {f : Nat → α → Option β} {a : α} {r : β} (h : o = some a) (k : Ev (fun n => f n a) r) : Ev (fun n => o.bind (f n)) r := by
  subst h
  exact k
/-- From the last state of a loop back to its first. -/
theorem ev_down (G : Nat → Nat → Option ρ) (n : Nat) (R : Nat → ρ) (hend : Ev (fun k => G k n) (R n))
    (hstep : ∀ i, i < n → Ev (fun k => G k (i + 1)) (R (i + 1)) → Ev (fun k => G k i) (R i)) : Ev (fun k => G k 0) (R 0) := by
  have key : ∀ d i, i + d = n → Ev (fun k => G k i) (R i) := by
    intro d
    induction d with
    | zero =>
      intro i hi
      obtain rfl : i = n := by omega
      exact hend
    | succ d ih =>
      intro i hi
      exact hstep i (by omega) (ih (i + 1) (by omega))
  exact key n 0 (by omega)
/-- A round: what stands behind the first number. -/
theorem Ev.round {g : Nat → Option α} {f : Nat → Option α} {r : α} (h : ∀ k, g (k + 1) = f k) (k : Ev f r) : Ev g r := Ev.step h k
theorem Ev.unique {g : Nat → Option α} {r s : α} (h : Ev g r) (k : Ev g s) : r = s := by
  obtain ⟨K, h⟩ := h
  obtain ⟨L, k⟩ := k
  have h1 := h (max K L) (Nat.le_max_left _ _)
  rw [k (max K L) (Nat.le_max_right _ _)] at h1
  exact (Option.some.inj h1).symm
end

/-! ### Lists -/
theorem drop_cons {α : Type} (l : List α) (i : Nat) (h : i < l.length) (d : α) : l.drop i = l.getD i d :: l.drop (i + 1) := by
  rw [List.drop_eq_getElem_cons h, List.getD_eq_getElem?_getD, List.getElem?_eq_getElem h]
  rfl
theorem getD_in {α : Type} (l : List α) (i : Nat) (h : i < l.length) (d : α) : l.getD i d = l[i] := by
  rw [List.getD_eq_getElem?_getD, List.getElem?_eq_getElem h]
  rfl
theorem getD_mem {α : Type} (l : List α) (i : Nat) (h : i < l.length) (d : α) : l.getD i d ∈ l := by
  rw [getD_in l i h d]
  exact List.getElem_mem h
theorem rd_nat (l : List Int) (i : Nat) : rd l (i : Int) = l.getD i 0 := by simp [rd]
/-- A row being filled from the left. -/
theorem fill_step {α β : Type} (l : List α) (f : α → β) (z : β) (d : α) (i : Nat) (h : i < l.length) :
    ((l.take i).map f ++ List.replicate (l.length - i) z).set i (f (l.getD i d)) = (l.take (i + 1)).map f ++ List.replicate (l.length - (i + 1)) z := by
  have h1 : ((l.take i).map f).length = i := by simp; omega
  rw [List.set_append_right _ _ (by omega), h1, Nat.sub_self, show l.length - i = (l.length - (i + 1)) + 1 by omega, List.replicate_succ, List.set_cons_zero, getD_in l i h d, List.take_succ_eq_append_getElem h, List.map_append, List.append_assoc]
  rfl
theorem fill_length {α β : Type} (l : List α) (f : α → β) (z : β) (i : Nat) (h : i ≤ l.length) : ((l.take i).map f ++ List.replicate (l.length - i) z).length = l.length := by simp; omega
theorem fill_zero {α β : Type} (l : List α) (f : α → β) (z : β) : (l.take 0).map f ++ List.replicate (l.length - 0) z = List.replicate l.length z := by simp
theorem fill_full {α β : Type} (l : List α) (f : α → β) (z : β) : (l.take l.length).map f ++ List.replicate (l.length - l.length) z = l.map f := by simp

/-! ### Loops over an index, for programs whose last state is the index -/
section
variable {α β ρ : Type}
/-- A row filled from another. -/
theorem ev_fill (F : Nat → List β → Int → Option (List β)) (l : List α) (d : α) (f : α → β) (z : β)
    (hend : ∀ k x, F (k + 1) x (l.length : Int) = some x)
    (hstep : ∀ (i : Nat) (x : List β) (r : List β), i < l.length → x.length = l.length → Ev (fun k => F k (x.set i (f (l.getD i d))) ((i + 1 : Nat) : Int)) r → Ev (fun k => F k x (i : Int)) r) :
    Ev (fun k => F k (List.replicate l.length z) 0) (l.map f) := by
  have h := ev_down (fun k i => F k ((l.take i).map f ++ List.replicate (l.length - i) z) (i : Int)) l.length (fun _ => l.map f)
    (Ev.round (hend · _) (Ev.const fun _ => by rw [fill_full]))
    (fun i hi h => hstep i _ _ hi (fill_length l f z i (by omega)) (by rw [fill_step l f z d i hi]; exact h))
  have e := fill_zero l f z
  simp only [e] at h
  exact h
/-- All or none: a loop that ends at once where one does not meet p. -/
theorem ev_all (F : Nat → Int → Option Bool) (l : List α) (d : α) (p : α → Bool) (b : Bool)
    (hend : ∀ k, F (k + 1) (l.length : Int) = some b)
    (hyes : ∀ i : Nat, i < l.length → p (l.getD i d) = true → ∀ r, Ev (fun k => F k ((i + 1 : Nat) : Int)) r → Ev (fun k => F k (i : Int)) r)
    (hno : ∀ i : Nat, i < l.length → p (l.getD i d) = false → Ev (fun k => F k (i : Int)) false) :
    Ev (fun k => F k 0) (l.all p && b) := by
  have h := ev_down (fun k i => F k (i : Int)) l.length (fun i => (l.drop i).all p && b) (Ev.round hend (Ev.const fun _ => by simp))
    (fun i hi h => by
      rw [drop_cons l i hi d, List.all_cons]
      cases hp : p (l.getD i d) with
      | true => simpa using hyes i hi hp _ h
      | false => simpa using hno i hi hp)
  simpa using h
/-- A fold. -/
theorem ev_foldl (F : Nat → β → Int → Option ρ) (l : List α) (d : α) (f : β → α → β) (g : β → ρ) (Inv : Nat → β → Prop) (b : β) (h0 : Inv 0 b)
    (hend : ∀ x, Inv l.length x → Ev (fun k => F k x (l.length : Int)) (g x))
    (hstep : ∀ (i : Nat) (x : β), i < l.length → Inv i x → Inv (i + 1) (f x (l.getD i d)) ∧ ∀ r, Ev (fun k => F k (f x (l.getD i d)) ((i + 1 : Nat) : Int)) r → Ev (fun k => F k x (i : Int)) r) :
    Ev (fun k => F k b 0) (g (l.foldl f b)) := by
  have key : ∀ dd i x, i + dd = l.length → Inv i x → Ev (fun k => F k x (i : Int)) (g ((l.drop i).foldl f x)) := by
    intro dd
    induction dd with
    | zero =>
      intro i x hi hx
      obtain rfl : i = l.length := by omega
      have := hend x hx
      simpa using this
    | succ dd ih =>
      intro i x hi hx
      obtain ⟨h1, h2⟩ := hstep i x (by omega) hx
      rw [drop_cons l i (by omega) d, List.foldl_cons]
      exact h2 _ (ih (i + 1) _ (by omega) h1)
  simpa using key l.length 0 b (by omega) h0
end
/-! ### Two lists of one length, by index -/
theorem zip_getD {α : Type} (a b : List α) (h : a.length = b.length) (i : Nat) (hi : i < a.length) (d : α) : (a.zip b).getD i (d, d) = (a.getD i d, b.getD i d) := by
  have h1 : i < (a.zip b).length := by simp; omega
  rw [getD_in _ _ h1, getD_in _ _ hi, getD_in _ _ (by omega), List.getElem_zip]
theorem ev_all2 {α : Type} (F : Nat → Int → Option Bool) (a b : List α) (d : α) (p : α → α → Bool) (hab : a.length = b.length)
    (hend : ∀ k, F (k + 1) (a.length : Int) = some true)
    (hyes : ∀ i : Nat, i < a.length → p (a.getD i d) (b.getD i d) = true → ∀ r, Ev (fun k => F k ((i + 1 : Nat) : Int)) r → Ev (fun k => F k (i : Int)) r)
    (hno : ∀ i : Nat, i < a.length → p (a.getD i d) (b.getD i d) = false → Ev (fun k => F k (i : Int)) false) :
    Ev (fun k => F k 0) ((a.zip b).all fun q => p q.1 q.2) := by
  have hl : (a.zip b).length = a.length := by simp; omega
  have h := ev_all F (a.zip b) (d, d) (fun q => p q.1 q.2) true (by rw [hl]; exact hend)
    (fun i hi hp => hyes i (by omega) (by rw [zip_getD a b hab i (by omega) d] at hp; exact hp))
    (fun i hi hp => hno i (by omega) (by rw [zip_getD a b hab i (by omega) d] at hp; exact hp))
  simpa using h
theorem zip_all_eq {α : Type} [DecidableEq α] : ∀ (a b : List α), a.length = b.length → ((a.zip b).all fun q => decide (q.1 = q.2)) = decide (a = b)
  | [], [], _ => by simp
  | x :: a, y :: b, h => by
    have := zip_all_eq a b (by simpa using h)
    simp only [List.zip_cons_cons, List.all_cons, this]
    by_cases h1 : x = y <;> by_cases h2 : a = b <;> simp [h1, h2]
/-! ### Bits of a number below 2^20 -/
def caps (n m : Nat) : List Int := ((List.range m).filter fun i => n.testBit i).map fun i : Nat => (i : Int)
theorem caps_succ (n m : Nat) : caps n (m + 1) = if n / 2 ^ m % 2 = 1 then caps n m ++ [(m : Int)] else caps n m := by
  unfold caps
  rw [List.range_succ, List.filter_append, List.map_append]
  by_cases h : n / 2 ^ m % 2 = 1
  · have : n.testBit m = true := by rw [Nat.testBit_eq_decide_div_mod_eq]; exact decide_eq_true h
    simp [this, h]
  · have : n.testBit m = false := by rw [Nat.testBit_eq_decide_div_mod_eq]; exact decide_eq_false h
    simp [this, h]
theorem caps_length (n m : Nat) : (caps n m).length ≤ m := by
  unfold caps
  rw [List.length_map]
  exact Nat.le_trans (List.length_filter_le _ _) (by simp)
theorem caps_mem (n m : Nat) (x : Int) : x ∈ caps n m ↔ ∃ i : Nat, i < m ∧ n.testBit i = true ∧ x = (i : Int) := by
  unfold caps
  simp only [List.mem_map, List.mem_filter, List.mem_range]
  constructor
  · rintro ⟨i, ⟨h1, h2⟩, rfl⟩; exact ⟨i, h1, h2, rfl⟩
  · rintro ⟨i, h1, h2, rfl⟩; exact ⟨i, ⟨h1, h2⟩, rfl⟩
theorem and_one (x : Int) (h0 : 0 ≤ x) (h1 : x < 2 ^ 62) : Go.bits .and .i64 x 1 = x % 2 := by
  have h := bits_mask .i64 62 (by decide) (fun n a b => by rw [IntKind.wrap_i64]; omega) 1 (by decide) x h0 h1
  simpa using h
theorem or_nat (a b : Nat) (ha : a < 2 ^ 62) (hb : b < 2 ^ 62) : Go.bits .or .i64 (a : Int) (b : Int) = ((a ||| b : Nat) : Int) :=
  (bits_nat .i64 62 (by decide) (fun n h0 h1 => by rw [IntKind.wrap_i64]; omega) a b ha hb).2
/-- One bit more of b, joined to a. -/
theorem or_step (a b j : Nat) : (a ||| b % 2 ^ (j + 1)) = if b.testBit j = true ∧ a.testBit j = false then (a ||| b % 2 ^ j) + 2 ^ j else (a ||| b % 2 ^ j) := by
  have hb : b % 2 ^ (j + 1) = 2 ^ j * (b / 2 ^ j % 2) + b % 2 ^ j := by
    have h1 : b % 2 ^ j = b % 2 ^ (j + 1) % 2 ^ j := by rw [Nat.mod_mod_of_dvd _ (Nat.pow_dvd_pow 2 (Nat.le_succ j))]
    have h2 : b / 2 ^ j % 2 = b % 2 ^ (j + 1) / 2 ^ j := by rw [Nat.pow_succ, Nat.mod_mul_right_div_self]
    rw [h1, h2]
    exact (Nat.div_add_mod _ _).symm
  have ha : a = 2 ^ j * (a / 2 ^ j) + a % 2 ^ j := (Nat.div_add_mod a (2 ^ j)).symm
  have hla : a % 2 ^ j < 2 ^ j := Nat.mod_lt _ (Nat.two_pow_pos j)
  have hlb : b % 2 ^ j < 2 ^ j := Nat.mod_lt _ (Nat.two_pow_pos j)
  have hor : a % 2 ^ j ||| b % 2 ^ j < 2 ^ j := Nat.or_lt_two_pow hla hlb
  have split : ∀ q : Nat, (a ||| (2 ^ j * q + b % 2 ^ j)) = 2 ^ j * (a / 2 ^ j ||| q) + (a % 2 ^ j ||| b % 2 ^ j) := by
    intro q
    have hm : (a ||| (2 ^ j * q + b % 2 ^ j)) % 2 ^ j = a % 2 ^ j ||| b % 2 ^ j := by
      rw [Nat.or_mod_two_pow, Nat.mul_add_mod, Nat.mod_mod]
    have hd : (a ||| (2 ^ j * q + b % 2 ^ j)) / 2 ^ j = a / 2 ^ j ||| q := by
      rw [Nat.or_div_two_pow, Nat.mul_add_div (Nat.two_pow_pos j), Nat.div_eq_of_lt hlb, Nat.add_zero]
    rw [← hm, ← hd]
    exact (Nat.div_add_mod _ _).symm
  have s0 : (a ||| b % 2 ^ j) = 2 ^ j * (a / 2 ^ j) + (a % 2 ^ j ||| b % 2 ^ j) := by simpa using split 0
  rw [hb, split, s0, Nat.testBit_eq_decide_div_mod_eq, Nat.testBit_eq_decide_div_mod_eq]
  have hq : b / 2 ^ j % 2 = 0 ∨ b / 2 ^ j % 2 = 1 := by omega
  rcases hq with hq | hq
  · simp [hq]
  · rw [hq]
    have h1 : (a / 2 ^ j ||| 1) = if a / 2 ^ j % 2 = 1 then a / 2 ^ j else a / 2 ^ j + 1 := by
      generalize a / 2 ^ j = c
      have e : (c ||| 1) = 2 * (c / 2) + 1 := by
        have h := Nat.two_pow_add_eq_or_of_lt (i := 1) (b := 1) (by decide) (c / 2)
        have h2 : (c ||| 1) = (2 ^ 1 * (c / 2) ||| 1) := by
          apply Nat.eq_of_testBit_eq
          intro i
          cases i with
          | zero => simp
          | succ i => rw [Nat.testBit_or, Nat.testBit_or]; simp [Nat.testBit_succ]
        rw [h2, ← h]
      rw [e]
      split <;> omega
    rw [h1]
    by_cases hc : a / 2 ^ j % 2 = 1
    · simp [hc]
    · have : a / 2 ^ j % 2 = 0 := by omega
      simp [this, Nat.mul_add]
      omega
/-! ### Sums, halves and bits of small natural numbers -/
theorem half_nat (q : Nat) (h : q ≤ 4611686018427387904) : wrap64 (Int.tdiv (q : Int) 2) = ((q / 2 : Nat) : Int) := by
  rw [Int.tdiv_eq_ediv_of_nonneg (by omega), w64 (by omega) (by omega)]
  omega
theorem odd_nat (q : Nat) : Int.tmod (q : Int) 2 = ((q % 2 : Nat) : Int) := by
  rw [Int.tmod_eq_emod_of_nonneg (by omega)]
  omega
theorem bit_nat (q : Nat) (h : q < 4611686018427387904) : Go.bits .and .i64 (q : Int) 1 = ((q % 2 : Nat) : Int) := by
  rw [and_one _ (by omega) (by omega)]
  omega
theorem dbl_nat (q : Nat) (h : q ≤ 2305843009213693952) : wrap64 (2 * (q : Int)) = ((2 * q : Nat) : Int) := by
  rw [w64 (by omega) (by omega)]
  omega
theorem add_nat (p q : Nat) (h : p ≤ 2305843009213693952) (h2 : q ≤ 2305843009213693952) : wrap64 ((p : Int) + (q : Int)) = ((p + q : Nat) : Int) := by
  rw [w64 (by omega) (by omega)]
  omega
theorem shr_nat (n i : Nat) (h : i ≤ 63) : shr .i64 (n : Int) (i : Int) = ((n / 2 ^ i : Nat) : Int) := by
  unfold shr
  rw [Nat.min_eq_left (by show (i : Int).toNat ≤ 64; omega)]
  simp
/-! ### Bools in short circuit -/
abbrev pIn (a b c : Int) : Bool := decide (b ≤ a) && decide (a ≤ c)
abbrev pAddr (h p q : Int) : Bool := pIn h 1 9 && (pIn p 0 99 && pIn q 0 99)
abbrev pZero (h p q : Int) : Bool := h == 0 && (p == 0 && (q == 0))
theorem some_and (a b : Bool) : (if a = true then some b else some false) = some (a && b) := by cases a <;> simp
theorem Ev.and {A B : Nat → Option Bool} {a b : Bool} (hA : Ev A a) (hB : a = true → Ev B b) : Ev (fun n => (A n).bind fun t => if t = true then B n else some false) (a && b) := by
  refine Ev.bind hA ?_
  cases a with
  | true => exact Ev.pos rfl (hB rfl)
  | false => exact Ev.neg (by simp) (Ev.now _)
theorem Ev.now_and {o : Option Bool} {B : Nat → Option Bool} {a b : Bool} (hA : o = some a) (hB : a = true → Ev B b) : Ev (fun n => o.bind fun t => if t = true then B n else some false) (a && b) := by
  subst hA
  exact Ev.and (A := fun _ => some a) (Ev.now a) hB
theorem Ev.if_and {c : Prop} [Decidable c] {B : Nat → Option Bool} {b : Bool} (hB : c → Ev B b) : Ev (fun n => if c then B n else some false) (decide c && b) := by
  by_cases h : c
  · refine Ev.pos h ?_
    simpa [h] using hB h
  · refine Ev.neg h ?_
    simpa [h] using Ev.now false
theorem Ev.id {α : Type} {A : Nat → Option α} {a : α} (h : Ev A a) : Ev (fun n => (A n).bind fun t => some t) a := Ev.bind h (Ev.now _)
theorem Ev.no {A : Nat → Option Bool} {a : Bool} (h : Ev A a) : Ev (fun n => (A n).bind fun t => some (!t)) (!a) := Ev.bind h (Ev.now _)
/-- The first index at which p holds is there exactly if some element meets p. -/
theorem ev_find {α : Type} (F : Nat → Int → Option Int) (l : List α) (d : α) (p : α → Bool)
    (hend : ∀ k, F (k + 1) (l.length : Int) = some (-1))
    (hyes : ∀ i : Nat, i < l.length → p (l.getD i d) = true → Ev (fun k => F k (i : Int)) (i : Int))
    (hno : ∀ i : Nat, i < l.length → p (l.getD i d) = false → ∀ r, Ev (fun k => F k ((i + 1 : Nat) : Int)) r → Ev (fun k => F k (i : Int)) r) :
    ∃ r : Int, Ev (fun k => F k 0) r ∧ decide (r ≥ 0) = l.any p := by
  have key : ∀ dd i : Nat, i + dd = l.length → ∃ r : Int, Ev (fun k => F k (i : Int)) r ∧ decide (r ≥ 0) = (l.drop i).any p := by
    intro dd
    induction dd with
    | zero =>
      intro i hi
      obtain rfl : i = l.length := by omega
      exact ⟨-1, Ev.round hend (Ev.now _), by simp⟩
    | succ dd ih =>
      intro i hi
      have hil : i < l.length := by omega
      rw [drop_cons l i hil d, List.any_cons]
      cases hp : p (l.getD i d) with
      | true => exact ⟨(i : Int), hyes i hil hp, by simp⟩
      | false =>
        obtain ⟨r, hr, hd⟩ := ih (i + 1) (by omega)
        exact ⟨r, hno i hil hp r hr, by simpa using hd⟩
  simpa using key l.length 0 (by omega)
theorem Ev.rpos {α : Type} {c : Prop} [Decidable c] {g : Nat → Option α} {r s : α} (h : c) (k : Ev g r) : Ev g (if c then r else s) := by rw [if_pos h]; exact k
theorem Ev.rneg {α : Type} {c : Prop} [Decidable c] {g : Nat → Option α} {r s : α} (h : ¬ c) (k : Ev g s) : Ev g (if c then r else s) := by rw [if_neg h]; exact k
theorem Ev.ifb_and {a : Bool} {B : Nat → Option Bool} {b : Bool} (hB : a = true → Ev B b) : Ev (fun n => if a = true then B n else some false) (a && b) := by
  cases a with
  | true => exact Ev.pos rfl (hB rfl)
  | false => exact Ev.neg (by simp) (Ev.now _)
theorem any_not {α : Type} (l : List α) (p : α → Bool) : (!(l.any fun y => !p y)) = l.all p := by
  rw [List.all_eq_not_any_not]
end Go.Proofs.YtfklbnlbpdfnnaaDoor.Gen
