/- What reads as a type holds the cells of a kind: openers for slices, structs and structs in structs, whatever their nesting. -/
import Derived.Test.YteemhimikamihaaGreatWWords
import Derived.Deep.Slices
import Derived.Deep.Fields
import Derived.ChangeSame
import Derived.OpenShut
namespace Go.Proofs.YteemhimikamihaaGreat.Open
open Go.RowKit Go.ChangeShapes Go.WideShapes Go.Deep Go.Proofs.YteemhimikamihaaGreatW.PrintWords

section
variable {H : Type} {enc : TypeId × Value → H} {P : Program} {w : World}

/-- Whatever reads as type t is of kind d, and what it holds meets wf. -/
def Opn (enc : TypeId × Value → H) (P : Program) (w : World) {α : Type} (t : TypeId) (d : Kd α) (wf : α → Prop) : Prop :=
  P.cellsOf t = d.sz ∧ ∀ fuel cs x, DataW.trod enc P w 0 (fun _ => true) true fuel t cs = some x → ∃ y, d.K w y cs ∧ wf y

theorem opn_int {t : TypeId} {k : IntKind} (hu : P.underlying t = some (.int k)) (hc : P.cellsOf t = 1) : Opn enc P w t (Kd.int k) (fun n => (Lit.int k n).wf = true) := by
  refine ⟨hc, fun fuel cs x h => ?_⟩
  cases fuel with
  | zero => simp [DataW.trod] at h
  | succ n =>
    unfold DataW.trod at h
    rw [hu] at h
    split at h <;> simp_all
    rename_i k' n' _
    obtain ⟨⟨rfl, hw⟩, _⟩ := h
    exact ⟨n', rfl, hw⟩

theorem opn_bool {t : TypeId} (hu : P.underlying t = some .bool) (hc : P.cellsOf t = 1) : Opn enc P w t Kd.bool (fun _ => True) := by
  refine ⟨hc, fun fuel cs x h => ?_⟩
  cases fuel with
  | zero => simp [DataW.trod] at h
  | succ n =>
    unfold DataW.trod at h
    rw [hu] at h
    split at h
    case h_1 b _ => exact ⟨b, rfl, trivial⟩
    all_goals simp_all

theorem opn_slice {α : Type} {d : Kd α} {wf : α → Prop} {t e : TypeId} (e' : Nat) (hu : P.underlying t = some (.slice e)) (hc : P.cellsOf t = 1) (h : Opn enc P w e d wf) :
    Opn enc P w t (Kd.slice e' d) (fun l => l.length ≤ maxLen ∧ ∀ y ∈ l, wf y) := by
  refine ⟨hc, fun fuel cs x hx => ?_⟩
  rcases open_slice hu hx with ⟨rfl, _⟩ | ⟨a, len, cap, m, n, D, Pl, rfl, _, hl, hm, hmm, _, hi⟩
  · exact ⟨[], ⟨none, 0, rfl, Nat.le_refl _, rfl, by simp, fun h => by simp at h⟩, by simp, by simp⟩
  · have hmm' : m = cap := by simpa using hmm
    subst hmm'
    have step : ∀ i, i < len → ∃ y, (∃ c, c.length = d.sz ∧ d.K w y c ∧ ∀ j u, c[j]? = some u → w.cell? (a.add (i * d.sz + j)) = some u) ∧ wf y := by
      intro i hil
      obtain ⟨cs', hcell, ht⟩ := hi i (by omega)
      obtain ⟨y, hK, hwf⟩ := h.2 _ _ _ ht
      rw [h.1] at hcell
      obtain ⟨_, hlen, hat⟩ := World.cells?_some hcell
      refine ⟨y, ⟨cs', hlen, hK, fun j u hj => ?_⟩, hwf⟩
      have hj' : j < d.sz := by
        have := (List.getElem?_eq_some_iff.1 hj).1
        omega
      have := hat j hj'
      rw [Go.Deep.add_add] at this
      rw [this, hj]
    have all : ∀ k, k ≤ len → ∃ ys : List α, ys.length = k ∧ (∀ j p, ys[j]? = some p → (∃ c, c.length = d.sz ∧ d.K w p c ∧ ∀ i u, c[i]? = some u → w.cell? (a.add (j * d.sz + i)) = some u) ∧ wf p) := by
      intro k
      induction k with
      | zero => exact fun _ => ⟨[], rfl, fun j p hj => by simp at hj⟩
      | succ k ih =>
        intro hk
        obtain ⟨ys, hy, hys⟩ := ih (by omega)
        obtain ⟨y, hyk⟩ := step k (by omega)
        refine ⟨ys ++ [y], by simp [hy], fun j p hj => ?_⟩
        rcases Nat.lt_or_ge j ys.length with hjl | hjl
        · rw [List.getElem?_append_left hjl] at hj
          exact hys j p hj
        · have hjk : j = k := by
            have := (List.getElem?_eq_some_iff.1 hj).1
            simp at this
            omega
          subst hjk
          have hp : y = p := by
            rw [List.getElem?_append_right (by omega), hy] at hj
            simpa using hj
          subst hp
          exact hyk
    obtain ⟨ys, hy, hys⟩ := all len (Nat.le_refl _)
    subst hy
    refine ⟨ys, ⟨some a, m, rfl, hl, rfl, ?_, fun _ => ⟨a, rfl, fun j p hj => (hys j p hj).1⟩⟩, Nat.le_trans hl hm, fun y hy => ?_⟩
    · unfold maxLen at hm
      omega
    · obtain ⟨j, hj⟩ := List.mem_iff_getElem?.1 hy
      exact (hys j y hj).2

/-- The fields from one offset on. -/
def OpnFs (enc : TypeId × Value → H) (P : Program) (w : World) {α : Type} (fs : List Field) (off : Nat) (d : Kd α) (wf : α → Prop) : Prop :=
  ∀ (n : Nat) (cs : List Value) (xs : List (DataW H × List MemPlace)), cs.length = off + d.sz →
    (∀ (i : Nat) (f : Field), fs[i]? = some f → DataW.trod enc P w 0 (fun _ => true) true n f.type ((cs.drop f.offset).take (P.cellsOf f.type)) = xs[i]?) → xs.length = fs.length → ∃ y, d.K w y (cs.drop off) ∧ wf y

theorem opnFs_one {α : Type} {d : Kd α} {wf : α → Prop} {f : Field} {off : Nat} (ho : f.offset = off) (h : Opn enc P w f.type d wf) : OpnFs enc P w [f] off d wf := by
  intro n cs xs hcs hx hlen
  match xs, hlen with
  | [x], _ =>
    have h1 := hx 0 f rfl
    rw [ho, h.1] at h1
    have e : (cs.drop off).take d.sz = cs.drop off := List.take_of_length_le (by rw [List.length_drop]; omega)
    rw [e] at h1
    exact h.2 _ _ _ h1

theorem opnFs_cons {α β : Type} {a : Kd α} {b : Kd β} {wfa : α → Prop} {wfb : β → Prop} {f : Field} {fs : List Field} {off : Nat} (ho : f.offset = off) (h : Opn enc P w f.type a wfa) (hs : OpnFs enc P w fs (off + a.sz) b wfb) :
    OpnFs enc P w (f :: fs) off (Kd.pair a b) (fun y => wfa y.1 ∧ wfb y.2) := by
  intro n cs xs hcs hx hlen
  have hsz : (Kd.pair a b).sz = a.sz + b.sz := rfl
  rw [hsz] at hcs
  match xs, hlen with
  | x :: xs, hlen =>
    have h1 := hx 0 f rfl
    rw [ho, h.1] at h1
    obtain ⟨y, hy, wy⟩ := h.2 _ _ _ h1
    obtain ⟨z, hz, wz⟩ := hs n cs xs (by omega) (fun i g hg => hx (i + 1) g hg) (by simpa using hlen)
    refine ⟨(y, z), ⟨_, _, ?_, hy, hz⟩, wy, wz⟩
    rw [← List.drop_drop, List.take_append_drop]

theorem opn_struct {α : Type} {d : Kd α} {wf : α → Prop} {t : TypeId} {fs : List Field} (hu : P.underlying t = some (.struct fs.toArray)) (hc : P.cellsOf t = d.sz) (h : OpnFs enc P w fs 0 d wf) : Opn enc P w t d wf := by
  refine ⟨hc, fun fuel cs x hx => ?_⟩
  obtain ⟨xs, n, _, _, hcs, hlen, hf⟩ := DataW.trod_struct hu hx
  have := h n cs xs (by rw [hcs, hc]; omega) (fun i f hi => hf i f (by simpa using hi)) (by simpa using hlen)
  simpa using this

theorem opn_iso {α β : Type} {d : Kd α} {wf : α → Prop} {t : TypeId} {f : β → α} (g : α → β) (hg : ∀ x, f (g x) = x) (h : Opn enc P w t d wf) : Opn enc P w t (Kd.iso d f) (fun y => wf (f y)) := by
  refine ⟨h.1, fun fuel cs x hx => ?_⟩
  obtain ⟨y, hK, hw⟩ := h.2 _ _ _ hx
  refine ⟨g y, ?_, by show wf (f (g y)); rw [hg]; exact hw⟩
  show d.K w (f (g y)) cs
  rw [hg]
  exact hK

theorem opn_imp {α : Type} {d : Kd α} {wf wf' : α → Prop} {t : TypeId} (h : Opn enc P w t d wf) (hi : ∀ y, wf y → wf' y) : Opn enc P w t d wf' :=
  ⟨h.1, fun fuel cs x hx => (h.2 fuel cs x hx).elim fun y hy => ⟨y, hy.1, hi y hy.2⟩⟩

/-- An argument. -/
theorem opn_arg {α : Type} {d : Kd α} {wf : α → Prop} {t : TypeId} {v : Value} {dat : DataW H} {ps : List MemPlace} (h : Opn enc P w t d wf) (ht : DataW.Trod enc P w 0 (fun _ => true) true t v dat ps) : ∃ y, d.K w y v.cells.toList ∧ wf y := by
  obtain ⟨fuel, hf⟩ := ht
  exact h.2 _ _ _ hf

theorem trod_block {t : TypeId} {v : Value} {dat : DataW H} {ps : List MemPlace} (ht : DataW.Trod enc P w 0 (fun _ => true) true t v dat ps) : ∀ x ∈ ps, x.block < w.heap.size := by
  obtain ⟨m, hm⟩ := ht
  exact DataW.trod_lt m _ _ _ hm
end
end Go.Proofs.YteemhimikamihaaGreat.Open
