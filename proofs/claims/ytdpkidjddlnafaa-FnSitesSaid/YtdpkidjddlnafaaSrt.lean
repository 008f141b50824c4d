/- slices.Sort and slices.Compact at []int in the words of the printed contracts (Kd.R): laid once for this seat. By an AI agent. -/
import Derived.Test.YtdpkidjddlnafaaSrt0
import Derived.Test.YtdpkidjddlnafaaWWords
import Derived.Test.YtdpkidjddlnafaaProg
import Derived.Shelf.Slices.In.SortAlone
import Derived.Shelf.Slices.In.SortNone
import Derived.Shelf.Slices.In.CompactI
import Derived.Sort.OwnSorted
import Derived.Sort.EveryDepth
import Derived.Lib.OwnBridge
namespace Go.Proofs.YtdpkidjddlnafaaSrt
open Go.RowKit Go.Shelf Go.Sort Go.Proofs.YtdpkidjddlnafaaW.PrintWords
theorem grownBy_sortedI {w : World} {g n : Nat} {os : Array Obj} (d : Array Int) : w.grownBy (grow (putRow (Value.int .i64) (Sort.ahead w n) g 0 d) os) (some g) := by
  refine ⟨rfl, rfl, rfl, by simp, fun k hk hne => ?_⟩
  rw [heap_grow_old _ _ (by simpa using hk)]
  have : g ≠ k := fun e => hne (by rw [e])
  simp [putRow, mapBlock, Sort.ahead, Array.getElem?_modify, this]
theorem own_grow {w : World} {base : Nat} {e : TypeId} {v : Value} {n : Nat} {xs : List Value} (os : Array Obj) (h : w.ownsRow base e 1 v n xs) : (grow w os).ownsRow base e 1 v n xs := by
  refine own_move h (fun k hk => heap_grow_old w os ?_)
  exact own_lt h k hk
theorem sort_R {base : Nat} {ok : Nat → Prop} {v : Value} {t : List Int} {w : World} (h : Kd.R (Kd.int .i64) 3 w base ok v t) (hl : t.length < 17592186044416) :
    Calls Try.prog 109 #[v] w fun e w' => e = .returned (.tuple #[]) ∧ Kd.R (Kd.int .i64) 3 w' base ok v (t.mergeSort fun x y => decide (x ≤ y)) ∧ ∀ B W, B ≤ base → Below B W w → Below B W w' := by
  have ho : w.ownsRow base 3 1 v t.length (t.map (Value.int .i64)) := Kd.own_of_R h
  have hok := h.1
  have hl2 : (t.mergeSort fun x y => decide (x ≤ y)).length = t.length := List.length_mergeSort t
  rcases ho.2 with ⟨hv, hn⟩ | ⟨g, cap, cur, hv, hb, hg, hn, hm, hs, ht⟩
  · have e0 : t = [] := List.eq_nil_of_length_eq_zero hn
    subst hv; subst e0
    refine (Any.slices_Sort_int_none Try.laysSort none 0 w).mono ?_
    rintro e w' ⟨rfl, rfl⟩
    refine ⟨rfl, ?_, fun B W _ hB => hB⟩
    have e1 : (([] : List Int).mergeSort fun x y => decide (x ≤ y)) = [] := List.eq_nil_of_length_eq_zero hl2
    rw [e1]
    exact h
  · have hH := Lib.holds_of_ownsRow ho (by rw [hv]; simp)
    obtain ⟨g', cap', hv', hbg, hgl, hncap, hcm, hlen, hH⟩ := hH
    subst hv
    injection hv' with e1 _ e3
    injection e1 with e1
    injection e1 with e1
    subst e1; subst e3
    refine (calls_of_every_depth fun D => AnyS.slices_Sort_int_alone Try.laysSort D g 0 cap t w hH hgl (by omega)).mono ?_
    rintro e w' ⟨rfl, n, os, rfl⟩
    have h1 := Lib.ownsRow_putRow (q := n) (k := t.length) (ys := t.mergeSort fun x y => decide (x ≤ y)) ho hl2 (Nat.le_refl _)
    rw [List.take_of_length_le (by omega)] at h1
    refine ⟨rfl, Kd.R_of_own (by rw [hl2]; exact own_grow os h1) hok, fun B W hle hB => ?_⟩
    exact hB.grown (grownBy_sortedI _) (by omega) (fun j hj => by cases hj; omega)
theorem compact_R {base : Nat} {ok : Nat → Prop} {v : Value} {t : List Int} {w : World} (h : Kd.R (Kd.int .i64) 3 w base ok v t) (hl : t.length < 17592186044416) :
    Calls Try.prog 110 #[v] w fun e w' => ∃ v', e = .returned v' ∧ Kd.R (Kd.int .i64) 3 w' base ok v' (Lib.compact t) ∧ ∀ B W, B ≤ base → Below B W w → Below B W w' := by
  have ho : w.ownsRow base 3 1 v t.length (t.map (Value.int .i64)) := Kd.own_of_R h
  have hok := h.1
  have hle := Lib.compact_length_le t
  rcases ho.2 with ⟨hv, hn⟩ | ⟨g, cap, cur, hv, hb, hg, hn, hm, hs, ht⟩
  · have e0 : t = [] := List.eq_nil_of_length_eq_zero hn
    subst hv; subst e0
    refine (calls_of_every_depth fun D => AnyS.slices_Compact_int_empty_in Try.laysCompact D none 0 w).mono ?_
    rintro e w' ⟨rfl, rfl⟩
    have e1 : Lib.compact ([] : List Int) = [] := List.eq_nil_of_length_eq_zero (Nat.le_zero.1 hle)
    refine ⟨_, rfl, ?_, fun B W _ hB => hB⟩
    rw [e1]
    exact h
  · have hH := Lib.holds_of_ownsRow ho (by rw [hv]; simp)
    obtain ⟨g', cap', hv', hbg, hgl, hncap, hcm, hlen, hH⟩ := hH
    subst hv
    injection hv' with e1 _ e3
    injection e1 with e1
    injection e1 with e1
    subst e1; subst e3
    refine (calls_of_every_depth fun D => AnyS.slices_Compact_int_in Try.laysCompact D g 0 cap t w hH (by omega) hn).mono ?_
    rintro e w' ⟨rfl, q, rfl⟩
    have h1 := Lib.ownsRow_putRow (q := q) (k := (Lib.compact t).length) (ys := Lib.compact t ++ List.replicate (t.length - (Lib.compact t).length) 0) ho (by simp; omega) hle
    rw [List.take_left] at h1
    exact ⟨_, rfl, Kd.R_of_own h1 (fun k hk => hok k hk), fun B W hB0 hB => Lib.below_putRow hB (by omega)⟩
end Go.Proofs.YtdpkidjddlnafaaSrt
