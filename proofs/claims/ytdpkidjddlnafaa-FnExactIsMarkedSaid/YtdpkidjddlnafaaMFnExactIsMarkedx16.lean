-- Written by a program of this session out of the translation's own print. Not trusted: Lean checks it.
import Derived.Maps.OwnOps
import Derived.Maps.Views
import Derived.Test.YtdpkidjddlnafaaMFnExactIsMarkedx0
import Derived.Test.YtdpkidjddlnafaaMFnExactIsMarkedx14
import Derived.Test.YtdpkidjddlnafaaMFnExactIsMarkedx15
namespace Go.Proofs.Ytdpkidjddlnafaa.MFnExactIsMarked
open Go.RowKit Go.Proofs.YtdpkidjddlnafaaW.PrintWords Go.Proofs.YtdpkidjddlnafaaW.PrintLast Go.Proofs.YtdpkidjddlnafaaW.PrintMore
attribute [local go_sem] max2_int min2_int max_two min_two max_three min_three max_four min_four   -- for this text's walks alone
set_option linter.unusedVariables false
set_option linter.unusedSimpArgs false

/-! ### impl_IsMarked: function 36 -/
def impl_IsMarked.Ms (l : List (S121)) (j : Nat) : DataW Unit := (l.take j).foldl (fun m y => m.put (.int .i64 y.f1) (.lit (.int .i64 1))) (.map [])
theorem impl_IsMarked.Ms_step (l : List (S121)) (i : Int) (h0 : 0 ≤ i) (h1 : i < (l.length : Int)) : impl_IsMarked.Ms l (i + 1).toNat = (impl_IsMarked.Ms l i.toNat).put (.int .i64 (rd_T121 l i).f1) (.lit (.int .i64 1)) := by
  obtain ⟨n, rfl⟩ := Int.eq_ofNat_of_zero_le h0
  have hn : n < l.length := by omega
  have e1 : ((n : Int) + 1).toNat = n + 1 := by omega
  have e2 : rd_T121 l (n : Int) = l[n] := by
    unfold rd_T121
    simp [List.getD_eq_getElem?_getD, hn]
  rw [e1, e2]
  unfold impl_IsMarked.Ms
  rw [List.take_succ_eq_append_getElem hn, List.foldl_append]
  rfl
theorem impl_IsMarked.Ms_any (l : List (S121)) (hw : ∀ y ∈ l, (Lit.int .i64 y.f1).wf = true) (i : Int) (hi : (Lit.int .i64 i).wf = true) : ∀ j, j ≤ l.length → Go.Maps.IsMap (impl_IsMarked.Ms l j) ∧ (impl_IsMarked.Ms l j).atKey (.int .i64 i) (.lit (.int .i64 0)) = .lit (.int .i64 (if (l.take j).any (fun y => y.f1 == i) then 1 else 0)) := by
  intro j
  induction j with
  | zero => intro _; exact ⟨Go.Maps.isMap_empty, by simp [impl_IsMarked.Ms, DataW.atKey]⟩
  | succ j ih =>
    intro hj
    obtain ⟨h1, h2⟩ := ih (by omega)
    have e : impl_IsMarked.Ms l (j + 1) = (impl_IsMarked.Ms l j).put (.int .i64 (l[j]'(by omega)).f1) (.lit (.int .i64 1)) := by
      unfold impl_IsMarked.Ms
      rw [List.take_succ_eq_append_getElem (by omega), List.foldl_append]
      rfl
    rw [e]
    refine ⟨h1.put _ _, ?_⟩
    rw [List.take_succ_eq_append_getElem (by omega), List.any_append]
    by_cases c : (l[j]'(by omega)).f1 = i
    · rw [c, Go.Maps.atKey_put_same h1 ?_]
      · simp [c]
      · exact (by simp [WideAt.IsKeyLit])
    · rw [Go.Maps.atKey_put_other (fun h => c (by injection h with _ h; exact h.symm))]
      rw [h2]
      simp [c]
theorem impl_IsMarked.w64 {n : Int} (h0 : -9223372036854775808 ≤ n) (h1 : n ≤ 9223372036854775807) : wrap64 n = n := by unfold wrap64; omega
theorem impl_IsMarked.law3 : Go.Maps.Keyed Try.prog 3 := Go.Maps.int_keyed Try.underlying3
theorem impl_IsMarked.zero3 (w : World) : (zeroValue 3).run Try.prog w = .ok (.int .i64 0) w := by kernel_rfl
theorem impl_IsMarked.mapB {w w1 : World} {k : TypeId} {R : Value → Option (DataW Unit × List MemPlace)} {b n : Nat} {D : DataW Unit} (h : w.ownsMap Try.prog k R b n D) (hb : Below w.heap.size w w1) : w1.ownsMap Try.prog k R b n D := by
  have hl := h.lt
  obtain ⟨es, clock, hh, rest⟩ := h
  exact ⟨es, clock, (hb.block b hl).trans hh, rest⟩
theorem impl_IsMarked.mapS {w : World} {k : TypeId} {R : Value → Option (DataW Unit × List MemPlace)} {b n : Nat} {D : DataW Unit} {g : Nat} (h : w.ownsMap Try.prog k R b n D) (hne : g ≠ b) (j : Nat) (v : Value) : (w.setCell ⟨g, j, none⟩ v).ownsMap Try.prog k R b n D := by
  obtain ⟨es, clock, hh, rest⟩ := h
  exact ⟨es, clock, (Below.heap_setCell w ⟨g, j, none⟩ v b (fun e => hne e.symm)).trans hh, rest⟩
theorem impl_IsMarked.grB {w0 w w1 : World} {m : Nat} (hB : Below w0.heap.size w0 w) (hm : w0.heap.size ≤ m) (hg : w.grownBy w1 (some m)) : Below w0.heap.size w0 w1 := hB.grown hg hB.size (fun j hj => by cases hj; exact hm)
theorem impl_IsMarked.grK {w w1 : World} {m g : Nat} {o : Obj} (hk : w.heap[g]? = some o) (hne : g ≠ m) (hg : w.grownBy w1 (some m)) : w1.heap[g]? = some o := (hg.block g (blk_lt hk) (fun e => hne (by injection e))).trans hk
theorem impl_IsMarked.chosen {l : List (S121)} (hw : ∀ y ∈ l, (Lit.int .i64 y.f1).wf = true) {i c t : Int} (hat : (impl_IsMarked.Ms l l.length).atKey (.int .i64 i) (.lit (.int .i64 0)) = .lit (.int .i64 c)) (h : impl_chosenAt.f l i = some t) : c = t := by
  unfold impl_chosenAt.f at h
  by_cases hi : (Lit.int .i64 i).wf = true
  · rw [if_pos hi] at h
    obtain ⟨_, h2⟩ := impl_IsMarked.Ms_any l hw i hi l.length (Nat.le_refl _)
    rw [List.take_length, hat] at h2
    injection h2 with h2
    injection h2 with _ h2
    exact h2.trans (Option.some.inj h)
  · rw [if_neg hi] at h
    cases h
theorem impl_IsMarked.chosen_wf {l : List (S121)} {i t : Int} (h : impl_chosenAt.f l i = some t) : (Lit.int .i64 i).wf = true := by
  unfold impl_chosenAt.f at h
  by_cases hi : (Lit.int .i64 i).wf = true
  · exact hi
  · rw [if_neg hi] at h
    cases h
theorem impl_IsMarked.rd_wf {l : List (S121)} (hw : ∀ y ∈ l, (Lit.int .i64 y.f1).wf = true) (i : Int) (h0 : 0 ≤ i) (h1 : i < (l.length : Int)) : (Lit.int .i64 (rd_T121 l i).f1).wf = true := by
  obtain ⟨n, rfl⟩ := Int.eq_ofNat_of_zero_le h0
  have hn : n < l.length := by omega
  have e2 : rd_T121 l (n : Int) = l[n] := by
    unfold rd_T121
    simp [List.getD_eq_getElem?_getD, hn]
  rw [e2]
  exact hw _ (List.getElem_mem hn)
mutual
def impl_IsMarked.l0 : Nat → List (S121) → Int → Int → Int → List Int → List Int → List Int → List (S121) → List Int → Int → Option (Bool)
  | 0, _, _, _, _, _, _, _, _, _, _ => none
  | k + 1, x16, x17, x18, x174000, x174001, x174002, x174003, x174004, x174005, x174006 => if x18 < x17 then (if 0 ≤ x18 then (if x18 < (x16.length : Int) then (impl_IsMarked.l0 k x16 x17 (wrap64 (x18 + 1)) x174000 x174001 x174002 x174003 x174004 x174005 x174006) else (none)) else (none)) else (impl_IsMarked.l1 k x16 x174005 (x174005.length : Int) 0)
def impl_IsMarked.l1 : Nat → List (S121) → List Int → Int → Int → Option (Bool)
  | 0, _, _, _, _ => none
  | k + 1, x16, x27, x28, x29 => if x29 < x28 then (if 0 ≤ x29 then (if x29 < (x27.length : Int) then ((impl_CapturesIn.f k (rd x27 x29)).bind fun t177 => (impl_IsMarked.l2 k x16 x27 x28 x29 t177 (t177.length : Int) 0)) else (none)) else (none)) else (some true)
def impl_IsMarked.l2 : Nat → List (S121) → List Int → Int → Int → List Int → Int → Int → Option (Bool)
  | 0, _, _, _, _, _, _, _ => none
  | k + 1, x16, x27, x28, x29, x34, x35, x36 => if x36 < x35 then (if 0 ≤ x36 then (if x36 < (x34.length : Int) then ((impl_chosenAt.f x16 (rd x34 x36)).bind fun t181 => (if t181 = 0 then (some false) else (impl_IsMarked.l2 k x16 x27 x28 x29 x34 x35 (wrap64 (x36 + 1))))) else (none)) else (none)) else (impl_IsMarked.l1 k x16 x27 x28 (wrap64 (x29 + 1)))
end
def impl_IsMarked.f (k : Nat) (a0_0 : Int) (l0_1 : List Int) (l0_2 : List Int) (l0_3 : List Int) (l0_4 : List (S121)) (l0_5 : List Int) (a0_6 : Int) : Option (Bool) := if (l0_4.length < 17592186044416 ∧ ∀ y ∈ l0_4, (Lit.int .i64 y.f1).wf = true) then (if (l0_5.length : Int) = 4 then (impl_IsMarked.l0 k l0_4 (l0_4.length : Int) 0 a0_0 l0_1 l0_2 l0_3 l0_4 l0_5 a0_6) else (some false)) else none
theorem impl_IsMarked.mono_l : ∀ k, (∀ y0 y1 y2 y3 y4 y5 y6 y7 y8 y9, LeO (impl_IsMarked.l0 k y0 y1 y2 y3 y4 y5 y6 y7 y8 y9) (impl_IsMarked.l0 (k + 1) y0 y1 y2 y3 y4 y5 y6 y7 y8 y9)) ∧ (∀ y0 y1 y2 y3, LeO (impl_IsMarked.l1 k y0 y1 y2 y3) (impl_IsMarked.l1 (k + 1) y0 y1 y2 y3)) ∧ (∀ y0 y1 y2 y3 y4 y5 y6, LeO (impl_IsMarked.l2 k y0 y1 y2 y3 y4 y5 y6) (impl_IsMarked.l2 (k + 1) y0 y1 y2 y3 y4 y5 y6))
  | 0 => ⟨fun _ _ _ _ _ _ _ _ _ _ r h => by simp [impl_IsMarked.l0] at h, fun _ _ _ _ r h => by simp [impl_IsMarked.l1] at h, fun _ _ _ _ _ _ _ r h => by simp [impl_IsMarked.l2] at h⟩
  | k + 1 => by
    obtain ⟨ih0, ih1, ih2⟩ := impl_IsMarked.mono_l k
    refine ⟨?_, ?_, ?_⟩
    · intro y0 y1 y2 y3 y4 y5 y6 y7 y8 y9
      unfold impl_IsMarked.l0
      repeat' first
      | (with_reducible exact ih0 _ _ _ _ _ _ _ _ _ _)
      | (with_reducible exact ih1 _ _ _ _)
      | (with_reducible exact ih2 _ _ _ _ _ _ _)
      | (with_reducible exact impl_CapturesIn.mono _ _)
      | (with_reducible exact LeO.refl _)
      | (with_reducible exact LeO.none _)
      | (with_reducible refine LeO.ite ?_ ?_)
      | (with_reducible refine LeO.bind ?_ (fun _ => ?_))
      | exact ih0 _ _ _ _ _ _ _ _ _ _
      | exact ih1 _ _ _ _
      | exact ih2 _ _ _ _ _ _ _
      | exact impl_CapturesIn.mono _ _
      | exact LeO.none _
      | refine LeO.ite ?_ ?_
      | refine LeO.bind ?_ (fun _ => ?_)
    · intro y0 y1 y2 y3
      unfold impl_IsMarked.l1
      repeat' first
      | (with_reducible exact ih0 _ _ _ _ _ _ _ _ _ _)
      | (with_reducible exact ih1 _ _ _ _)
      | (with_reducible exact ih2 _ _ _ _ _ _ _)
      | (with_reducible exact impl_CapturesIn.mono _ _)
      | (with_reducible exact LeO.refl _)
      | (with_reducible exact LeO.none _)
      | (with_reducible refine LeO.ite ?_ ?_)
      | (with_reducible refine LeO.bind ?_ (fun _ => ?_))
      | exact ih0 _ _ _ _ _ _ _ _ _ _
      | exact ih1 _ _ _ _
      | exact ih2 _ _ _ _ _ _ _
      | exact impl_CapturesIn.mono _ _
      | exact LeO.none _
      | refine LeO.ite ?_ ?_
      | refine LeO.bind ?_ (fun _ => ?_)
    · intro y0 y1 y2 y3 y4 y5 y6
      unfold impl_IsMarked.l2
      repeat' first
      | (with_reducible exact ih0 _ _ _ _ _ _ _ _ _ _)
      | (with_reducible exact ih1 _ _ _ _)
      | (with_reducible exact ih2 _ _ _ _ _ _ _)
      | (with_reducible exact impl_CapturesIn.mono _ _)
      | (with_reducible exact LeO.refl _)
      | (with_reducible exact LeO.none _)
      | (with_reducible refine LeO.ite ?_ ?_)
      | (with_reducible refine LeO.bind ?_ (fun _ => ?_))
      | exact ih0 _ _ _ _ _ _ _ _ _ _
      | exact ih1 _ _ _ _
      | exact ih2 _ _ _ _ _ _ _
      | exact impl_CapturesIn.mono _ _
      | exact LeO.none _
      | refine LeO.ite ?_ ?_
      | refine LeO.bind ?_ (fun _ => ?_)
theorem impl_IsMarked.mono : ∀ a0 a1 a2 a3 a4 a5 a6 k, LeO (impl_IsMarked.f k a0 a1 a2 a3 a4 a5 a6) (impl_IsMarked.f (k + 1) a0 a1 a2 a3 a4 a5 a6) := by
  intro a0 a1 a2 a3 a4 a5 a6 k
  obtain ⟨ih0, ih1, ih2⟩ := impl_IsMarked.mono_l k
  unfold impl_IsMarked.f
  repeat' first
      | (with_reducible exact ih0 _ _ _ _ _ _ _ _ _ _)
      | (with_reducible exact ih1 _ _ _ _)
      | (with_reducible exact ih2 _ _ _ _ _ _ _)
      | (with_reducible exact impl_CapturesIn.mono _ _)
      | (with_reducible exact LeO.refl _)
      | (with_reducible exact LeO.none _)
      | (with_reducible refine LeO.ite ?_ ?_)
      | (with_reducible refine LeO.bind ?_ (fun _ => ?_))
      | exact ih0 _ _ _ _ _ _ _ _ _ _
      | exact ih1 _ _ _ _
      | exact ih2 _ _ _ _ _ _ _
      | exact impl_CapturesIn.mono _ _
      | exact LeO.none _
      | refine LeO.ite ?_ ?_
      | refine LeO.bind ?_ (fun _ => ?_)
set_option maxHeartbeats 8000000 in
set_option maxRecDepth 100000 in
theorem impl_IsMarked.calls (k : Nat) (a0_0 : Int) (A0_1 : Option Addr) (c0_1 : Nat) (l0_1 : List Int) (A0_2 : Option Addr) (c0_2 : Nat) (l0_2 : List Int) (A0_3 : Option Addr) (c0_3 : Nat) (l0_3 : List Int) (A0_4 : Option Addr) (c0_4 : Nat) (l0_4 : List (S121)) (A0_5 : Option Addr) (c0_5 : Nat) (l0_5 : List Int) (a0_6 : Int) (r : Bool) (w : World) (hr0_1 : Kd.C (Kd.int .i64) w A0_1 l0_1.length l0_1) (hc0_1 : l0_1.length ≤ c0_1) (hr0_2 : Kd.C (Kd.int .i64) w A0_2 l0_2.length l0_2) (hc0_2 : l0_2.length ≤ c0_2) (hr0_3 : Kd.C (Kd.int .i64) w A0_3 l0_3.length l0_3) (hc0_3 : l0_3.length ≤ c0_3) (hr0_4 : Kd.C k121 w A0_4 l0_4.length l0_4) (hc0_4 : l0_4.length ≤ c0_4) (hr0_5 : Kd.C (Kd.int .i64) w A0_5 l0_5.length l0_5) (hc0_5 : l0_5.length ≤ c0_5) (h : impl_IsMarked.f k a0_0 l0_1 l0_2 l0_3 l0_4 l0_5 a0_6 = some r) :
    Calls Try.prog 36 #[.agg #[.int .i64 a0_0, .slice A0_1 l0_1.length c0_1, .slice A0_2 l0_2.length c0_2, .slice A0_3 l0_3.length c0_3, .slice A0_4 l0_4.length c0_4, .slice A0_5 l0_5.length c0_5, .int .i64 a0_6]] w fun e w' => e = .returned (.bool r) ∧ Below w.heap.size w w' := by
  have hu67 := Try.underlying67
  have hu121 := Try.underlying121
  have HR0_1 := Aside0.mk hr0_1
  have HC0_1 := Aside0.mk hc0_1
  clear hr0_1 hc0_1
  have HR0_2 := Aside0.mk hr0_2
  have HC0_2 := Aside0.mk hc0_2
  clear hr0_2 hc0_2
  have HR0_3 := Aside0.mk hr0_3
  have HC0_3 := Aside0.mk hc0_3
  clear hr0_3 hc0_3
  have HR0_4 := Aside0.mk hr0_4
  have HC0_4 := Aside0.mk hc0_4
  clear hr0_4 hc0_4
  have HR0_5 := Aside0.mk hr0_5
  have HC0_5 := Aside0.mk hc0_5
  clear hr0_5 hc0_5
  have HB := Aside0.mk (Below.refl w.heap.size w)
  by_cases hQ : (l0_4.length < 17592186044416 ∧ ∀ y ∈ l0_4, (Lit.int .i64 y.f1).wf = true)
  case neg =>
    unfold impl_IsMarked.f at h
    rw [if_neg hQ] at h
    cases h
  unfold impl_IsMarked.f at h
  rw [if_pos hQ] at h
  have QL := Aside0.mk hQ.1
  have QW := Aside0.mk hQ.2
  clear hQ
  have H : (if (l0_5.length : Int) = 4 then (impl_IsMarked.l0 k l0_4 (l0_4.length : Int) 0 a0_0 l0_1 l0_2 l0_3 l0_4 l0_5 a0_6) else (some false)) = some r := h
  clear h
  by_cases c2 : (l0_5.length : Int) = 4
  · rw [if_pos c2] at H
    have c2b0 : ((l0_5.length : Int) == 4) = true := beq_iff_eq.mpr c2
    have c2b1 : ((l0_5.length : Int) != 4) = false := bne_eq_false_iff_eq.mpr c2
    clear c2
    have H' := Aside0.mk H
    clear H
    have hmm := @run_makeMap Try.prog
    go_enter Try.func36, Try.ntmps36
    go_wp2_with (first | ((with_reducible refine gate_dst (N := 1) rfl ?_); refine box_event ?hg (N := 1) ?hd (cs := #[.int .i64 a0_0, .slice A0_1 l0_1.length c0_1, .slice A0_2 l0_2.length c0_2, .slice A0_3 l0_3.length c0_3, .slice A0_4 l0_4.length c0_4, .slice A0_5 l0_5.length c0_5, .int .i64 a0_6]) (t := 67) ?hr ?_; (case hd => rfl); (case hg => rfl); (case hr => first | (go_simp; done) | (go_simp; rfl)); intro gb173 hg w3 hbox hb; have n0_ := Aside0.mk (below_step (by repeat (first | (with_reducible first | exact HB.out | apply below_alloc | apply pw_below_drewN | apply below_drew1) | exact HB.out)) hb); have n1_ := Aside0.mk (hbox); have n2_ := Aside0.mk ((by rw [hg]; exact (below_size (by repeat (first | (with_reducible first | exact HB.out | apply below_alloc | apply pw_below_drewN | apply below_drew1) | exact HB.out))) : w.heap.size ≤ gb173)); have n3_ := Aside0.mk ((by rw [hg]; exact (below_size (by repeat (first | (with_reducible first | exact HB.out | apply below_alloc | apply pw_below_drewN | apply below_drew1) | exact HB.out))) : w.heap.size ≤ gb173)); clear HB; have HB := n0_; have BK173 := n1_; have GW173 := n2_; have GE173 := n3_; clear n0_ n1_ n2_ n3_; clear hb hbox hg; have hcz4_0 : w3.cell? ⟨gb173, 0, none⟩ = some (.int .i64 a0_0) := (blk_cell BK173.out 0).trans rfl; have hcz4_1 : w3.cell? ⟨gb173, 1, none⟩ = some (.slice A0_1 l0_1.length c0_1) := (blk_cell BK173.out 1).trans rfl; have hcz4_2 : w3.cell? ⟨gb173, 2, none⟩ = some (.slice A0_2 l0_2.length c0_2) := (blk_cell BK173.out 2).trans rfl; have hcz4_3 : w3.cell? ⟨gb173, 3, none⟩ = some (.slice A0_3 l0_3.length c0_3) := (blk_cell BK173.out 3).trans rfl; have hcz4_4 : w3.cell? ⟨gb173, 4, none⟩ = some (.slice A0_4 l0_4.length c0_4) := (blk_cell BK173.out 4).trans rfl; have hcz4_5 : w3.cell? ⟨gb173, 5, none⟩ = some (.slice A0_5 l0_5.length c0_5) := (blk_cell BK173.out 5).trans rfl; have hcz4_6 : w3.cell? ⟨gb173, 6, none⟩ = some (.int .i64 a0_6) := (blk_cell BK173.out 6).trans rfl; have hfz4_0 := blk_frozen BK173.out 0; have hfz4_1 := blk_frozen BK173.out 1; have hfz4_2 := blk_frozen BK173.out 2; have hfz4_3 := blk_frozen BK173.out 3; have hfz4_4 := blk_frozen BK173.out 4; have hfz4_5 := blk_frozen BK173.out 5; have hfz4_6 := blk_frozen BK173.out 6; have hcy4_4 : (w3.alloc (.map #[] 0)).cell? ⟨gb173, 4, none⟩ = some (.slice A0_4 l0_4.length c0_4) := (blk_cell (blk_alloc BK173.out _) 4).trans rfl))
    have GM := Aside0.mk (HB.out.size : w.heap.size ≤ w3.heap.size)
    have NK := Aside0.mk (Nat.ne_of_lt (blk_lt BK173.out) : gb173 ≠ w3.heap.size)
    go_loopg [18] k (fun kq v18 w' => ∃ (x18_1 : Int), v18 = .int .i64 x18_1 ∧ Aside0 (impl_IsMarked.l0 kq l0_4 (l0_4.length : Int) x18_1 a0_0 l0_1 l0_2 l0_3 l0_4 l0_5 a0_6 = some r) ∧ Aside0 (kq ≤ k) ∧ Aside0 (w'.heap[gb173]? = some (.cells #[.int .i64 a0_0, (.slice A0_1 l0_1.length c0_1), (.slice A0_2 l0_2.length c0_2), (.slice A0_3 l0_3.length c0_3), (.slice A0_4 l0_4.length c0_4), (.slice A0_5 l0_5.length c0_5), .int .i64 a0_6] 67 (0, 0))) ∧ Aside0 (Below w.heap.size w w') ∧ Aside0 (w'.ownsMap Try.prog 3 (plainElem Try.prog 3) w3.heap.size x18_1.toNat (impl_IsMarked.Ms l0_4 x18_1.toNat)) ∧ Aside0 (0 ≤ x18_1 ∧ x18_1 ≤ (l0_4.length : Int)))
    case atStart => exact ⟨(0), (by first | rfl | (simp; done) | (simp [*]; done)), H', ⟨Nat.le_refl _⟩, ⟨by (with_reducible repeat (first | refine blk_drewN ?_ _ | refine blk_drew ?_ | refine blk_alloc ?_ _)); exact BK173.out⟩, ⟨by repeat (first | (with_reducible first | exact HB.out | apply below_alloc | apply pw_below_drewN | apply below_drew1 | refine below_set ?_ GE173.out) | exact HB.out)⟩, ⟨World.ownsMap_made w3 _ _ _⟩, ⟨by omega⟩⟩
    case round =>
      clear H'
      clear hcy4_4 hmm
      try clear c2
      try clear c2b0
      try clear c2b1
      try clear p2
      try clear c3
      try clear hcz4_0
      try clear hcz4_1
      try clear hcz4_2
      try clear hcz4_3
      try clear hcz4_4
      try clear hcz4_5
      try clear hcz4_6
      try clear hfz4_0
      try clear hfz4_1
      try clear hfz4_2
      try clear hfz4_3
      try clear hfz4_4
      try clear hfz4_5
      try clear hfz4_6
      obtain ⟨x18_1, rfl, HA, HK1, BK173, HB, MP, X18⟩ := hrel
      cases gk with
      | zero => exact absurd HA.out (by simp [impl_IsMarked.l0])
      | succ k1 =>
        have H := HA.out
        clear HA
        simp only [impl_IsMarked.l0] at H
        by_cases c5 : x18_1 < (l0_4.length : Int)
        · rw [if_pos c5] at H
          have c5b0 : decide (x18_1 < (l0_4.length : Int)) = true := decide_eq_true c5
          clear c5
          by_cases c6 : 0 ≤ x18_1
          · rw [if_pos c6] at H
            have c6b0 : decide (0 ≤ x18_1) = true := decide_eq_true c6
            clear c6
            by_cases c7 : x18_1 < (l0_4.length : Int)
            · rw [if_pos c7] at H
              have c7b0 : decide (x18_1 < (l0_4.length : Int)) = true := decide_eq_true c7
              clear c7
              have H' := Aside0.mk H
              clear H
              have p174 : 0 ≤ (x18_1 : Int) := of_decide_eq_true (by first | (with_reducible assumption) | assumption)
              have q174 : x18_1 < (l0_4.length : Int) := of_decide_eq_true (by first | (with_reducible assumption) | assumption)
              obtain ⟨ad174, e174, hx174_0, hx174_1⟩ := at_T121 HR0_4.out x18_1 p174 q174
              cases e174
              replace hx174_0 := (HB.out.cell (World.block_lt_of_cell? w _ hx174_0)).trans hx174_0
              replace hx174_1 := (HB.out.cell (World.block_lt_of_cell? w _ hx174_1)).trans hx174_1
              replace p174 := eq_true p174
              replace q174 := eq_true q174
              have hw1 : (Lit.int .i64 1).wf = true := by decide
              have hnm : x18_1.toNat < maxLen := by unfold maxLen; have := QL.out; have := X18.out; omega
              have hwf := impl_IsMarked.rd_wf QW.out x18_1 (of_eq_true p174) (of_eq_true q174)
              go_wp2_with (first | ((with_reducible refine gate_dst (N := 5) rfl ?_); refine box_event ?hg (N := 5) ?hd (cs := #[.int .i64 0, .int .i64 0]) (t := 121) ?hr ?_; (case hd => rfl); (case hg => rfl); (case hr => first | (go_simp; done) | (go_simp; rfl)); intro gb175 hg w8 hbox hb; have n0_ := Aside0.mk (blk_below (g := gb173) (o := .cells #[.int .i64 a0_0, .slice A0_1 l0_1.length c0_1, .slice A0_2 l0_2.length c0_2, .slice A0_3 l0_3.length c0_3, .slice (some ad174) l0_4.length c0_4, .slice A0_5 l0_5.length c0_5, .int .i64 a0_6] 67 (0, 0)) (by (with_reducible repeat (first | refine blk_drewN ?_ _ | refine blk_drew ?_ | refine blk_alloc ?_ _)); exact BK173.out) hb); have n1_ := Aside0.mk (below_step (by repeat (first | (with_reducible first | exact HB.out | apply below_alloc | apply pw_below_drewN | apply below_drew1 | refine below_set ?_ GE173.out) | exact HB.out)) hb); have n2_ := Aside0.mk (hbox); have n3_ := Aside0.mk ((by rw [hg]; exact (below_size (by repeat (first | (with_reducible first | exact HB.out | apply below_alloc | apply pw_below_drewN | apply below_drew1 | refine below_set ?_ GE173.out) | exact HB.out))) : w.heap.size ≤ gb175)); have n4_ := Aside0.mk ((by rw [hg]; exact (below_size (by repeat (first | (with_reducible first | exact HB.out | apply below_alloc | apply pw_below_drewN | apply below_drew1 | refine below_set ?_ GE173.out) | exact HB.out))) : w.heap.size ≤ gb175)); have n5_ := Aside0.mk ((by rw [hg]; exact Nat.ne_of_lt (blk_lt (g := gb173) (o := .cells #[.int .i64 a0_0, .slice A0_1 l0_1.length c0_1, .slice A0_2 l0_2.length c0_2, .slice A0_3 l0_3.length c0_3, .slice (some ad174) l0_4.length c0_4, .slice A0_5 l0_5.length c0_5, .int .i64 a0_6] 67 (0, 0)) (by (with_reducible repeat (first | refine blk_drewN ?_ _ | refine blk_drew ?_ | refine blk_alloc ?_ _)); exact BK173.out)) : gb173 ≠ gb175)); have n6_ := Aside0.mk ((by rw [hg]; exact Nat.ne_of_gt (blk_lt (g := gb173) (o := .cells #[.int .i64 a0_0, .slice A0_1 l0_1.length c0_1, .slice A0_2 l0_2.length c0_2, .slice A0_3 l0_3.length c0_3, .slice (some ad174) l0_4.length c0_4, .slice A0_5 l0_5.length c0_5, .int .i64 a0_6] 67 (0, 0)) (by (with_reducible repeat (first | refine blk_drewN ?_ _ | refine blk_drew ?_ | refine blk_alloc ?_ _)); exact BK173.out)) : gb175 ≠ gb173)); clear BK173; clear HB; have BK173 := n0_; have HB := n1_; have BK175 := n2_; have GW175 := n3_; have GE175 := n4_; have NB173_175 := n5_; have NB175_173 := n6_; clear n0_ n1_ n2_ n3_ n4_ n5_ n6_; have n7_ := Aside0.mk ((by refine impl_IsMarked.mapB ?_ hb; exact MP.out : w8.ownsMap Try.prog 3 (plainElem Try.prog 3) w3.heap.size x18_1.toNat (impl_IsMarked.Ms l0_4 x18_1.toNat))); have n8_ := Aside0.mk (by have hl_ := MP.out.lt; rw [hg]; exact Nat.ne_of_gt hl_ : gb175 ≠ w3.heap.size); clear MP; have MP := n7_; have NM := n8_; clear n7_ n8_; clear hb hbox hg; have hnb9 := NB175_173.out; have hnc9 := NB173_175.out; have hcz10_0 : w8.cell? ⟨gb175, 0, none⟩ = some (.int .i64 0) := (blk_cell BK175.out 0).trans rfl; have hcz10_1 : w8.cell? ⟨gb175, 1, none⟩ = some (.int .i64 0) := (blk_cell BK175.out 1).trans rfl; have hfz10_0 := blk_frozen BK175.out 0; have hfz10_1 := blk_frozen BK175.out 1) | (at_mapUpdate; have hm2 : ((w8.setCell ⟨gb175, 0, none⟩ (.int .i64 (rd_T121 l0_4 x18_1).f0)).setCell ⟨gb175, 1, none⟩ (.int .i64 (rd_T121 l0_4 x18_1).f1)).ownsMap Try.prog 3 (plainElem Try.prog 3) w3.heap.size x18_1.toNat (impl_IsMarked.Ms l0_4 x18_1.toNat) := impl_IsMarked.mapS (impl_IsMarked.mapS MP.out NM.out _ _) NM.out _ _; refine wpList_mapUpdate_own _ rfl _ _ _ 124 rfl 3 3 impl_IsMarked.law3 Try.underlying124 _ w3.heap.size x18_1.toNat _ rfl hm2 hnm _ _ _ rfl rfl (Go.Maps.keyOf_int_mk Try.underlying3 hwf) _ [] (plainElem_int Try.underlying3 hw1) ?_; intro w1 hown1 hgrow1; have n0_ := Aside0.mk (impl_IsMarked.grB (by repeat (first | (with_reducible first | exact HB.out | apply below_alloc | apply pw_below_drewN | apply below_drew1 | refine below_set ?_ GE173.out | refine below_set ?_ GE175.out) | exact HB.out)) GM.out hgrow1); have n1_ := Aside0.mk (impl_IsMarked.grK (g := gb173) (o := .cells #[.int .i64 a0_0, .slice A0_1 l0_1.length c0_1, .slice A0_2 l0_2.length c0_2, .slice A0_3 l0_3.length c0_3, .slice (some ad174) l0_4.length c0_4, .slice A0_5 l0_5.length c0_5, .int .i64 a0_6] 67 (0, 0)) (by refine blk_far ?_ NB173_175.out _; refine blk_far ?_ NB173_175.out _; exact BK173.out) NK.out hgrow1); have n2_ := Aside0.mk hown1; clear hm2 HB BK173 MP hown1 hgrow1 hcz10_0 hcz10_1 hfz10_0 hfz10_1; have HB := n0_; have BK173 := n1_; have MP := n2_; clear n0_ n1_ n2_))
              go_roundg k1
              case measure => have := HK1.out; omega
              case rel =>
                have h0_ := X18.out.1
                have h1_ := of_eq_true q174
                have h2_ := QL.out
                have e_ : wrap64 (x18_1 + 1) = x18_1 + 1 := impl_IsMarked.w64 (by omega) (by omega)
                exact ⟨(wrap64 (x18_1 + 1)), (by first | rfl | (simp; done) | (simp [*]; done)), H', ⟨by have := HK1.out; omega⟩, BK173, HB, ⟨by rw [e_, impl_IsMarked.Ms_step l0_4 x18_1 h0_ h1_]; exact World.ownsMap.mono MP.out (by omega)⟩, ⟨by rw [e_]; omega⟩⟩
            · rw [if_neg c7] at H
              exact absurd H (by simp)
          · rw [if_neg c6] at H
            exact absurd H (by simp)
        · rw [if_neg c5] at H
          have c5b0 : decide (x18_1 < (l0_4.length : Int)) = false := decide_eq_false c5
          clear c5
          have H' := Aside0.mk H
          clear H
          have hcz11_0 : wr.cell? ⟨gb173, 0, none⟩ = some (.int .i64 a0_0) := (blk_cell BK173.out 0).trans rfl
          have hcz11_1 : wr.cell? ⟨gb173, 1, none⟩ = some (.slice A0_1 l0_1.length c0_1) := (blk_cell BK173.out 1).trans rfl
          have hcz11_2 : wr.cell? ⟨gb173, 2, none⟩ = some (.slice A0_2 l0_2.length c0_2) := (blk_cell BK173.out 2).trans rfl
          have hcz11_3 : wr.cell? ⟨gb173, 3, none⟩ = some (.slice A0_3 l0_3.length c0_3) := (blk_cell BK173.out 3).trans rfl
          have hcz11_4 : wr.cell? ⟨gb173, 4, none⟩ = some (.slice A0_4 l0_4.length c0_4) := (blk_cell BK173.out 4).trans rfl
          have hcz11_5 : wr.cell? ⟨gb173, 5, none⟩ = some (.slice A0_5 l0_5.length c0_5) := (blk_cell BK173.out 5).trans rfl
          have hcz11_6 : wr.cell? ⟨gb173, 6, none⟩ = some (.int .i64 a0_6) := (blk_cell BK173.out 6).trans rfl
          have hfz11_0 := blk_frozen BK173.out 0
          have hfz11_1 := blk_frozen BK173.out 1
          have hfz11_2 := blk_frozen BK173.out 2
          have hfz11_3 := blk_frozen BK173.out 3
          have hfz11_4 := blk_frozen BK173.out 4
          have hfz11_5 := blk_frozen BK173.out 5
          have hfz11_6 := blk_frozen BK173.out 6
          go_wp2
          have hx_ : x18_1.toNat = l0_4.length := by have := of_decide_eq_false c5b0; have := X18.out; omega
          have n0_ := Aside0.mk (hx_ ▸ MP.out)
          clear MP
          have MP := n0_
          clear n0_ hx_
          go_loopg [29] k1 (fun kq v29 w' => ∃ (x29_2 : Int), v29 = .int .i64 x29_2 ∧ Aside0 (impl_IsMarked.l1 kq l0_4 l0_5 (l0_5.length : Int) x29_2 = some r) ∧ Aside0 (kq ≤ k1) ∧ Aside0 (w'.heap[gb173]? = some (.cells #[.int .i64 a0_0, (.slice A0_1 l0_1.length c0_1), (.slice A0_2 l0_2.length c0_2), (.slice A0_3 l0_3.length c0_3), (.slice A0_4 l0_4.length c0_4), (.slice A0_5 l0_5.length c0_5), .int .i64 a0_6] 67 (0, 0))) ∧ Aside0 (Below w.heap.size w w') ∧ Aside0 (w'.ownsMap Try.prog 3 (plainElem Try.prog 3) w3.heap.size l0_4.length (impl_IsMarked.Ms l0_4 l0_4.length)))
          case atStart => exact ⟨(0), (by first | rfl | (simp; done) | (simp [*]; done)), H', ⟨Nat.le_refl _⟩, ⟨by (with_reducible repeat (first | refine blk_drewN ?_ _ | refine blk_drew ?_ | refine blk_alloc ?_ _)); exact BK173.out⟩, ⟨by repeat (first | (with_reducible first | exact HB.out | apply below_alloc | apply pw_below_drewN | apply below_drew1 | refine below_set ?_ GE173.out) | exact HB.out)⟩, ⟨MP.out⟩⟩
          case round =>
            clear H'
            try clear p1
            try clear q1
            try clear hx1
            try clear c2
            try clear c2b0
            try clear c2b1
            try clear p2
            try clear c3
            try clear c5
            try clear c5b0
            try clear c6
            try clear c6b0
            try clear p6
            try clear c7
            try clear c7b0
            try clear c9
            try clear hcz10_0
            try clear hcz10_1
            try clear hcz11_0
            try clear hcz11_1
            try clear hcz11_2
            try clear hcz11_3
            try clear hcz11_4
            try clear hcz11_5
            try clear hcz11_6
            try clear hcz4_0
            try clear hcz4_1
            try clear hcz4_2
            try clear hcz4_3
            try clear hcz4_4
            try clear hcz4_5
            try clear hcz4_6
            try clear hfz10_0
            try clear hfz10_1
            try clear hfz11_0
            try clear hfz11_1
            try clear hfz11_2
            try clear hfz11_3
            try clear hfz11_4
            try clear hfz11_5
            try clear hfz11_6
            try clear hfz4_0
            try clear hfz4_1
            try clear hfz4_2
            try clear hfz4_3
            try clear hfz4_4
            try clear hfz4_5
            try clear hfz4_6
            try clear hx174_0
            try clear hx174_1
            try clear p174
            try clear p2
            try clear q174
            obtain ⟨x29_2, rfl, HA, HK2, BK173, HB, MP⟩ := hrel
            cases gk with
            | zero => exact absurd HA.out (by simp [impl_IsMarked.l1])
            | succ k2 =>
              have H := HA.out
              clear HA
              simp only [impl_IsMarked.l1] at H
              by_cases c12 : x29_2 < (l0_5.length : Int)
              · rw [if_pos c12] at H
                have c12b0 : decide (x29_2 < (l0_5.length : Int)) = true := decide_eq_true c12
                clear c12
                by_cases c13 : 0 ≤ x29_2
                · rw [if_pos c13] at H
                  have c13b0 : decide (0 ≤ x29_2) = true := decide_eq_true c13
                  clear c13
                  by_cases c14 : x29_2 < (l0_5.length : Int)
                  · rw [if_pos c14] at H
                    have c14b0 : decide (x29_2 < (l0_5.length : Int)) = true := decide_eq_true c14
                    clear c14
                    replace H := Option.bind_eq_some_iff.mp H
                    obtain ⟨t177, A150, H⟩ := H
                    replace H : (impl_IsMarked.l2 k2 l0_4 l0_5 (l0_5.length : Int) x29_2 t177 (t177.length : Int) 0) = some r := H
                    have A15 := Aside0.mk A150
                    clear A150
                    have H' := Aside0.mk H
                    clear H
                    have p176 : 0 ≤ (x29_2 : Int) := of_decide_eq_true (by first | (with_reducible assumption) | assumption)
                    have q176 : x29_2 < (l0_5.length : Int) := of_decide_eq_true (by first | (with_reducible assumption) | assumption)
                    obtain ⟨ad176, e176, hx176_0⟩ := Kd.at_int HR0_5.out x29_2 p176 q176
                    cases e176
                    replace hx176_0 := (HB.out.cell (World.block_lt_of_cell? w _ hx176_0)).trans hx176_0
                    replace p176 := eq_true p176
                    replace q176 := eq_true q176
                    go_wp2_with (first | ((with_reducible refine gate_callee (f := 78) rfl ?_); refine goesL_ (some 34) rfl rfl Try.func78 (by kernel_rfl) rfl #[.int .i64 (rd l0_5 x29_2)] rfl (by (try simp only [List.map_toArray, List.map_cons, List.map_nil]); first | done | rfl | (simp only [List.length_drop, List.length_take]; rfl)) ?_; (with_reducible refine (impl_CapturesIn.calls k2 (rd l0_5 x29_2) t177 _ A15.out).mono ?_); rintro e w16 ⟨v178, rfl, ho0, hb⟩; refine ⟨_, rfl, ?_⟩; have n0_ := Aside0.mk (Kd.R_lower ho0 (below_size (by repeat (first | (with_reducible first | exact HB.out | apply below_alloc | apply pw_below_drewN | apply below_drew1 | refine below_set ?_ GE173.out) | exact HB.out)))); have n1_ := Aside0.mk (blk_below (g := gb173) (o := .cells #[.int .i64 a0_0, .slice A0_1 l0_1.length c0_1, .slice A0_2 l0_2.length c0_2, .slice A0_3 l0_3.length c0_3, .slice A0_4 l0_4.length c0_4, .slice (some ad176) l0_5.length c0_5, .int .i64 a0_6] 67 (0, 0)) (by (with_reducible repeat (first | refine blk_drewN ?_ _ | refine blk_drew ?_ | refine blk_alloc ?_ _)); exact BK173.out) hb); have n2_ := Aside0.mk (below_step (by repeat (first | (with_reducible first | exact HB.out | apply below_alloc | apply pw_below_drewN | apply below_drew1 | refine below_set ?_ GE173.out) | exact HB.out)) hb); have n3_ := Aside0.mk ((by refine impl_IsMarked.mapB ?_ hb; exact MP.out : w16.ownsMap Try.prog 3 (plainElem Try.prog 3) w3.heap.size l0_4.length (impl_IsMarked.Ms l0_4 l0_4.length))); clear MP; have MP := n3_; clear n3_; clear BK173; clear HB; have HO179 := n0_; have BK173 := n1_; have HB := n2_; clear n0_ n1_ n2_; (try clear hb); (try clear hb2); (try clear hk); (try clear hi); (try clear ho0); obtain ⟨Ao17, co17, eo17⟩ := Kd.R_slice HO179.out; subst eo17))
                    go_loopg [36] k2 (fun kq v36 w' => ∃ (x36_3 : Int), v36 = .int .i64 x36_3 ∧ Aside0 (impl_IsMarked.l2 kq l0_4 l0_5 (l0_5.length : Int) x29_2 t177 (t177.length : Int) x36_3 = some r) ∧ Aside0 (kq ≤ k2) ∧ Aside0 (Kd.R (Kd.int .i64) 3 w' w.heap.size (fun _ => True) (.slice Ao17 t177.length co17) t177) ∧ Aside0 (w'.heap[gb173]? = some (.cells #[.int .i64 a0_0, (.slice A0_1 l0_1.length c0_1), (.slice A0_2 l0_2.length c0_2), (.slice A0_3 l0_3.length c0_3), (.slice A0_4 l0_4.length c0_4), (.slice (some ad176) l0_5.length c0_5), .int .i64 a0_6] 67 (0, 0))) ∧ Aside0 (Below w.heap.size w w') ∧ Aside0 (w'.ownsMap Try.prog 3 (plainElem Try.prog 3) w3.heap.size l0_4.length (impl_IsMarked.Ms l0_4 l0_4.length)))
                    case atStart => exact ⟨(0), (by first | rfl | (simp; done) | (simp [*]; done)), H', ⟨Nat.le_refl _⟩, ⟨by (with_reducible repeat (first | apply Kd.R_alloc | apply Kd.R_drewN | apply Kd.R_drew)); exact HO179.out⟩, ⟨by (with_reducible repeat (first | refine blk_drewN ?_ _ | refine blk_drew ?_ | refine blk_alloc ?_ _)); exact BK173.out⟩, ⟨by repeat (first | (with_reducible first | exact HB.out | apply below_alloc | apply pw_below_drewN | apply below_drew1 | refine below_set ?_ GE173.out) | exact HB.out)⟩, ⟨MP.out⟩⟩
                    case round =>
                      clear H'
                      try clear c1
                      try clear p1
                      try clear q1
                      try clear hx1
                      try clear c2
                      try clear c2b0
                      try clear c2b1
                      try clear p2
                      try clear c3
                      try clear c5
                      try clear c5b0
                      try clear c6
                      try clear c6b0
                      try clear p6
                      try clear c7
                      try clear c7b0
                      try clear c9
                      try clear c12
                      try clear c12b0
                      try clear c13
                      try clear c13b0
                      try clear c14
                      try clear c14b0
                      try clear p17
                      try clear q17
                      try clear hx17
                      try clear hcz10_0
                      try clear hcz10_1
                      try clear hcz11_0
                      try clear hcz11_1
                      try clear hcz11_2
                      try clear hcz11_3
                      try clear hcz11_4
                      try clear hcz11_5
                      try clear hcz11_6
                      try clear hcz4_0
                      try clear hcz4_1
                      try clear hcz4_2
                      try clear hcz4_3
                      try clear hcz4_4
                      try clear hcz4_5
                      try clear hcz4_6
                      try clear hfz10_0
                      try clear hfz10_1
                      try clear hfz11_0
                      try clear hfz11_1
                      try clear hfz11_2
                      try clear hfz11_3
                      try clear hfz11_4
                      try clear hfz11_5
                      try clear hfz11_6
                      try clear hfz4_0
                      try clear hfz4_1
                      try clear hfz4_2
                      try clear hfz4_3
                      try clear hfz4_4
                      try clear hfz4_5
                      try clear hfz4_6
                      try clear hx174_0
                      try clear hx174_1
                      try clear hx176_0
                      try clear p1
                      try clear p174
                      try clear p176
                      try clear p2
                      try clear p6
                      try clear q1
                      try clear q174
                      try clear q176
                      obtain ⟨x36_3, rfl, HA, HK3, HO_34, BK173, HB, MP⟩ := hrel
                      cases gk with
                      | zero => exact absurd HA.out (by simp [impl_IsMarked.l2])
                      | succ k3 =>
                        have H := HA.out
                        clear HA
                        simp only [impl_IsMarked.l2] at H
                        by_cases c18 : x36_3 < (t177.length : Int)
                        · rw [if_pos c18] at H
                          have c18b0 : decide (x36_3 < (t177.length : Int)) = true := decide_eq_true c18
                          clear c18
                          by_cases c19 : 0 ≤ x36_3
                          · rw [if_pos c19] at H
                            have c19b0 : decide (0 ≤ x36_3) = true := decide_eq_true c19
                            clear c19
                            by_cases c20 : x36_3 < (t177.length : Int)
                            · rw [if_pos c20] at H
                              have c20b0 : decide (x36_3 < (t177.length : Int)) = true := decide_eq_true c20
                              clear c20
                              replace H := Option.bind_eq_some_iff.mp H
                              obtain ⟨t181, A210, H⟩ := H
                              replace H : (if t181 = 0 then (some false) else (impl_IsMarked.l2 k3 l0_4 l0_5 (l0_5.length : Int) x29_2 t177 (t177.length : Int) (wrap64 (x36_3 + 1)))) = some r := H
                              have A21 := Aside0.mk A210
                              clear A210
                              by_cases c22 : t181 = 0
                              · rw [if_pos c22] at H
                                have c22b0 : (t181 == 0) = true := beq_iff_eq.mpr c22
                                have c22b1 : (t181 != 0) = false := bne_eq_false_iff_eq.mpr c22
                                clear c22
                                obtain rfl := Option.some.inj H
                                have p180 : 0 ≤ (x36_3 : Int) := of_decide_eq_true (by first | (with_reducible assumption) | assumption)
                                have q180 : x36_3 < (t177.length : Int) := of_decide_eq_true (by first | (with_reducible assumption) | assumption)
                                obtain ⟨ad180, e180, hx180_0⟩ := Kd.at_int (Kd.R_reads' HO_34.out).2.2 x36_3 p180 q180
                                cases e180
                                replace p180 := eq_true p180
                                replace q180 := eq_true q180
                                have hwi := impl_IsMarked.chosen_wf A21.out
                                go_wp2_with (first | (at_lookup; refine wpList_lookup_own_int _ rfl _ _ 124 rfl 3 3 .i64 impl_IsMarked.law3 Try.underlying124 Try.underlying3 (impl_IsMarked.zero3 _) w3.heap.size _ _ rfl MP.out _ _ rfl (Go.Maps.keyOf_int_mk Try.underlying3 hwi) ?_; intro c hat hwc; obtain rfl : c = t181 := impl_IsMarked.chosen QW.out hat A21.out; clear hat hwc))
                                go_ret
                                exact ⟨by first | rfl | (simp [errW_none, errW_some] <;> rfl) | (simp [*, errW_none, errW_some] <;> rfl), by repeat (first | (with_reducible first | exact HB.out | apply below_alloc | apply pw_below_drewN | apply below_drew1 | refine below_set ?_ GE173.out) | exact HB.out)⟩
                              · rw [if_neg c22] at H
                                have c22b0 : (t181 == 0) = false := beq_eq_false_iff_ne.mpr c22
                                have c22b1 : (t181 != 0) = true := bne_iff_ne.mpr c22
                                have H' := Aside0.mk H
                                clear H
                                have p180 : 0 ≤ (x36_3 : Int) := of_decide_eq_true (by first | (with_reducible assumption) | assumption)
                                have q180 : x36_3 < (t177.length : Int) := of_decide_eq_true (by first | (with_reducible assumption) | assumption)
                                obtain ⟨ad180, e180, hx180_0⟩ := Kd.at_int (Kd.R_reads' HO_34.out).2.2 x36_3 p180 q180
                                cases e180
                                replace p180 := eq_true p180
                                replace q180 := eq_true q180
                                have hwi := impl_IsMarked.chosen_wf A21.out
                                go_wp2_with (first | (at_lookup; refine wpList_lookup_own_int _ rfl _ _ 124 rfl 3 3 .i64 impl_IsMarked.law3 Try.underlying124 Try.underlying3 (impl_IsMarked.zero3 _) w3.heap.size _ _ rfl MP.out _ _ rfl (Go.Maps.keyOf_int_mk Try.underlying3 hwi) ?_; intro c hat hwc; obtain rfl : c = t181 := impl_IsMarked.chosen QW.out hat A21.out; clear hat hwc))
                                go_roundg k3
                                case measure => have := HK1.out; have := HK2.out; have := HK3.out; omega
                                case rel => exact ⟨(wrap64 (x36_3 + 1)), (by first | rfl | (simp; done) | (simp [*]; done)), H', ⟨by have := HK1.out; have := HK2.out; have := HK3.out; omega⟩, ⟨by (with_reducible repeat (first | apply Kd.R_alloc | apply Kd.R_drewN | apply Kd.R_drew)); exact HO_34.out⟩, ⟨by (with_reducible repeat (first | refine blk_drewN ?_ _ | refine blk_drew ?_ | refine blk_alloc ?_ _)); exact BK173.out⟩, ⟨by repeat (first | (with_reducible first | exact HB.out | apply below_alloc | apply pw_below_drewN | apply below_drew1 | refine below_set ?_ GE173.out) | exact HB.out)⟩, ⟨MP.out⟩⟩
                            · rw [if_neg c20] at H
                              exact absurd H (by simp)
                          · rw [if_neg c19] at H
                            exact absurd H (by simp)
                        · rw [if_neg c18] at H
                          have c18b0 : decide (x36_3 < (t177.length : Int)) = false := decide_eq_false c18
                          clear c18
                          have H' := Aside0.mk H
                          clear H
                          go_wp2
                          go_roundg k3
                          case measure => have := HK1.out; have := HK2.out; have := HK3.out; omega
                          case rel => exact ⟨(wrap64 (x29_2 + 1)), (by first | rfl | (simp; done) | (simp [*]; done)), H', ⟨by have := HK1.out; have := HK2.out; have := HK3.out; omega⟩, ⟨by (with_reducible repeat (first | refine blk_drewN ?_ _ | refine blk_drew ?_ | refine blk_alloc ?_ _)); exact BK173.out⟩, ⟨by repeat (first | (with_reducible first | exact HB.out | apply below_alloc | apply pw_below_drewN | apply below_drew1 | refine below_set ?_ GE173.out) | exact HB.out)⟩, ⟨MP.out⟩⟩
                  · rw [if_neg c14] at H
                    exact absurd H (by simp)
                · rw [if_neg c13] at H
                  exact absurd H (by simp)
              · rw [if_neg c12] at H
                have c12b0 : decide (x29_2 < (l0_5.length : Int)) = false := decide_eq_false c12
                clear c12
                obtain rfl := Option.some.inj H
                go_wp2
                go_ret
                exact ⟨by first | rfl | (simp [errW_none, errW_some] <;> rfl) | (simp [*, errW_none, errW_some] <;> rfl), by repeat (first | (with_reducible first | exact HB.out | apply below_alloc | apply pw_below_drewN | apply below_drew1 | refine below_set ?_ GE173.out) | exact HB.out)⟩
  · rw [if_neg c2] at H
    have c2b0 : ((l0_5.length : Int) == 4) = false := beq_eq_false_iff_ne.mpr c2
    have c2b1 : ((l0_5.length : Int) != 4) = true := bne_iff_ne.mpr c2
    obtain rfl := Option.some.inj H
    go_enter Try.func36, Try.ntmps36
    go_wp2_with (first | ((with_reducible refine gate_dst (N := 1) rfl ?_); refine box_event ?hg (N := 1) ?hd (cs := #[.int .i64 a0_0, .slice A0_1 l0_1.length c0_1, .slice A0_2 l0_2.length c0_2, .slice A0_3 l0_3.length c0_3, .slice A0_4 l0_4.length c0_4, .slice A0_5 l0_5.length c0_5, .int .i64 a0_6]) (t := 67) ?hr ?_; (case hd => rfl); (case hg => rfl); (case hr => first | (go_simp; done) | (go_simp; rfl)); intro gb173 hg w23 hbox hb; have n0_ := Aside0.mk (below_step (by repeat (first | (with_reducible first | exact HB.out | apply below_alloc | apply pw_below_drewN | apply below_drew1) | exact HB.out)) hb); have n1_ := Aside0.mk (hbox); have n2_ := Aside0.mk ((by rw [hg]; exact (below_size (by repeat (first | (with_reducible first | exact HB.out | apply below_alloc | apply pw_below_drewN | apply below_drew1) | exact HB.out))) : w.heap.size ≤ gb173)); have n3_ := Aside0.mk ((by rw [hg]; exact (below_size (by repeat (first | (with_reducible first | exact HB.out | apply below_alloc | apply pw_below_drewN | apply below_drew1) | exact HB.out))) : w.heap.size ≤ gb173)); clear HB; have HB := n0_; have BK173 := n1_; have GW173 := n2_; have GE173 := n3_; clear n0_ n1_ n2_ n3_; clear hb hbox hg; have hcz24_0 : w23.cell? ⟨gb173, 0, none⟩ = some (.int .i64 a0_0) := (blk_cell BK173.out 0).trans rfl; have hcz24_1 : w23.cell? ⟨gb173, 1, none⟩ = some (.slice A0_1 l0_1.length c0_1) := (blk_cell BK173.out 1).trans rfl; have hcz24_2 : w23.cell? ⟨gb173, 2, none⟩ = some (.slice A0_2 l0_2.length c0_2) := (blk_cell BK173.out 2).trans rfl; have hcz24_3 : w23.cell? ⟨gb173, 3, none⟩ = some (.slice A0_3 l0_3.length c0_3) := (blk_cell BK173.out 3).trans rfl; have hcz24_4 : w23.cell? ⟨gb173, 4, none⟩ = some (.slice A0_4 l0_4.length c0_4) := (blk_cell BK173.out 4).trans rfl; have hcz24_5 : w23.cell? ⟨gb173, 5, none⟩ = some (.slice A0_5 l0_5.length c0_5) := (blk_cell BK173.out 5).trans rfl; have hcz24_6 : w23.cell? ⟨gb173, 6, none⟩ = some (.int .i64 a0_6) := (blk_cell BK173.out 6).trans rfl; have hfz24_0 := blk_frozen BK173.out 0; have hfz24_1 := blk_frozen BK173.out 1; have hfz24_2 := blk_frozen BK173.out 2; have hfz24_3 := blk_frozen BK173.out 3; have hfz24_4 := blk_frozen BK173.out 4; have hfz24_5 := blk_frozen BK173.out 5; have hfz24_6 := blk_frozen BK173.out 6))
    go_ret
    exact ⟨by first | rfl | (simp [errW_none, errW_some] <;> rfl) | (simp [*, errW_none, errW_some] <;> rfl), by repeat (first | (with_reducible first | exact HB.out | apply below_alloc | apply pw_below_drewN | apply below_drew1 | refine below_set ?_ GE173.out) | exact HB.out)⟩

end Go.Proofs.Ytdpkidjddlnafaa.MFnExactIsMarked
