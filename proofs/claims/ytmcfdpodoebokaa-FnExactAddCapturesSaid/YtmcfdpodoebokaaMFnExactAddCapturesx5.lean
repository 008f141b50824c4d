-- Written by a program of this session out of the translation's own print. Not trusted: Lean checks it.
import Derived.Test.YtmcfdpodoebokaaShr2
import Derived.Test.YtmcfdpodoebokaaMFnExactAddCapturesx0
import Derived.Test.YtmcfdpodoebokaaMFnExactAddCapturesx4
import Derived.Test.YtmcfdpodoebokaaMFnExactAddCapturesx1
namespace Go.Proofs.Ytmcfdpodoebokaa.MFnExactAddCaptures
open Go.RowKit Go.Proofs.YtmcfdpodoebokaaW.PrintWords Go.Proofs.YtmcfdpodoebokaaW.PrintLast Go.Proofs.YtmcfdpodoebokaaW.PrintMore
attribute [local go_sem] max2_int min2_int max_two min_two max_three min_three max_four min_four   -- for this text's walks alone
set_option linter.unusedVariables false
set_option linter.unusedSimpArgs false

/-! ### impl_copyCaptures: function 16 -/
def impl_copyCaptures.l0 : Nat → List (S45) → List (S45) → Int → Int → Option ((List (S45)))
  | 0, _, _, _, _ => none
  | k + 1, x3, x6, x7, x8 => if x8 < x7 then (if 0 ≤ x8 then (if x8 < (x6.length : Int) then ((impl_copyResource.f ((rd_T45 x6 x8).f2.f0) ((rd_T45 x6 x8).f2.f1) ((rd_T45 x6 x8).f2.f2.f0) ((rd_T45 x6 x8).f2.f2.f1) ((rd_T45 x6 x8).f2.f2.f2)).bind fun bt234 => (if x3.length < 1599289640401 then (impl_copyCaptures.l0 k (x3 ++ [(⟨(⟨(rd_T45 x6 x8).f0.f0, (rd_T45 x6 x8).f0.f1, (rd_T45 x6 x8).f0.f2⟩ : S41), (rd_T45 x6 x8).f1, (⟨bt234.1, bt234.2.1, (⟨bt234.2.2.1, bt234.2.2.2.1, bt234.2.2.2.2⟩ : S41)⟩ : S43)⟩ : S45)]) x6 x7 (wrap64 (x8 + 1))) else (none))) else (none)) else (none)) else (some x3)
def impl_copyCaptures.f (k : Nat) (l0 : List (S45)) : Option ((List (S45))) := impl_copyCaptures.l0 k ([] : List (S45)) l0 (l0.length : Int) 0
def impl_copyCaptures.T5 : Bool × List (List Nat × List Nat) := (true, [([], []), ([], []), ([1], [1]), ([], []), ([3], [3]), ([], []), ([5], [5]), ([6], [6]), ([2, 4, 7], [2, 4, 7]), ([8], [8]), ([0, 9, 7], [0, 9]), ([10, 10, 0, 1, 2, 3, 4, 5, 6, 7, 8, 9, 10], [0, 10])])
def impl_copyCaptures.B5 : List Nat := [0, 0, 2, 0, 8, 0, 32, 96, 254, 510, 1023, 2047]
theorem impl_copyCaptures.tab5 : rtab .any (opsOf Try.f16 5) = impl_copyCaptures.T5 := by kernel_rfl
theorem impl_copyCaptures.bits5 : waitsOk impl_copyCaptures.T5.2 impl_copyCaptures.B5 = true := by kernel_rfl
set_option maxHeartbeats 8000000 in
set_option maxRecDepth 100000 in
theorem impl_copyCaptures.calls (k : Nat) (A0 : Option Addr) (c0 : Nat) (l0 : List (S45)) (r : List (S45)) (w : World) (hr0 : Kd.C k45 w A0 l0.length l0) (hc0 : l0.length ≤ c0) (h : impl_copyCaptures.f k l0 = some r) :
  Calls Try.prog 16 #[.slice A0 l0.length c0] w fun e w' => ∃ v0_ : Value, e = .returned (v0_) ∧ Kd.S k45 45 w' w.heap.size (fun _ => True) v0_ r ∧ Below w.heap.size w w' := by
 have hu45 := Try.underlying45
 have hu41 := Try.underlying41
 have hu43 := Try.underlying43
 have HR0 := Aside0.mk hr0
 have HC0 := Aside0.mk hc0
 clear hr0 hc0
 have HB := ak (Below.refl w.heap.size w)
 have H : (impl_copyCaptures.l0 k ([] : List (S45)) l0 (l0.length : Int) 0) = some r := h
 clear h
 have H' := Aside0.mk H
 clear H
 go_enter Try.func16, Try.ntmps16
 go_wp2
 go_loopg [3, 8] k (fun kq v3 v8 w' => ∃ (x3_1 : List (S45)) (x8_1 : Int), v8 = .int .i64 x8_1 ∧ Aside0 (impl_copyCaptures.l0 kq x3_1 l0 (l0.length : Int) x8_1 = some r) ∧ Aside0 (kq ≤ k) ∧ Aside0 (Kd.S k45 45 w' w.heap.size (fun _ => True) v3 x3_1) ∧ Aside0 (Below w.heap.size w w'))
 case atStart => exact ⟨(([] : List (S45))), (0), (by first | rfl | (simp; done) | (simp [*]; done)), H', ⟨Nat.le_refl _⟩, ⟨by first | exact Kd.S_nil _ _ _ _ _ | exact Kd.N_nil _ _ _ _ _ | exact Kd.V_nil _ _ _ _ _ | exact Kd.Q_nil _ _ _ _ _ | exact Kd.R_nil _ _ _ _ _⟩, ⟨PB⟩⟩
 case round =>
  clear H'
  try clear c1
  obtain ⟨x3_1, x8_1, rfl, HA, HK1, HO_3, HB⟩ := hrel
  cases gk with
  | zero => exact absurd HA.out (by simp [impl_copyCaptures.l0])
  | succ k1 =>
   have H := HA.out
   clear HA
   simp only [impl_copyCaptures.l0] at H
   by_cases c2 : x8_1 < (l0.length : Int)
   ·rw [if_pos c2] at H
    have c2b0 : decide (x8_1 < (l0.length : Int)) = true := decide_eq_true c2
    clear c2
    by_cases c3 : 0 ≤ x8_1
    ·rw [if_pos c3] at H
     have c3b0 : decide (0 ≤ x8_1) = true := decide_eq_true c3
     clear c3
     by_cases c4 : x8_1 < (l0.length : Int)
     ·rw [if_pos c4] at H
      have c4b0 : decide (x8_1 < (l0.length : Int)) = true := decide_eq_true c4
      clear c4
      replace H := Option.bind_eq_some_iff.mp H
      obtain ⟨⟨t234, t235, t238, t239, t240⟩, A50, H⟩ := H
      replace H : (if x3_1.length < 1599289640401 then (impl_copyCaptures.l0 k1 (x3_1 ++ [(⟨(⟨(rd_T45 l0 x8_1).f0.f0, (rd_T45 l0 x8_1).f0.f1, (rd_T45 l0 x8_1).f0.f2⟩ : S41), (rd_T45 l0 x8_1).f1, (⟨t234, t235, (⟨t238, t239, t240⟩ : S41)⟩ : S43)⟩ : S45)]) l0 (l0.length : Int) (wrap64 (x8_1 + 1))) else (none)) = some r := H
      have A5 := Aside0.mk A50
      clear A50
      by_cases c6 : x3_1.length < 1599289640401
      ·rw [if_pos c6] at H
       have LMc6 := Aside0.mk c6
       clear c6
       obtain ⟨y241, hy241⟩ : ∃ y_ : List (S45), y_ = (x3_1 ++ [(⟨(⟨(rd_T45 l0 x8_1).f0.f0, (rd_T45 l0 x8_1).f0.f1, (rd_T45 l0 x8_1).f0.f2⟩ : S41), (rd_T45 l0 x8_1).f1, (⟨t234, t235, (⟨t238, t239, t240⟩ : S41)⟩ : S43)⟩ : S45)]) := ⟨_, rfl⟩
       replace H : (impl_copyCaptures.l0 k1 y241 l0 (l0.length : Int) (wrap64 (x8_1 + 1))) = some r := by first | (rw [hy241]; with_reducible exact H) | (have H2_ := (Option.bind_some _ _).symm.trans H; rw [hy241]; with_reducible exact H2_) | (have H2_ := (Option.bind_some _ _).symm.trans H; with_reducible exact H2_) | with_reducible exact H | (rw [hy241]; exact H) | exact H
       have Ny241 := Aside0.mk hy241
       clear hy241
       have H' := Aside0.mk H
       clear H
       have p232 : 0 ≤ (x8_1 : Int) := of_decide_eq_true (by first | (with_reducible assumption) | assumption)
       have q232 : x8_1 < (l0.length : Int) := of_decide_eq_true (by first | (with_reducible assumption) | assumption)
       obtain ⟨ad232, A232_5, c232_5, e232, hx232_0, hx232_1, hx232_2, hx232_3, hx232_4, hx232_5, hx232_6, hx232_7, hx232_8, hl232_5, hi232_5⟩ := at_T45 HR0.out x8_1 p232 q232
       cases e232
       replace hx232_0 := hx_ HB hx232_0
       replace hx232_1 := hx_ HB hx232_1
       replace hx232_2 := hx_ HB hx232_2
       replace hx232_3 := hx_ HB hx232_3
       replace hx232_4 := hx_ HB hx232_4
       replace hx232_5 := hx_ HB hx232_5
       replace hx232_6 := hx_ HB hx232_6
       replace hx232_7 := hx_ HB hx232_7
       replace hx232_8 := hx_ HB hx232_8
       have HR232_5 := Aside0.mk hi232_5
       have HC232_5 := Aside0.mk hl232_5
       clear hi232_5 hl232_5
       replace p232 := eq_true p232
       replace q232 := eq_true q232
       try go_wp2_with (first | ((with_reducible refine gate_dst (N := 5) rfl ?_); refine bx_ (N := 5) #[.int .i64 0, .int .i64 0, .int .i64 0, .int .i64 0, .int .i64 0, .slice none 0 0, .int .i64 0, .int .i64 0, .int .i64 0] 45 ?_; intro gb233 hg w7 hbox hb; replace HO_3 := ak (Kd.S_below (Kd.S_elderB (PS HO_3) gb233 (Nat.le_of_eq hg.symm)) hb); have BK233 := ak hbox; have GW233 := gy hg HB; have GE233 := gy hg HB; replace HB := bs HB hb; clear hb hbox hg; obtain ⟨_, _, _, _, _, _, _, _, _, _, _, _, _, _, _, _, _, _⟩ := bc9 BK233))
       generalize hW_ : (((((((((w7.setCell ⟨gb233, 0, none⟩ (.int .i64 ((rd_T45 l0 x8_1).f0.f0))).setCell ⟨gb233, 1, none⟩ (.int .i64 ((rd_T45 l0 x8_1).f0.f1))).setCell ⟨gb233, 2, none⟩ (.int .i64 ((rd_T45 l0 x8_1).f0.f2))).setCell ⟨gb233, 3, none⟩ (.int .i64 ((rd_T45 l0 x8_1).f1))).setCell ⟨gb233, 4, none⟩ (.int .i64 ((rd_T45 l0 x8_1).f2.f0))).setCell ⟨gb233, 5, none⟩ (.slice A232_5 ((rd_T45 l0 x8_1).f2.f1).length c232_5)).setCell ⟨gb233, 6, none⟩ (.int .i64 ((rd_T45 l0 x8_1).f2.f2.f0))).setCell ⟨gb233, 7, none⟩ (.int .i64 ((rd_T45 l0 x8_1).f2.f2.f1))).setCell ⟨gb233, 8, none⟩ (.int .i64 ((rd_T45 l0 x8_1).f2.f2.f2))) = w9
       replace HO_3 : Aside0 (Kd.S k45 45 w9 w.heap.size (fun k_ => k_ ≠ gb233) u3 x3_1) := ⟨by rw [← hW_]; exact SX (Kd.S_mono HO_3.out (fun k_ hk => (⟨hk, hk.2⟩ : _ ∧ k_ ≠ gb233))) (fun _ hk => by first | exact hk.1.2 | simp_all)⟩
       replace BK233 : Aside0 (w9.heap[gb233]? = some (.cells #[.int .i64 ((rd_T45 l0 x8_1).f0.f0), .int .i64 ((rd_T45 l0 x8_1).f0.f1), .int .i64 ((rd_T45 l0 x8_1).f0.f2), .int .i64 ((rd_T45 l0 x8_1).f1), .int .i64 ((rd_T45 l0 x8_1).f2.f0), .slice A232_5 ((rd_T45 l0 x8_1).f2.f1).length c232_5, .int .i64 ((rd_T45 l0 x8_1).f2.f2.f0), .int .i64 ((rd_T45 l0 x8_1).f2.f2.f1), .int .i64 ((rd_T45 l0 x8_1).f2.f2.f2)] 45 (0, 0))) := BP hW_ BK233
       replace HB := BL hW_ HB
       (try clear hW_)
       replace HO_3 := ak (Kd.S_drew HO_3.out)
       replace BK233 := ak (blk_drew BK233.out)
       replace HB := ak (below_drew1 HB.out)
       refine start_ (n := 12) (S := fun w' => w'.cell? ⟨gb233, 0, none⟩ = some (.int .i64 ((rd_T45 l0 x8_1).f0.f0)) ∧ w'.cell? ⟨gb233, 1, none⟩ = some (.int .i64 ((rd_T45 l0 x8_1).f0.f1)) ∧ w'.cell? ⟨gb233, 2, none⟩ = some (.int .i64 ((rd_T45 l0 x8_1).f0.f2)) ∧ w'.cell? ⟨gb233, 3, none⟩ = some (.int .i64 ((rd_T45 l0 x8_1).f1)) ∧ w'.cell? ⟨gb233, 4, none⟩ = some (.int .i64 ((rd_T45 l0 x8_1).f2.f0)) ∧ w'.cell? ⟨gb233, 5, none⟩ = some (.slice A232_5 ((rd_T45 l0 x8_1).f2.f1).length c232_5) ∧ w'.cell? ⟨gb233, 6, none⟩ = some (.int .i64 ((rd_T45 l0 x8_1).f2.f2.f0)) ∧ w'.cell? ⟨gb233, 7, none⟩ = some (.int .i64 ((rd_T45 l0 x8_1).f2.f2.f1)) ∧ w'.cell? ⟨gb233, 8, none⟩ = some (.int .i64 ((rd_T45 l0 x8_1).f2.f2.f2))) (ds := []) #[false, false, false, false, false, false, false, false, false, false, false, false] KR rfl rfl ⟨(blk_cell BK233.out 0).trans rfl, (blk_cell BK233.out 1).trans rfl, (blk_cell BK233.out 2).trans rfl, (blk_cell BK233.out 3).trans rfl, (blk_cell BK233.out 4).trans rfl, (blk_cell BK233.out 5).trans rfl, (blk_cell BK233.out 6).trans rfl, (blk_cell BK233.out 7).trans rfl, (blk_cell BK233.out 8).trans rfl⟩ (fun hHeld => ?_); refine with_tabW impl_copyCaptures.tab5 impl_copyCaptures.bits5 (fun HT_ HW_ => ?_)
       generalize w9.drew = w10 at HO_3 BK233 HB hHeld ⊢
       refine pu_ (i := 0) (N := some 12) #[true, false, false, false, false, false, false, false, false, false, false, false] HT_ ?_
       refine pu_ (i := 1) (N := some 13) #[true, true, false, false, false, false, false, false, false, false, false, false] HT_ ?_
       refine pu_ (i := 3) (N := some 15) #[true, true, false, true, false, false, false, false, false, false, false, false] HT_ ?_
       refine pu_ (i := 5) (N := some 17) #[true, true, false, true, false, true, false, false, false, false, false, false] HT_ ?_
       refine tk_ (i := 2) (N := some 14) #[true, true, true, true, false, true, false, false, false, false, false, false] rfl rfl HT_ HW_ hHeld ?_
       refine take_ (i := 4) (N := some 16) (v := ?_) (a' := ?_) #[true, true, true, true, true, true, false, false, false, false, false, false] rfl rfl (take_ofW HT_.out HW_.out KR) (fun _ _ _ h => h) (Or.inl ⟨by rfl, ?_⟩) hHeld ?_ ?_
       rotate_left
       ·rintro w' ⟨s0, s1, s2, s3, s4, s5, s6, s7, s8⟩
        go_simp
        with_reducible rfl
       rotate_left
       ·simp only [Act.put, List.setIfInBounds_toArray, List.set_cons_zero, List.set_cons_succ, i64_w, i32_w]
        rfl
       refine tk_ (i := 6) (N := some 18) #[true, true, true, true, true, true, true, false, false, false, false, false] rfl rfl HT_ HW_ hHeld ?_
       refine one_ (i := 7) (N := some 19) #[true, true, true, true, true, true, true, true, false, false, false, false] rfl rfl (one_of HT_.out KR) (by decide) (fun K hK => ?_)
       refine goes_ Try.func18 KR rfl #[.agg #[.int .i64 ((rd_T45 l0 x8_1).f2.f0), .slice A232_5 ((rd_T45 l0 x8_1).f2.f1).length c232_5, .int .i64 ((rd_T45 l0 x8_1).f2.f2.f0), .int .i64 ((rd_T45 l0 x8_1).f2.f2.f1), .int .i64 ((rd_T45 l0 x8_1).f2.f2.f2)]] (by rfl) rfl rfl AR ?_
       with_reducible refine (impl_copyResource.calls ((rd_T45 l0 x8_1).f2.f0) _ _ ((rd_T45 l0 x8_1).f2.f1) ((rd_T45 l0 x8_1).f2.f2.f0) ((rd_T45 l0 x8_1).f2.f2.f1) ((rd_T45 l0 x8_1).f2.f2.f2) t234 t235 t238 t239 t240 _ ?side1 ?side2 A5.out).mono ?_
       (case side1 => exact CR (Kd.C_below HR232_5.out HB.out))
       (case side2 => exact HC232_5.out)
       rintro e w11 ⟨v236, rfl, ho0, hb⟩
       refine ⟨_, rfl, ?_⟩
       replace HO_3 := ak (Kd.S_elder' (PS HO_3) (Kd.R_base ho0) hb)
       have HO237 := Rn0 ho0 HB
       replace BK233 := kf BK233 hb
       replace HB := bs HB hb
       (try clear hb)
       (try clear hb2)
       (try clear hk)
       (try clear hi)
       (try clear ho0)
       obtain ⟨Ao12, co12, eo12⟩ := Kd.R_slice HO237.out
       (first | subst eo12 | (injection eo12 with f1_ f2_ f3_; have f4_ := f1_.symm; have f5_ := f3_.symm; clear f1_ f2_ f3_; subst f4_; subst f5_))
       refine hK.out _ _ ⟨(blk_cell BK233.out 0).trans rfl, (blk_cell BK233.out 1).trans rfl, (blk_cell BK233.out 2).trans rfl, (blk_cell BK233.out 3).trans rfl, (blk_cell BK233.out 4).trans rfl, (blk_cell BK233.out 5).trans rfl, (blk_cell BK233.out 6).trans rfl, (blk_cell BK233.out 7).trans rfl, (blk_cell BK233.out 8).trans rfl⟩ (fun hHeld => ?_)
       clear hK K
       refine norm_ (a' := ?_) ?_ ?_
       rotate_left
       ·show Act.put _ (some 19) _ = _
        simp only [Act.put, List.setIfInBounds_toArray, List.set_cons_zero, List.set_cons_succ, i64_w, i32_w]
        rfl
       refine pu_ (i := 8) (N := some 20) #[true, true, true, true, true, true, true, true, true, false, false, false] HT_ ?_
       refine one_ (i := 9) (N := some 21) #[true, true, true, true, true, true, true, true, true, true, false, false] rfl rfl (one_of HT_.out KR) (by decide) (fun K hK => ?_)
       refine value_ (w1 := ?_) (v := ?_) (by rfl) rfl ?_ ?_
       rotate_left 2
       ·go_simp
        constructor
        ·rfl
        ·rfl
       refine hK.out _ _ ⟨(blk_cell (blk_alloc BK233.out _) 0).trans rfl, (blk_cell (blk_alloc BK233.out _) 1).trans rfl, (blk_cell (blk_alloc BK233.out _) 2).trans rfl, (blk_cell (blk_alloc BK233.out _) 3).trans rfl, (blk_cell (blk_alloc BK233.out _) 4).trans rfl, (blk_cell (blk_alloc BK233.out _) 5).trans rfl, (blk_cell (blk_alloc BK233.out _) 6).trans rfl, (blk_cell (blk_alloc BK233.out _) 7).trans rfl, (blk_cell (blk_alloc BK233.out _) 8).trans rfl⟩ (fun hHeld => ?_)
       clear hK K
       refine norm_ (a' := ?_) ?_ ?_
       rotate_left
       ·show Act.put _ (some 21) _ = _
        simp only [Act.put, List.setIfInBounds_toArray, List.set_cons_zero, List.set_cons_succ, i64_w, i32_w]
        rfl
       refine one_ (i := 10) (N := some 22) #[true, true, true, true, true, true, true, true, true, true, true, false] rfl rfl (one_of HT_.out KR) (by decide) (fun K hK => ?_)
       refine Kd.S_append_step k45 (w0 := w) w.heap.size (by rfl) (.tmp 12) (.tmp 21) 24 45 (.agg #[(.int .i64 0), (.int .i64 0), (.int .i64 0), (.int .i64 0), (.int .i64 0), (.slice none 0 0), (.int .i64 0), (.int .i64 0), (.int .i64 0)]) 88 rfl Try.underlying24 info45 rfl (by decide) (by omega) u3 x3_1 (⟨(⟨(rd_T45 l0 x8_1).f0.f0, (rd_T45 l0 x8_1).f0.f1, (rd_T45 l0 x8_1).f0.f2⟩ : S41), (rd_T45 l0 x8_1).f1, (⟨t234, t235, (⟨t238, t239, t240⟩ : S41)⟩ : S43)⟩ : S45) [.int .i64 ((rd_T45 l0 x8_1).f0.f0), .int .i64 ((rd_T45 l0 x8_1).f0.f1), .int .i64 ((rd_T45 l0 x8_1).f0.f2), .int .i64 ((rd_T45 l0 x8_1).f1), .int .i64 t234, .slice Ao12 t235.length co12, .int .i64 t238, .int .i64 t239, .int .i64 t240] (fun k_ => k_ ≠ gb233) (fun k_ => some k_ = (.slice Ao12 t235.length co12 : Value).ownBlock) rfl rfl ?aP (fun k_ hk_ => ((Kd.R_mono (ok' := fun k_ => ((fun k_ => k_ ≠ gb233)) k_ ∧ some k_ ≠ (u3 : Value).ownBlock) (Kd.R_types (Kd.R_apart' (HO237.out) (Kd.S_typed HO_3.out) (by decide)) BK233.out (by decide)) (fun k_ hk => by first | exact ⟨hk.2, hk.1.2⟩ | simp_all))).1 k_ hk_.symm) ?aF ?aO ?aB ?aS ?aL ?_
       (case aP => exact k45_mkM _ _ _ (⟨(⟨(rd_T45 l0 x8_1).f0.f0, (rd_T45 l0 x8_1).f0.f1, (rd_T45 l0 x8_1).f0.f2⟩ : S41), (rd_T45 l0 x8_1).f1, (⟨t234, t235, (⟨t238, t239, t240⟩ : S41)⟩ : S43)⟩ : S45) (Kd.R_mono (Kd.R_tight rfl (Kd.R_mono (ok' := fun k_ => ((fun k_ => k_ ≠ gb233)) k_ ∧ some k_ ≠ (u3 : Value).ownBlock) (Kd.R_types (Kd.R_apart' (HO237.out) (Kd.S_typed HO_3.out) (by decide)) BK233.out (by decide)) (fun k_ hk => by first | exact ⟨hk.2, hk.1.2⟩ | simp_all))) (fun _ h_ => h_)))
       (case aB => exact PB)
       (case aF => exact (fun k_ hk => Kd.freshB (g := gb233) (o := .cells #[.int .i64 ((rd_T45 l0 x8_1).f0.f0), .int .i64 ((rd_T45 l0 x8_1).f0.f1), .int .i64 ((rd_T45 l0 x8_1).f0.f2), .int .i64 ((rd_T45 l0 x8_1).f1), .int .i64 ((rd_T45 l0 x8_1).f2.f0), .slice A232_5 ((rd_T45 l0 x8_1).f2.f1).length c232_5, .int .i64 ((rd_T45 l0 x8_1).f2.f2.f0), .int .i64 ((rd_T45 l0 x8_1).f2.f2.f1), .int .i64 ((rd_T45 l0 x8_1).f2.f2.f2)] 45 (0, 0)) (PK BK233) k_ hk))
       (case aO => exact (SX HO_3.out (fun k_ hk => ⟨hk.1, fun e_ => hk.2 e_⟩)))
       (case aS => exact (below_size PB))
       (case aL => have := LMc6.out; omega)
       intro v242 w13 ho hb hg hat
       rw [← Ny241.out] at ho
       replace BK233 := ak (blk_grown (g := gb233) (o := .cells #[.int .i64 ((rd_T45 l0 x8_1).f0.f0), .int .i64 ((rd_T45 l0 x8_1).f0.f1), .int .i64 ((rd_T45 l0 x8_1).f0.f2), .int .i64 ((rd_T45 l0 x8_1).f1), .int .i64 ((rd_T45 l0 x8_1).f2.f0), .slice A232_5 ((rd_T45 l0 x8_1).f2.f1).length c232_5, .int .i64 ((rd_T45 l0 x8_1).f2.f2.f0), .int .i64 ((rd_T45 l0 x8_1).f2.f2.f1), .int .i64 ((rd_T45 l0 x8_1).f2.f2.f2)] 45 (0, 0)) (PK BK233) hg (Kd.S_away HO_3.out (fun _ hk => by first | exact hk.1 | simp_all)))
       replace HB := ak hb
       have HO243 := ak (ho)
       clear HO_3 HO237
       clear ho hb hg hat
       refine hK.out _ _ ⟨(blk_cell BK233.out 0).trans rfl, (blk_cell BK233.out 1).trans rfl, (blk_cell BK233.out 2).trans rfl, (blk_cell BK233.out 3).trans rfl, (blk_cell BK233.out 4).trans rfl, (blk_cell BK233.out 5).trans rfl, (blk_cell BK233.out 6).trans rfl, (blk_cell BK233.out 7).trans rfl, (blk_cell BK233.out 8).trans rfl⟩ (fun hHeld => ?_)
       clear hK K
       refine norm_ (a' := ?_) ?_ ?_
       rotate_left
       ·show Act.put _ (some 22) _ = _
        simp only [Act.put, List.setIfInBounds_toArray, List.set_cons_zero, List.set_cons_succ, i64_w, i32_w]
        rfl
       refine pu_ (i := 11) (N := some 3) #[true, true, true, true, true, true, true, true, true, true, true, true] HT_ ?_
       refine done_ (done_of HT_.out KR) ?_
       try go_wp2
       go_roundg k1
       case measure => have := HK1.out; omega
       case rel => exact ⟨(y241), (wrap64 (x8_1 + 1)), (by first | rfl | (simp; done) | (simp [*]; done)), H', ⟨by have := HK1.out; omega⟩, ⟨SX HO243.out (fun _ hk => trivial)⟩, ⟨PB⟩⟩
      ·rw [if_neg c6] at H
       exact absurd H (by simp)
     ·rw [if_neg c4] at H
      exact absurd H (by simp)
    ·rw [if_neg c3] at H
     exact absurd H (by simp)
   ·rw [if_neg c2] at H
    have c2b0 : decide (x8_1 < (l0.length : Int)) = false := decide_eq_false c2
    clear c2
    obtain rfl := Option.some.inj H
    go_wp2
    go_ret
    exact ⟨_, RT, by (with_reducible repeat (first | apply Kd.S_alloc | apply Kd.S_drewN | apply Kd.S_drew)); exact HO_3.out, PB⟩

/-! ### slices_Equal_int_int: function 49 -/
def slices_Equal_int_int.l0 : Nat → List Int → List Int → Int → Int → Option (Bool)
  | 0, _, _, _, _ => none
  | k + 1, x0, x1, x12, x13 => if x13 < x12 then (if 0 ≤ x13 then (if x13 < (x0.length : Int) then (if x13 < (x1.length : Int) then (if (rd x0 x13) = (rd x1 x13) then (slices_Equal_int_int.l0 k x0 x1 x12 (wrap64 (x13 + 1))) else (some false)) else (none)) else (none)) else (none)) else (some true)
def slices_Equal_int_int.f (k : Nat) (l0 : List Int) (l1 : List Int) : Option (Bool) := if (l0.length : Int) = (l1.length : Int) then (slices_Equal_int_int.l0 k l0 l1 (l0.length : Int) 0) else (some false)
set_option maxHeartbeats 8000000 in
set_option maxRecDepth 100000 in
theorem slices_Equal_int_int.calls (k : Nat) (A0 : Option Addr) (c0 : Nat) (l0 : List Int) (A1 : Option Addr) (c1 : Nat) (l1 : List Int) (r : Bool) (w : World) (hr0 : Kd.C (Kd.int .i64) w A0 l0.length l0) (hc0 : l0.length ≤ c0) (hr1 : Kd.C (Kd.int .i64) w A1 l1.length l1) (hc1 : l1.length ≤ c1) (h : slices_Equal_int_int.f k l0 l1 = some r) :
  Calls Try.prog 49 #[.slice A0 l0.length c0, .slice A1 l1.length c1] w fun e w' => e = .returned (.bool r) ∧ Drawn0 w w' := by
 have HR0 := Aside0.mk hr0
 have HC0 := Aside0.mk hc0
 clear hr0 hc0
 have HR1 := Aside0.mk hr1
 have HC1 := Aside0.mk hc1
 clear hr1 hc1
 have H : (if (l0.length : Int) = (l1.length : Int) then (slices_Equal_int_int.l0 k l0 l1 (l0.length : Int) 0) else (some false)) = some r := h
 clear h
 by_cases c3 : (l0.length : Int) = (l1.length : Int)
 ·rw [if_pos c3] at H
  have c3b0 : ((l0.length : Int) == (l1.length : Int)) = true := beq_iff_eq.mpr c3
  have c3b1 : ((l0.length : Int) != (l1.length : Int)) = false := bne_eq_false_iff_eq.mpr c3
  have c3b2 : (l0.length == l1.length) = true := by first | simpa using c3 | (simp at c3 ⊢; omega)
  clear c3
  have H' := Aside0.mk H
  clear H
  go_enter Try.func49, Try.ntmps49
  go_wp2
  repeat (go_quiet (fail); try go_wp2)
  go_loopg [13] k (fun kq v13 w' => ∃ (x13_1 : Int), v13 = .int .i64 x13_1 ∧ Aside0 (slices_Equal_int_int.l0 kq l0 l1 (l0.length : Int) x13_1 = some r) ∧ Aside0 (kq ≤ k) ∧ Drawn0 w w')
  case atStart => exact ⟨(0), (by first | rfl | (simp; done) | (simp [*]; done)), H', ⟨Nat.le_refl _⟩, by repeat (first | exact Drawn0.refl _ | apply Drawn0.step)⟩
  case round =>
   clear H'
   (try clear c1); (try clear p2); (try clear c3); (try clear c3b0); (try clear c3b1); (try clear c3b2)
   obtain ⟨x13_1, rfl, HA, HK1, ⟨m1, rfl⟩⟩ := hrel
   cases gk with
   | zero => exact absurd HA.out (by simp [slices_Equal_int_int.l0])
   | succ k1 =>
    have H := HA.out
    clear HA
    simp only [slices_Equal_int_int.l0] at H
    by_cases c4 : x13_1 < (l0.length : Int)
    ·rw [if_pos c4] at H
     have c4b0 : decide (x13_1 < (l0.length : Int)) = true := decide_eq_true c4
     clear c4
     by_cases c5 : 0 ≤ x13_1
     ·rw [if_pos c5] at H
      have c5b0 : decide (0 ≤ x13_1) = true := decide_eq_true c5
      clear c5
      by_cases c6 : x13_1 < (l0.length : Int)
      ·rw [if_pos c6] at H
       have c6b0 : decide (x13_1 < (l0.length : Int)) = true := decide_eq_true c6
       clear c6
       by_cases c7 : x13_1 < (l1.length : Int)
       ·rw [if_pos c7] at H
        have c7b0 : decide (x13_1 < (l1.length : Int)) = true := decide_eq_true c7
        clear c7
        by_cases c8 : (rd l0 x13_1) = (rd l1 x13_1)
        ·rw [if_pos c8] at H
         have c8b0 : ((rd l0 x13_1) == (rd l1 x13_1)) = true := beq_iff_eq.mpr c8
         have c8b1 : ((rd l0 x13_1) != (rd l1 x13_1)) = false := bne_eq_false_iff_eq.mpr c8
         clear c8
         have H' := Aside0.mk H
         clear H
         have p244 : 0 ≤ (x13_1 : Int) := of_decide_eq_true (by first | (with_reducible assumption) | assumption)
         have q244 : x13_1 < (l0.length : Int) := of_decide_eq_true (by first | (with_reducible assumption) | assumption)
         obtain ⟨ad244, e244, hx244_0⟩ := Kd.at_int HR0.out x13_1 p244 q244
         cases e244
         replace p244 := eq_true p244
         replace q244 := eq_true q244
         have p245 : 0 ≤ (x13_1 : Int) := of_decide_eq_true (by first | (with_reducible assumption) | assumption)
         have q245 : x13_1 < (l1.length : Int) := of_decide_eq_true (by first | (with_reducible assumption) | assumption)
         obtain ⟨ad245, e245, hx245_0⟩ := Kd.at_int HR1.out x13_1 p245 q245
         cases e245
         replace p245 := eq_true p245
         replace q245 := eq_true q245
         go_wp2
         repeat (go_quiet (fail); try go_wp2)
         go_roundg k1
         case measure => have := HK1.out; omega
         case rel => exact ⟨(wrap64 (x13_1 + 1)), (by first | rfl | (simp; done) | (simp [*]; done)), H', ⟨by have := HK1.out; omega⟩, by repeat (first | exact Drawn0.refl _ | apply Drawn0.step)⟩
        ·rw [if_neg c8] at H
         have c8b0 : ((rd l0 x13_1) == (rd l1 x13_1)) = false := beq_eq_false_iff_ne.mpr c8
         have c8b1 : ((rd l0 x13_1) != (rd l1 x13_1)) = true := bne_iff_ne.mpr c8
         obtain rfl := Option.some.inj H
         have p244 : 0 ≤ (x13_1 : Int) := of_decide_eq_true (by first | (with_reducible assumption) | assumption)
         have q244 : x13_1 < (l0.length : Int) := of_decide_eq_true (by first | (with_reducible assumption) | assumption)
         obtain ⟨ad244, e244, hx244_0⟩ := Kd.at_int HR0.out x13_1 p244 q244
         cases e244
         replace p244 := eq_true p244
         replace q244 := eq_true q244
         have p245 : 0 ≤ (x13_1 : Int) := of_decide_eq_true (by first | (with_reducible assumption) | assumption)
         have q245 : x13_1 < (l1.length : Int) := of_decide_eq_true (by first | (with_reducible assumption) | assumption)
         obtain ⟨ad245, e245, hx245_0⟩ := Kd.at_int HR1.out x13_1 p245 q245
         cases e245
         replace p245 := eq_true p245
         replace q245 := eq_true q245
         go_wp2
         repeat (go_quiet (fail); try go_wp2)
         go_ret
         exact ⟨by first | rfl | (simp; done) | (simp [*]; done), by repeat (first | exact Drawn0.refl _ | apply Drawn0.step)⟩
       ·rw [if_neg c7] at H
        exact absurd H (by simp)
      ·rw [if_neg c6] at H
       exact absurd H (by simp)
     ·rw [if_neg c5] at H
      exact absurd H (by simp)
    ·rw [if_neg c4] at H
     have c4b0 : decide (x13_1 < (l0.length : Int)) = false := decide_eq_false c4
     clear c4
     obtain rfl := Option.some.inj H
     go_wp2
     repeat (go_quiet (fail); try go_wp2)
     go_ret
     exact ⟨by first | rfl | (simp; done) | (simp [*]; done), by repeat (first | exact Drawn0.refl _ | apply Drawn0.step)⟩
 ·rw [if_neg c3] at H
  have c3b0 : ((l0.length : Int) == (l1.length : Int)) = false := beq_eq_false_iff_ne.mpr c3
  have c3b1 : ((l0.length : Int) != (l1.length : Int)) = true := bne_iff_ne.mpr c3
  have c3b2 : (l0.length == l1.length) = false := by first | simpa using c3 | (simp at c3 ⊢; omega)
  obtain rfl := Option.some.inj H
  go_enter Try.func49, Try.ntmps49
  go_wp2
  repeat (go_quiet (fail); try go_wp2)
  go_ret
  exact ⟨by first | rfl | (simp; done) | (simp [*]; done), by repeat (first | exact Drawn0.refl _ | apply Drawn0.step)⟩

attribute [local go_sem high] eqA41
/-! ### impl_EqualResources: function 46 -/
def impl_EqualResources.f (k : Nat) (a0_0 : Int) (l0_1 : List Int) (a0_2 : Int) (a0_3 : Int) (a0_4 : Int) (a1_0 : Int) (l1_1 : List Int) (a1_2 : Int) (a1_3 : Int) (a1_4 : Int) : Option (Bool) := if a0_0 = a1_0 then (if (a0_2 == a1_2 && (a0_3 == a1_3 && (a0_4 == a1_4))) = true then ((slices_Equal_int_int.f k l0_1 l1_1).bind fun t248 => (some t248)) else (some false)) else (some false)
set_option maxHeartbeats 8000000 in
set_option maxRecDepth 100000 in
theorem impl_EqualResources.calls (k : Nat) (a0_0 : Int) (A0_1 : Option Addr) (c0_1 : Nat) (l0_1 : List Int) (a0_2 : Int) (a0_3 : Int) (a0_4 : Int) (a1_0 : Int) (A1_1 : Option Addr) (c1_1 : Nat) (l1_1 : List Int) (a1_2 : Int) (a1_3 : Int) (a1_4 : Int) (r : Bool) (w : World) (hr0_1 : Kd.C (Kd.int .i64) w A0_1 l0_1.length l0_1) (hc0_1 : l0_1.length ≤ c0_1) (hr1_1 : Kd.C (Kd.int .i64) w A1_1 l1_1.length l1_1) (hc1_1 : l1_1.length ≤ c1_1) (h : impl_EqualResources.f k a0_0 l0_1 a0_2 a0_3 a0_4 a1_0 l1_1 a1_2 a1_3 a1_4 = some r) :
  Calls Try.prog 46 #[.agg #[.int .i64 a0_0, .slice A0_1 l0_1.length c0_1, .int .i64 a0_2, .int .i64 a0_3, .int .i64 a0_4], .agg #[.int .i64 a1_0, .slice A1_1 l1_1.length c1_1, .int .i64 a1_2, .int .i64 a1_3, .int .i64 a1_4]] w fun e w' => e = .returned (.bool r) ∧ Below w.heap.size w w' := by
 have hu43 := Try.underlying43
 have hu41 := Try.underlying41
 have HR0_1 := Aside0.mk hr0_1
 have HC0_1 := Aside0.mk hc0_1
 clear hr0_1 hc0_1
 have HR1_1 := Aside0.mk hr1_1
 have HC1_1 := Aside0.mk hc1_1
 clear hr1_1 hc1_1
 have HB := ak (Below.refl w.heap.size w)
 have H : (if a0_0 = a1_0 then (if (a0_2 == a1_2 && (a0_3 == a1_3 && (a0_4 == a1_4))) = true then ((slices_Equal_int_int.f k l0_1 l1_1).bind fun t248 => (some t248)) else (some false)) else (some false)) = some r := h
 clear h
 by_cases c3 : a0_0 = a1_0
 ·rw [if_pos c3] at H
  have c3b0 : (a0_0 == a1_0) = true := beq_iff_eq.mpr c3
  have c3b1 : (a0_0 != a1_0) = false := bne_eq_false_iff_eq.mpr c3
  clear c3
  by_cases c4 : (a0_2 == a1_2 && (a0_3 == a1_3 && (a0_4 == a1_4))) = true
  ·rw [if_pos c4] at H
   have c4b0 : (a0_2 == a1_2 && (a0_3 == a1_3 && (a0_4 == a1_4))) = true := c4
   (try (have c4b1 : decide (a0_2 = a1_2 && (a0_3 == a1_3 && (a0_4 == a1_4))) = true := by simpa using c4))
   (try (have c4b2 : (a0_2 == a1_2 && (a0_3 == a1_3 && (a0_4 == a1_4))) = true := by simpa using c4))
   clear c4
   replace H := Option.bind_eq_some_iff.mp H
   obtain ⟨t248, A50, H⟩ := H
   replace H : (some t248) = some r := H
   have A5 := Aside0.mk A50
   clear A50
   obtain rfl := Option.some.inj H
   go_enter Try.func46, Try.ntmps46
   go_wp2_with (first | ((with_reducible refine gate_dst (N := 2) rfl ?_); refine bx_ (N := 2) #[.int .i64 a0_0, .slice A0_1 l0_1.length c0_1, .int .i64 a0_2, .int .i64 a0_3, .int .i64 a0_4] 43 ?_; intro gb246 hg w6 hbox hb; have BK246 := ak hbox; have GW246 := gy hg HB; have GE246 := gy hg HB; replace HB := bs HB hb; clear hb hbox hg) | ((with_reducible refine gate_dst (N := 3) rfl ?_); refine bx_ (N := 3) #[.int .i64 a1_0, .slice A1_1 l1_1.length c1_1, .int .i64 a1_2, .int .i64 a1_3, .int .i64 a1_4] 43 ?_; intro gb247 hg w7 hbox hb; have BK247 := ak hbox; have GW247 := gy hg HB; have GE247 := gy hg HB; replace HB := bs HB hb; have NB246_247 := gm hg BK246; have NB247_246 := gn hg BK246; replace BK246 := kf BK246 hb; clear hb hbox hg; have hnb8 := NB246_247.out; have hnc8 := NB247_246.out; obtain ⟨hcz9_0, hcz9_1, hcz9_2, hcz9_3, hcz9_4, hfz9_0, hfz9_1, hfz9_2, hfz9_3, hfz9_4⟩ := bc5 BK246; obtain ⟨hcz10_0, hcz10_1, hcz10_2, hcz10_3, hcz10_4, hfz10_0, hfz10_1, hfz10_2, hfz10_3, hfz10_4⟩ := bc5 BK247) | (go_at_call 49; (with_reducible refine (slices_Equal_int_int.calls k _ _ l0_1 _ _ l1_1 t248 _ ?side1 ?side2 ?side3 ?side4 A5.out).mono ?_); (case side1 => exact CR (Kd.C_below HR0_1.out HB.out)); (case side2 => exact HC0_1.out); (case side3 => exact CR (Kd.C_below HR1_1.out HB.out)); (case side4 => exact HC1_1.out); rintro e w' ⟨rfl, ⟨nd, rfl⟩⟩))
   go_ret
   exact ⟨RT, PB⟩
  ·rw [if_neg c4] at H
   have c4b0 : (a0_2 == a1_2 && (a0_3 == a1_3 && (a0_4 == a1_4))) = false := by simpa using c4
   (try (have c4b1 : decide (a0_2 = a1_2 && (a0_3 == a1_3 && (a0_4 == a1_4))) = false := by simpa using c4))
   (try (have c4b2 : (a0_2 == a1_2 && (a0_3 == a1_3 && (a0_4 == a1_4))) = false := by simpa using c4))
   (try (have c4b3 : ¬ (a0_2 = a1_2 && (a0_3 == a1_3 && (a0_4 == a1_4))) := by simpa using c4))
   clear c4
   obtain rfl := Option.some.inj H
   go_enter Try.func46, Try.ntmps46
   go_wp2_with (first | ((with_reducible refine gate_dst (N := 2) rfl ?_); refine bx_ (N := 2) #[.int .i64 a0_0, .slice A0_1 l0_1.length c0_1, .int .i64 a0_2, .int .i64 a0_3, .int .i64 a0_4] 43 ?_; intro gb246 hg w11 hbox hb; have BK246 := ak hbox; have GW246 := gy hg HB; have GE246 := gy hg HB; replace HB := bs HB hb; clear hb hbox hg) | ((with_reducible refine gate_dst (N := 3) rfl ?_); refine bx_ (N := 3) #[.int .i64 a1_0, .slice A1_1 l1_1.length c1_1, .int .i64 a1_2, .int .i64 a1_3, .int .i64 a1_4] 43 ?_; intro gb247 hg w12 hbox hb; have BK247 := ak hbox; have GW247 := gy hg HB; have GE247 := gy hg HB; replace HB := bs HB hb; have NB246_247 := gm hg BK246; have NB247_246 := gn hg BK246; replace BK246 := kf BK246 hb; clear hb hbox hg; have hnb13 := NB246_247.out; have hnc13 := NB247_246.out; obtain ⟨_, _, _, _, _, _, _, _, _, _⟩ := bc5 BK246; obtain ⟨hcz15_0, hcz15_1, hcz15_2, hcz15_3, hcz15_4, hfz15_0, hfz15_1, hfz15_2, hfz15_3, hfz15_4⟩ := bc5 BK247))
   go_ret
   exact ⟨RT, PB⟩
 ·rw [if_neg c3] at H
  have c3b0 : (a0_0 == a1_0) = false := beq_eq_false_iff_ne.mpr c3
  have c3b1 : (a0_0 != a1_0) = true := bne_iff_ne.mpr c3
  obtain rfl := Option.some.inj H
  go_enter Try.func46, Try.ntmps46
  go_wp2_with (first | ((with_reducible refine gate_dst (N := 2) rfl ?_); refine bx_ (N := 2) #[.int .i64 a0_0, .slice A0_1 l0_1.length c0_1, .int .i64 a0_2, .int .i64 a0_3, .int .i64 a0_4] 43 ?_; intro gb246 hg w16 hbox hb; have BK246 := ak hbox; have GW246 := gy hg HB; have GE246 := gy hg HB; replace HB := bs HB hb; clear hb hbox hg) | ((with_reducible refine gate_dst (N := 3) rfl ?_); refine bx_ (N := 3) #[.int .i64 a1_0, .slice A1_1 l1_1.length c1_1, .int .i64 a1_2, .int .i64 a1_3, .int .i64 a1_4] 43 ?_; intro gb247 hg w17 hbox hb; have BK247 := ak hbox; have GW247 := gy hg HB; have GE247 := gy hg HB; replace HB := bs HB hb; have NB246_247 := gm hg BK246; have NB247_246 := gn hg BK246; replace BK246 := kf BK246 hb; clear hb hbox hg; have hnb18 := NB246_247.out; have hnc18 := NB247_246.out; obtain ⟨_, _, _, _, _, _, _, _, _, _⟩ := bc5 BK246; obtain ⟨hcz20_0, hcz20_1, hcz20_2, hcz20_3, hcz20_4, hfz20_0, hfz20_1, hfz20_2, hfz20_3, hfz20_4⟩ := bc5 BK247))
  go_ret
  exact ⟨RT, PB⟩

attribute [local go_sem high] eqA41
/-! ### impl_sameCapture: function 33 -/
def impl_sameCapture.f (k : Nat) (a0_0 : Int) (a0_1 : Int) (a0_2 : Int) (a0_3 : Int) (a0_4 : Int) (l0_5 : List Int) (a0_6 : Int) (a0_7 : Int) (a0_8 : Int) (a1_0 : Int) (a1_1 : Int) (a1_2 : Int) (a1_3 : Int) (a1_4 : Int) (l1_5 : List Int) (a1_6 : Int) (a1_7 : Int) (a1_8 : Int) : Option (Bool) := if (a0_0 == a1_0 && (a0_1 == a1_1 && (a0_2 == a1_2))) = true then (if a0_3 = a1_3 then ((impl_EqualResources.f k a0_4 l0_5 a0_6 a0_7 a0_8 a1_4 l1_5 a1_6 a1_7 a1_8).bind fun t251 => (some t251)) else (some false)) else (some false)
set_option maxHeartbeats 8000000 in
set_option maxRecDepth 100000 in
theorem impl_sameCapture.calls (k : Nat) (a0_0 : Int) (a0_1 : Int) (a0_2 : Int) (a0_3 : Int) (a0_4 : Int) (A0_5 : Option Addr) (c0_5 : Nat) (l0_5 : List Int) (a0_6 : Int) (a0_7 : Int) (a0_8 : Int) (a1_0 : Int) (a1_1 : Int) (a1_2 : Int) (a1_3 : Int) (a1_4 : Int) (A1_5 : Option Addr) (c1_5 : Nat) (l1_5 : List Int) (a1_6 : Int) (a1_7 : Int) (a1_8 : Int) (r : Bool) (w : World) (hr0_5 : Kd.C (Kd.int .i64) w A0_5 l0_5.length l0_5) (hc0_5 : l0_5.length ≤ c0_5) (hr1_5 : Kd.C (Kd.int .i64) w A1_5 l1_5.length l1_5) (hc1_5 : l1_5.length ≤ c1_5) (h : impl_sameCapture.f k a0_0 a0_1 a0_2 a0_3 a0_4 l0_5 a0_6 a0_7 a0_8 a1_0 a1_1 a1_2 a1_3 a1_4 l1_5 a1_6 a1_7 a1_8 = some r) :
  Calls Try.prog 33 #[.agg #[.int .i64 a0_0, .int .i64 a0_1, .int .i64 a0_2, .int .i64 a0_3, .int .i64 a0_4, .slice A0_5 l0_5.length c0_5, .int .i64 a0_6, .int .i64 a0_7, .int .i64 a0_8], .agg #[.int .i64 a1_0, .int .i64 a1_1, .int .i64 a1_2, .int .i64 a1_3, .int .i64 a1_4, .slice A1_5 l1_5.length c1_5, .int .i64 a1_6, .int .i64 a1_7, .int .i64 a1_8]] w fun e w' => e = .returned (.bool r) ∧ Below w.heap.size w w' := by
 have hu45 := Try.underlying45
 have hu41 := Try.underlying41
 have hu43 := Try.underlying43
 have HR0_5 := Aside0.mk hr0_5
 have HC0_5 := Aside0.mk hc0_5
 clear hr0_5 hc0_5
 have HR1_5 := Aside0.mk hr1_5
 have HC1_5 := Aside0.mk hc1_5
 clear hr1_5 hc1_5
 have HB := ak (Below.refl w.heap.size w)
 have H : (if (a0_0 == a1_0 && (a0_1 == a1_1 && (a0_2 == a1_2))) = true then (if a0_3 = a1_3 then ((impl_EqualResources.f k a0_4 l0_5 a0_6 a0_7 a0_8 a1_4 l1_5 a1_6 a1_7 a1_8).bind fun t251 => (some t251)) else (some false)) else (some false)) = some r := h
 clear h
 by_cases c3 : (a0_0 == a1_0 && (a0_1 == a1_1 && (a0_2 == a1_2))) = true
 ·rw [if_pos c3] at H
  have c3b0 : (a0_0 == a1_0 && (a0_1 == a1_1 && (a0_2 == a1_2))) = true := c3
  (try (have c3b1 : decide (a0_0 = a1_0 && (a0_1 == a1_1 && (a0_2 == a1_2))) = true := by simpa using c3))
  (try (have c3b2 : (a0_0 == a1_0 && (a0_1 == a1_1 && (a0_2 == a1_2))) = true := by simpa using c3))
  clear c3
  by_cases c4 : a0_3 = a1_3
  ·rw [if_pos c4] at H
   have c4b0 : (a0_3 == a1_3) = true := beq_iff_eq.mpr c4
   have c4b1 : (a0_3 != a1_3) = false := bne_eq_false_iff_eq.mpr c4
   clear c4
   replace H := Option.bind_eq_some_iff.mp H
   obtain ⟨t251, A50, H⟩ := H
   replace H : (some t251) = some r := H
   have A5 := Aside0.mk A50
   clear A50
   obtain rfl := Option.some.inj H
   go_enter Try.func33, Try.ntmps33
   go_wp2_with (first | ((with_reducible refine gate_dst (N := 2) rfl ?_); refine bx_ (N := 2) #[.int .i64 a0_0, .int .i64 a0_1, .int .i64 a0_2, .int .i64 a0_3, .int .i64 a0_4, .slice A0_5 l0_5.length c0_5, .int .i64 a0_6, .int .i64 a0_7, .int .i64 a0_8] 45 ?_; intro gb249 hg w6 hbox hb; have BK249 := ak hbox; have GW249 := gy hg HB; have GE249 := gy hg HB; replace HB := bs HB hb; clear hb hbox hg) | ((with_reducible refine gate_dst (N := 3) rfl ?_); refine bx_ (N := 3) #[.int .i64 a1_0, .int .i64 a1_1, .int .i64 a1_2, .int .i64 a1_3, .int .i64 a1_4, .slice A1_5 l1_5.length c1_5, .int .i64 a1_6, .int .i64 a1_7, .int .i64 a1_8] 45 ?_; intro gb250 hg w7 hbox hb; have BK250 := ak hbox; have GW250 := gy hg HB; have GE250 := gy hg HB; replace HB := bs HB hb; have NB249_250 := gm hg BK249; have NB250_249 := gn hg BK249; replace BK249 := kf BK249 hb; clear hb hbox hg; have hnb8 := NB249_250.out; have hnc8 := NB250_249.out; obtain ⟨hcz9_0, hcz9_1, hcz9_2, hcz9_3, hcz9_4, _, _, _, _, hfz9_0, hfz9_1, hfz9_2, hfz9_3, hfz9_4, _, _, _, _⟩ := bc9 BK249; obtain ⟨hcz10_0, hcz10_1, hcz10_2, hcz10_3, hcz10_4, _, _, _, _, hfz10_0, hfz10_1, hfz10_2, hfz10_3, hfz10_4, _, _, _, _⟩ := bc9 BK250) | (go_at_call 46; (with_reducible refine (impl_EqualResources.calls k a0_4 _ _ l0_5 a0_6 a0_7 a0_8 a1_4 _ _ l1_5 a1_6 a1_7 a1_8 t251 _ ?side1 ?side2 ?side3 ?side4 A5.out).mono ?_); (case side1 => exact CR (Kd.C_below HR0_5.out HB.out)); (case side2 => exact HC0_5.out); (case side3 => exact CR (Kd.C_below HR1_5.out HB.out)); (case side4 => exact HC1_5.out); rintro e w11 ⟨rfl, hb⟩; replace BK249 := kf BK249 hb; replace BK250 := kf BK250 hb; replace HB := bs HB hb; (try clear hb); (try clear hb2); (try clear hk); (try clear hi)))
   go_ret
   exact ⟨RT, PB⟩
  ·rw [if_neg c4] at H
   have c4b0 : (a0_3 == a1_3) = false := beq_eq_false_iff_ne.mpr c4
   have c4b1 : (a0_3 != a1_3) = true := bne_iff_ne.mpr c4
   obtain rfl := Option.some.inj H
   go_enter Try.func33, Try.ntmps33
   go_wp2_with (first | ((with_reducible refine gate_dst (N := 2) rfl ?_); refine bx_ (N := 2) #[.int .i64 a0_0, .int .i64 a0_1, .int .i64 a0_2, .int .i64 a0_3, .int .i64 a0_4, .slice A0_5 l0_5.length c0_5, .int .i64 a0_6, .int .i64 a0_7, .int .i64 a0_8] 45 ?_; intro gb249 hg w12 hbox hb; have BK249 := ak hbox; have GW249 := gy hg HB; have GE249 := gy hg HB; replace HB := bs HB hb; clear hb hbox hg) | ((with_reducible refine gate_dst (N := 3) rfl ?_); refine bx_ (N := 3) #[.int .i64 a1_0, .int .i64 a1_1, .int .i64 a1_2, .int .i64 a1_3, .int .i64 a1_4, .slice A1_5 l1_5.length c1_5, .int .i64 a1_6, .int .i64 a1_7, .int .i64 a1_8] 45 ?_; intro gb250 hg w13 hbox hb; have BK250 := ak hbox; have GW250 := gy hg HB; have GE250 := gy hg HB; replace HB := bs HB hb; have NB249_250 := gm hg BK249; have NB250_249 := gn hg BK249; replace BK249 := kf BK249 hb; clear hb hbox hg; have hnb14 := NB249_250.out; have hnc14 := NB250_249.out; obtain ⟨hcz15_0, hcz15_1, hcz15_2, hcz15_3, hcz15_4, _, _, _, _, hfz15_0, hfz15_1, hfz15_2, hfz15_3, hfz15_4, _, _, _, _⟩ := bc9 BK249; obtain ⟨_, _, _, _, _, _, _, _, _, _, _, _, _, _, _, _, _, _⟩ := bc9 BK250))
   go_ret
   exact ⟨RT, PB⟩
 ·rw [if_neg c3] at H
  have c3b0 : (a0_0 == a1_0 && (a0_1 == a1_1 && (a0_2 == a1_2))) = false := by simpa using c3
  (try (have c3b1 : decide (a0_0 = a1_0 && (a0_1 == a1_1 && (a0_2 == a1_2))) = false := by simpa using c3))
  (try (have c3b2 : (a0_0 == a1_0 && (a0_1 == a1_1 && (a0_2 == a1_2))) = false := by simpa using c3))
  (try (have c3b3 : ¬ (a0_0 = a1_0 && (a0_1 == a1_1 && (a0_2 == a1_2))) := by simpa using c3))
  clear c3
  obtain rfl := Option.some.inj H
  go_enter Try.func33, Try.ntmps33
  go_wp2_with (first | ((with_reducible refine gate_dst (N := 2) rfl ?_); refine bx_ (N := 2) #[.int .i64 a0_0, .int .i64 a0_1, .int .i64 a0_2, .int .i64 a0_3, .int .i64 a0_4, .slice A0_5 l0_5.length c0_5, .int .i64 a0_6, .int .i64 a0_7, .int .i64 a0_8] 45 ?_; intro gb249 hg w17 hbox hb; have BK249 := ak hbox; have GW249 := gy hg HB; have GE249 := gy hg HB; replace HB := bs HB hb; clear hb hbox hg) | ((with_reducible refine gate_dst (N := 3) rfl ?_); refine bx_ (N := 3) #[.int .i64 a1_0, .int .i64 a1_1, .int .i64 a1_2, .int .i64 a1_3, .int .i64 a1_4, .slice A1_5 l1_5.length c1_5, .int .i64 a1_6, .int .i64 a1_7, .int .i64 a1_8] 45 ?_; intro gb250 hg w18 hbox hb; have BK250 := ak hbox; have GW250 := gy hg HB; have GE250 := gy hg HB; replace HB := bs HB hb; have NB249_250 := gm hg BK249; have NB250_249 := gn hg BK249; replace BK249 := kf BK249 hb; clear hb hbox hg; have hnb19 := NB249_250.out; have hnc19 := NB250_249.out; obtain ⟨hcz20_0, hcz20_1, hcz20_2, hcz20_3, hcz20_4, _, _, _, _, hfz20_0, hfz20_1, hfz20_2, hfz20_3, hfz20_4, _, _, _, _⟩ := bc9 BK249; obtain ⟨_, _, _, _, _, _, _, _, _, _, _, _, _, _, _, _, _, _⟩ := bc9 BK250))
  go_ret
  exact ⟨RT, PB⟩

/-! ### impl_hasCapture: function 17 -/
def impl_hasCapture_lit1.f (k : Nat) (a0_0 : Int) (a0_1 : Int) (a0_2 : Int) (a0_3 : Int) (a0_4 : Int) (l0_5 : List Int) (a0_6 : Int) (a0_7 : Int) (a0_8 : Int) (a1_0 : Int) (a1_1 : Int) (a1_2 : Int) (a1_3 : Int) (a1_4 : Int) (l1_5 : List Int) (a1_6 : Int) (a1_7 : Int) (a1_8 : Int) : Option Bool := (impl_sameCapture.f k a0_0 a0_1 a0_2 a0_3 a0_4 l0_5 a0_6 a0_7 a0_8 a1_0 a1_1 a1_2 a1_3 a1_4 l1_5 a1_6 a1_7 a1_8).bind fun t => some t
set_option maxHeartbeats 8000000 in
set_option maxRecDepth 100000 in
theorem impl_hasCapture_lit1.calls (k : Nat) (a0_0 : Int) (a0_1 : Int) (a0_2 : Int) (a0_3 : Int) (a0_4 : Int) (A0_5 : Option Addr) (c0_5 : Nat) (l0_5 : List Int) (a0_6 : Int) (a0_7 : Int) (a0_8 : Int) (g : Nat) (a1_0 : Int) (a1_1 : Int) (a1_2 : Int) (a1_3 : Int) (a1_4 : Int) (A1_5 : Option Addr) (c1_5 : Nat) (l1_5 : List Int) (a1_6 : Int) (a1_7 : Int) (a1_8 : Int) (r : Bool) (w : World) (hr0_5 : Kd.C (Kd.int .i64) w A0_5 l0_5.length l0_5) (hc0_5 : l0_5.length ≤ c0_5) (hr1_5 : Kd.C (Kd.int .i64) w A1_5 l1_5.length l1_5) (hc1_5 : l1_5.length ≤ c1_5) (hbk : w.heap[g]? = some (.cells #[.int .i64 a1_0, .int .i64 a1_1, .int .i64 a1_2, .int .i64 a1_3, .int .i64 a1_4, .slice A1_5 l1_5.length c1_5, .int .i64 a1_6, .int .i64 a1_7, .int .i64 a1_8] 45 (0, 0))) (h : impl_hasCapture_lit1.f k a0_0 a0_1 a0_2 a0_3 a0_4 l0_5 a0_6 a0_7 a0_8 a1_0 a1_1 a1_2 a1_3 a1_4 l1_5 a1_6 a1_7 a1_8 = some r) :
  Calls Try.prog 32 #[.agg #[.int .i64 a0_0, .int .i64 a0_1, .int .i64 a0_2, .int .i64 a0_3, .int .i64 a0_4, .slice A0_5 l0_5.length c0_5, .int .i64 a0_6, .int .i64 a0_7, .int .i64 a0_8], .pointer (some ⟨g, 0, none⟩)] w fun e w' => e = .returned (.bool r) ∧ Below w.heap.size w w' := by
 have hu45 := Try.underlying45
 have HR0_5 := Aside0.mk hr0_5
 have HC0_5 := Aside0.mk hc0_5
 have HR1_5 := Aside0.mk hr1_5
 have HC1_5 := Aside0.mk hc1_5
 have BK1 := Aside0.mk hbk
 clear hr0_5 hc0_5 hr1_5 hc1_5 hbk
 have HB := ak (Below.refl w.heap.size w)
 have H : ((impl_sameCapture.f k a0_0 a0_1 a0_2 a0_3 a0_4 l0_5 a0_6 a0_7 a0_8 a1_0 a1_1 a1_2 a1_3 a1_4 l1_5 a1_6 a1_7 a1_8).bind fun t => some t) = some r := h
 clear h
 replace H := Option.bind_eq_some_iff.mp H
 obtain ⟨t, A30, H⟩ := H
 have A3 := Aside0.mk A30
 clear A30
 obtain rfl := Option.some.inj H
 clear H
 go_enter Try.func32, Try.ntmps32
 go_wp2_with (first | ((with_reducible refine gate_dst (N := 2) rfl ?_); refine bx_ (N := 2) #[.int .i64 a0_0, .int .i64 a0_1, .int .i64 a0_2, .int .i64 a0_3, .int .i64 a0_4, .slice A0_5 l0_5.length c0_5, .int .i64 a0_6, .int .i64 a0_7, .int .i64 a0_8] 45 ?_; intro gb0 hg w4 hbox hb; have BK0 := ak hbox; replace BK1 := kf BK1 hb; replace HB := bs HB hb; clear hb hbox hg; obtain ⟨_, _, _, _, _, _, _, _, _, _, _, _, _, _, _, _, _, _⟩ := bc9 BK0; obtain ⟨_, _, _, _, _, _, _, _, _, _, _, _, _, _, _, _, _, _⟩ := bc9 BK1) | ((with_reducible refine gate_callee (f := 33) rfl ?_); refine goesL_ (some 6) rfl rfl Try.func33 KR rfl #[.agg #[.int .i64 a0_0, .int .i64 a0_1, .int .i64 a0_2, .int .i64 a0_3, .int .i64 a0_4, .slice A0_5 l0_5.length c0_5, .int .i64 a0_6, .int .i64 a0_7, .int .i64 a0_8], .agg #[.int .i64 a1_0, .int .i64 a1_1, .int .i64 a1_2, .int .i64 a1_3, .int .i64 a1_4, .slice A1_5 l1_5.length c1_5, .int .i64 a1_6, .int .i64 a1_7, .int .i64 a1_8]] rfl AR ?_; (with_reducible refine (impl_sameCapture.calls k a0_0 a0_1 a0_2 a0_3 a0_4 _ _ l0_5 a0_6 a0_7 a0_8 a1_0 a1_1 a1_2 a1_3 a1_4 _ _ l1_5 a1_6 a1_7 a1_8 t _ ?side1 ?side2 ?side3 ?side4 A3.out).mono ?_); (case side1 => exact CR (Kd.C_below HR0_5.out HB.out)); (case side2 => exact HC0_5.out); (case side3 => exact CR (Kd.C_below HR1_5.out HB.out)); (case side4 => exact HC1_5.out); rintro e w6 ⟨rfl, hb⟩; refine ⟨_, rfl, ?_⟩; replace HB := bs HB hb; (try clear hb); (try clear hb2); (try clear hk); (try clear hi)))
 go_ret
 exact ⟨RT, PB⟩
def impl_hasCapture_at.l0 (a1_0 : Int) (a1_1 : Int) (a1_2 : Int) (a1_3 : Int) (a1_4 : Int) (l1_5 : List Int) (a1_6 : Int) (a1_7 : Int) (a1_8 : Int) : Nat → List (S45) → Int → Int → Option (Int)
  | 0, _, _, _ => none
  | k + 1, x0, x7, x8 => if x8 < x7 then (if 0 ≤ x8 then (if x8 < (x0.length : Int) then ((impl_hasCapture_lit1.f k ((rd_T45 x0 x8).f0.f0) ((rd_T45 x0 x8).f0.f1) ((rd_T45 x0 x8).f0.f2) ((rd_T45 x0 x8).f1) ((rd_T45 x0 x8).f2.f0) ((rd_T45 x0 x8).f2.f1) ((rd_T45 x0 x8).f2.f2.f0) ((rd_T45 x0 x8).f2.f2.f1) ((rd_T45 x0 x8).f2.f2.f2) a1_0 a1_1 a1_2 a1_3 a1_4 l1_5 a1_6 a1_7 a1_8).bind fun t250 => (if t250 = true then (some x8) else (impl_hasCapture_at.l0 a1_0 a1_1 a1_2 a1_3 a1_4 l1_5 a1_6 a1_7 a1_8 k x0 x7 (wrap64 (x8 + 1))))) else (none)) else (none)) else (some (-1))
set_option maxHeartbeats 8000000 in
set_option maxRecDepth 100000 in
theorem impl_hasCapture_at.calls (k : Nat) (A0 : Option Addr) (c0 : Nat) (l0 : List (S45)) (g : Nat) (a1_0 : Int) (a1_1 : Int) (a1_2 : Int) (a1_3 : Int) (a1_4 : Int) (A1_5 : Option Addr) (c1_5 : Nat) (l1_5 : List Int) (a1_6 : Int) (a1_7 : Int) (a1_8 : Int) (r : Int) (w : World) (hr0 : Kd.C k45 w A0 l0.length l0) (hc0 : l0.length ≤ c0) (hr1_5 : Kd.C (Kd.int .i64) w A1_5 l1_5.length l1_5) (hc1_5 : l1_5.length ≤ c1_5) (hbk : w.heap[g]? = some (.cells #[.int .i64 a1_0, .int .i64 a1_1, .int .i64 a1_2, .int .i64 a1_3, .int .i64 a1_4, .slice A1_5 l1_5.length c1_5, .int .i64 a1_6, .int .i64 a1_7, .int .i64 a1_8] 45 (0, 0))) (h : impl_hasCapture_at.l0 a1_0 a1_1 a1_2 a1_3 a1_4 l1_5 a1_6 a1_7 a1_8 k l0 (l0.length : Int) 0 = some r) :
  Calls Try.prog 45 #[.slice A0 l0.length c0, .func (.func 32) #[] #[.pointer (some ⟨g, 0, none⟩)]] w fun e w' => e = .returned (.int .i64 r) ∧ Below w.heap.size w w' := by
 have hu45 := Try.underlying45
 have HR0 := Aside0.mk hr0
 have HC0 := Aside0.mk hc0
 have HR1_5 := Aside0.mk hr1_5
 have HC1_5 := Aside0.mk hc1_5
 have BK1 := Aside0.mk hbk
 clear hr0 hc0 hr1_5 hc1_5 hbk
 have HB := ak (Below.refl w.heap.size w)
 have H' := Aside0.mk h
 clear h
 go_enter Try.func45, Try.ntmps45
 go_wp2
 go_loopg [8] k (fun kq v8 w' => ∃ (x8_1 : Int), v8 = .int .i64 x8_1 ∧ Aside0 (impl_hasCapture_at.l0 a1_0 a1_1 a1_2 a1_3 a1_4 l1_5 a1_6 a1_7 a1_8 kq l0 (l0.length : Int) x8_1 = some r) ∧ Aside0 (kq ≤ k) ∧ Aside0 (w'.heap[g]? = some (.cells #[.int .i64 a1_0, .int .i64 a1_1, .int .i64 a1_2, .int .i64 a1_3, .int .i64 a1_4, .slice A1_5 l1_5.length c1_5, .int .i64 a1_6, .int .i64 a1_7, .int .i64 a1_8] 45 (0, 0))) ∧ Aside0 (Below w.heap.size w w'))
 case atStart => exact ⟨(0), (by first | rfl | (simp; done) | (simp [*]; done)), H', ⟨Nat.le_refl _⟩, ⟨PK BK1⟩, ⟨PB⟩⟩
 case round =>
  clear H'
  try clear p2
  obtain ⟨x8_1, rfl, HA, HK1, BK1, HB⟩ := hrel
  cases gk with
  | zero => exact absurd HA.out (by simp [impl_hasCapture_at.l0])
  | succ k1 =>
   have H := HA.out
   clear HA
   simp only [impl_hasCapture_at.l0] at H
   by_cases c3 : x8_1 < (l0.length : Int)
   ·rw [if_pos c3] at H
    have c3b0 : decide (x8_1 < (l0.length : Int)) = true := decide_eq_true c3
    by_cases c4 : 0 ≤ x8_1
    ·rw [if_pos c4, if_pos c3] at H
     have c4b0 : decide (0 ≤ x8_1) = true := decide_eq_true c4
     clear c3 c4
     replace H := Option.bind_eq_some_iff.mp H
     obtain ⟨t250, A60, H⟩ := H
     have A6 := Aside0.mk A60
     clear A60
     cases t250 with
     | true =>
      rw [if_pos rfl] at H
      obtain rfl := Option.some.inj H
      clear H
      have p249 : 0 ≤ (x8_1 : Int) := of_decide_eq_true (by first | (with_reducible assumption) | assumption)
      have q249 : x8_1 < (l0.length : Int) := of_decide_eq_true (by first | (with_reducible assumption) | assumption)
      obtain ⟨ad249, A249_5, c249_5, e249, hx249_0, hx249_1, hx249_2, hx249_3, hx249_4, hx249_5, hx249_6, hx249_7, hx249_8, hl249_5, hi249_5⟩ := at_T45 HR0.out x8_1 p249 q249
      cases e249
      replace hx249_0 := hx_ HB hx249_0
      replace hx249_1 := hx_ HB hx249_1
      replace hx249_2 := hx_ HB hx249_2
      replace hx249_3 := hx_ HB hx249_3
      replace hx249_4 := hx_ HB hx249_4
      replace hx249_5 := hx_ HB hx249_5
      replace hx249_6 := hx_ HB hx249_6
      replace hx249_7 := hx_ HB hx249_7
      replace hx249_8 := hx_ HB hx249_8
      have HR249_5 := Aside0.mk hi249_5
      have HC249_5 := Aside0.mk hl249_5
      clear hi249_5 hl249_5
      replace p249 := eq_true p249
      replace q249 := eq_true q249
      go_wp2_with (first | (go_at_call 32; (with_reducible refine (impl_hasCapture_lit1.calls k1 ((rd_T45 l0 x8_1).f0.f0) ((rd_T45 l0 x8_1).f0.f1) ((rd_T45 l0 x8_1).f0.f2) ((rd_T45 l0 x8_1).f1) ((rd_T45 l0 x8_1).f2.f0) _ _ ((rd_T45 l0 x8_1).f2.f1) ((rd_T45 l0 x8_1).f2.f2.f0) ((rd_T45 l0 x8_1).f2.f2.f1) ((rd_T45 l0 x8_1).f2.f2.f2) g a1_0 a1_1 a1_2 a1_3 a1_4 A1_5 c1_5 l1_5 a1_6 a1_7 a1_8 true _ ?side1 ?side2 ?side3 ?side4 ?side5 A6.out).mono ?_); (case side1 => exact CR (Kd.C_below HR249_5.out HB.out)); (case side2 => exact HC249_5.out); (case side3 => exact CR (Kd.C_below HR1_5.out HB.out)); (case side4 => exact HC1_5.out); (case side5 => exact (PF BK1)); rintro e w8 ⟨rfl, hb⟩; replace BK1 := kf BK1 hb; replace HB := bs HB hb; (try clear hb); (try clear hb2); (try clear hk); (try clear hi)))
      go_ret
      exact ⟨RT, PB⟩
     | false =>
      rw [if_neg (by simp)] at H
      have H' := Aside0.mk H
      clear H
      have p249 : 0 ≤ (x8_1 : Int) := of_decide_eq_true (by first | (with_reducible assumption) | assumption)
      have q249 : x8_1 < (l0.length : Int) := of_decide_eq_true (by first | (with_reducible assumption) | assumption)
      obtain ⟨ad249, A249_5, c249_5, e249, hx249_0, hx249_1, hx249_2, hx249_3, hx249_4, hx249_5, hx249_6, hx249_7, hx249_8, hl249_5, hi249_5⟩ := at_T45 HR0.out x8_1 p249 q249
      cases e249
      replace hx249_0 := hx_ HB hx249_0
      replace hx249_1 := hx_ HB hx249_1
      replace hx249_2 := hx_ HB hx249_2
      replace hx249_3 := hx_ HB hx249_3
      replace hx249_4 := hx_ HB hx249_4
      replace hx249_5 := hx_ HB hx249_5
      replace hx249_6 := hx_ HB hx249_6
      replace hx249_7 := hx_ HB hx249_7
      replace hx249_8 := hx_ HB hx249_8
      have HR249_5 := Aside0.mk hi249_5
      have HC249_5 := Aside0.mk hl249_5
      clear hi249_5 hl249_5
      replace p249 := eq_true p249
      replace q249 := eq_true q249
      go_wp2_with (first | (go_at_call 32; (with_reducible refine (impl_hasCapture_lit1.calls k1 ((rd_T45 l0 x8_1).f0.f0) ((rd_T45 l0 x8_1).f0.f1) ((rd_T45 l0 x8_1).f0.f2) ((rd_T45 l0 x8_1).f1) ((rd_T45 l0 x8_1).f2.f0) _ _ ((rd_T45 l0 x8_1).f2.f1) ((rd_T45 l0 x8_1).f2.f2.f0) ((rd_T45 l0 x8_1).f2.f2.f1) ((rd_T45 l0 x8_1).f2.f2.f2) g a1_0 a1_1 a1_2 a1_3 a1_4 A1_5 c1_5 l1_5 a1_6 a1_7 a1_8 false _ ?side1 ?side2 ?side3 ?side4 ?side5 A6.out).mono ?_); (case side1 => exact CR (Kd.C_below HR249_5.out HB.out)); (case side2 => exact HC249_5.out); (case side3 => exact CR (Kd.C_below HR1_5.out HB.out)); (case side4 => exact HC1_5.out); (case side5 => exact (PF BK1)); rintro e w9 ⟨rfl, hb⟩; replace BK1 := kf BK1 hb; replace HB := bs HB hb; (try clear hb); (try clear hb2); (try clear hk); (try clear hi)))
      go_roundg k1
      case measure => have := HK1.out; omega
      case rel => exact ⟨(wrap64 (x8_1 + 1)), (by first | rfl | (simp; done) | (simp [*]; done)), H', ⟨by have := HK1.out; omega⟩, ⟨PK BK1⟩, ⟨PB⟩⟩
    ·rw [if_neg c4] at H
     exact absurd H (by simp)
   ·rw [if_neg c3] at H
    have c3b0 : decide (x8_1 < (l0.length : Int)) = false := decide_eq_false c3
    clear c3
    obtain rfl := Option.some.inj H
    clear H
    go_wp2
    go_ret
    exact ⟨RT, PB⟩
set_option maxHeartbeats 8000000 in
set_option maxRecDepth 100000 in
theorem impl_hasCapture_in.calls (k : Nat) (A0 : Option Addr) (c0 : Nat) (l0 : List (S45)) (g : Nat) (a1_0 : Int) (a1_1 : Int) (a1_2 : Int) (a1_3 : Int) (a1_4 : Int) (A1_5 : Option Addr) (c1_5 : Nat) (l1_5 : List Int) (a1_6 : Int) (a1_7 : Int) (a1_8 : Int) (t : Int) (w : World) (hr0 : Kd.C k45 w A0 l0.length l0) (hc0 : l0.length ≤ c0) (hr1_5 : Kd.C (Kd.int .i64) w A1_5 l1_5.length l1_5) (hc1_5 : l1_5.length ≤ c1_5) (hbk : w.heap[g]? = some (.cells #[.int .i64 a1_0, .int .i64 a1_1, .int .i64 a1_2, .int .i64 a1_3, .int .i64 a1_4, .slice A1_5 l1_5.length c1_5, .int .i64 a1_6, .int .i64 a1_7, .int .i64 a1_8] 45 (0, 0))) (h : impl_hasCapture_at.l0 a1_0 a1_1 a1_2 a1_3 a1_4 l1_5 a1_6 a1_7 a1_8 k l0 (l0.length : Int) 0 = some t) :
  Calls Try.prog 31 #[.slice A0 l0.length c0, .func (.func 32) #[] #[.pointer (some ⟨g, 0, none⟩)]] w fun e w' => e = .returned (.bool (decide (t ≥ 0))) ∧ Below w.heap.size w w' := by
 have HR0 := Aside0.mk hr0
 have HC0 := Aside0.mk hc0
 have HR1_5 := Aside0.mk hr1_5
 have HC1_5 := Aside0.mk hc1_5
 have BK1 := Aside0.mk hbk
 have A3 := Aside0.mk h
 clear hr0 hc0 hr1_5 hc1_5 hbk h
 have HB := ak (Below.refl w.heap.size w)
 go_enter Try.func31, Try.ntmps31
 go_wp2_with (first | ((with_reducible refine gate_callee (f := 45) rfl ?_); refine goesL_ (some 7) rfl rfl Try.func45 KR rfl #[.slice A0 l0.length c0, .func (.func 32) #[] #[.pointer (some ⟨g, 0, none⟩)]] rfl AR ?_; (with_reducible refine (impl_hasCapture_at.calls k _ _ l0 g a1_0 a1_1 a1_2 a1_3 a1_4 A1_5 c1_5 l1_5 a1_6 a1_7 a1_8 t _ ?side1 ?side2 ?side3 ?side4 ?side5 A3.out).mono ?_); (case side1 => exact CR (HR0.out)); (case side2 => exact HC0.out); (case side3 => exact CR (HR1_5.out)); (case side4 => exact HC1_5.out); (case side5 => exact (PF BK1)); rintro e w4 ⟨rfl, hb⟩; refine ⟨_, rfl, ?_⟩; replace HB := bs HB hb; (try clear hb); (try clear hb2); (try clear hk); (try clear hi)))
 go_ret
 exact ⟨RT, PB⟩
def impl_hasCapture.f (k : Nat) (l0 : List (S45)) (a1_0 : Int) (a1_1 : Int) (a1_2 : Int) (a1_3 : Int) (a1_4 : Int) (l1_5 : List Int) (a1_6 : Int) (a1_7 : Int) (a1_8 : Int) : Option (Bool) := (impl_hasCapture_at.l0 a1_0 a1_1 a1_2 a1_3 a1_4 l1_5 a1_6 a1_7 a1_8 k l0 (l0.length : Int) 0).bind fun t => some (decide (t ≥ 0))
set_option maxHeartbeats 8000000 in
set_option maxRecDepth 100000 in
theorem impl_hasCapture.calls (k : Nat) (A0 : Option Addr) (c0 : Nat) (l0 : List (S45)) (a1_0 : Int) (a1_1 : Int) (a1_2 : Int) (a1_3 : Int) (a1_4 : Int) (A1_5 : Option Addr) (c1_5 : Nat) (l1_5 : List Int) (a1_6 : Int) (a1_7 : Int) (a1_8 : Int) (r : Bool) (w : World) (hr0 : Kd.C k45 w A0 l0.length l0) (hc0 : l0.length ≤ c0) (hr1_5 : Kd.C (Kd.int .i64) w A1_5 l1_5.length l1_5) (hc1_5 : l1_5.length ≤ c1_5) (h : impl_hasCapture.f k l0 a1_0 a1_1 a1_2 a1_3 a1_4 l1_5 a1_6 a1_7 a1_8 = some r) :
  Calls Try.prog 17 #[.slice A0 l0.length c0, .agg #[.int .i64 a1_0, .int .i64 a1_1, .int .i64 a1_2, .int .i64 a1_3, .int .i64 a1_4, .slice A1_5 l1_5.length c1_5, .int .i64 a1_6, .int .i64 a1_7, .int .i64 a1_8]] w fun e w' => e = .returned (.bool r) ∧ Below w.heap.size w w' := by
 have hu45 := Try.underlying45
 have HR0 := Aside0.mk hr0
 have HC0 := Aside0.mk hc0
 have HR1_5 := Aside0.mk hr1_5
 have HC1_5 := Aside0.mk hc1_5
 clear hr0 hc0 hr1_5 hc1_5
 have HB := ak (Below.refl w.heap.size w)
 have H : ((impl_hasCapture_at.l0 a1_0 a1_1 a1_2 a1_3 a1_4 l1_5 a1_6 a1_7 a1_8 k l0 (l0.length : Int) 0).bind fun t => some (decide (t ≥ 0))) = some r := h
 clear h
 replace H := Option.bind_eq_some_iff.mp H
 obtain ⟨t, A30, H⟩ := H
 have A3 := Aside0.mk A30
 clear A30
 obtain rfl := Option.some.inj H
 clear H
 go_enter Try.func17, Try.ntmps17
 go_wp2_with (first | ((with_reducible refine gate_dst (N := 3) rfl ?_); refine bx_ (N := 3) #[.int .i64 a1_0, .int .i64 a1_1, .int .i64 a1_2, .int .i64 a1_3, .int .i64 a1_4, .slice A1_5 l1_5.length c1_5, .int .i64 a1_6, .int .i64 a1_7, .int .i64 a1_8] 45 ?_; intro gb1 hg w4 hbox hb; have BK1 := ak hbox; replace HB := bs HB hb; clear hb hbox hg) | ((with_reducible refine gate_callee (f := 31) rfl ?_); refine goesL_ (some 7) rfl rfl Try.func31 KR rfl #[.slice A0 l0.length c0, .func (.func 32) #[] #[.pointer (some ⟨gb1, 0, none⟩)]] rfl AR ?_; (with_reducible refine (impl_hasCapture_in.calls k _ _ l0 gb1 a1_0 a1_1 a1_2 a1_3 a1_4 A1_5 c1_5 l1_5 a1_6 a1_7 a1_8 t _ ?side1 ?side2 ?side3 ?side4 ?side5 A3.out).mono ?_); (case side1 => exact CR (Kd.C_below HR0.out HB.out)); (case side2 => exact HC0.out); (case side3 => exact CR (Kd.C_below HR1_5.out HB.out)); (case side4 => exact HC1_5.out); (case side5 => exact (PF BK1)); rintro e w6 ⟨rfl, hb⟩; refine ⟨_, rfl, ?_⟩; replace HB := bs HB hb; (try clear hb); (try clear hb2); (try clear hk); (try clear hi)))
 go_ret
 exact ⟨RT, PB⟩

/-! ### impl_InRange: function 37 -/
def impl_InRange.f (a0 : Int) (a1 : Int) (a2 : Int) : Option (Bool) := if a1 ≤ a0 then (some (decide (a0 ≤ a2))) else (some false)
set_option maxHeartbeats 8000000 in
set_option maxRecDepth 100000 in
theorem impl_InRange.calls (a0 : Int) (a1 : Int) (a2 : Int) (r : Bool) (w : World) (h : impl_InRange.f a0 a1 a2 = some r) :
  Calls Try.prog 37 #[.int .i64 a0, .int .i64 a1, .int .i64 a2] w fun e w' => e = .returned (.bool r) ∧ Drawn0 w w' := by
 have H : (if a1 ≤ a0 then (some (decide (a0 ≤ a2))) else (some false)) = some r := h
 clear h
 by_cases c4 : a1 ≤ a0
 ·rw [if_pos c4] at H
  have c4b0 : decide (a1 ≤ a0) = true := decide_eq_true c4
  clear c4
  obtain rfl := Option.some.inj H
  go_enter Try.func37, Try.ntmps37
  go_wp2
  go_ret
  exact ⟨by first | rfl | (simp; done) | (simp [*]; done), by repeat (first | exact Drawn0.refl _ | apply Drawn0.step)⟩
 ·rw [if_neg c4] at H
  have c4b0 : decide (a1 ≤ a0) = false := decide_eq_false c4
  clear c4
  obtain rfl := Option.some.inj H
  go_enter Try.func37, Try.ntmps37
  go_wp2
  go_ret
  exact ⟨by first | rfl | (simp; done) | (simp [*]; done), by repeat (first | exact Drawn0.refl _ | apply Drawn0.step)⟩

end Go.Proofs.Ytmcfdpodoebokaa.MFnExactAddCaptures
