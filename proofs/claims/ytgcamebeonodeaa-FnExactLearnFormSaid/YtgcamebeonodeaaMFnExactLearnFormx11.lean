-- Written by a program of this session out of the translation's own print. Not trusted: Lean checks it.
import Derived.Test.YtgcamebeonodeaaShr2
import Derived.Test.YtgcamebeonodeaaMFnExactLearnFormx0
import Derived.Test.YtgcamebeonodeaaMFnExactLearnFormx2
import Derived.Test.YtgcamebeonodeaaMFnExactLearnFormx5
import Derived.Test.YtgcamebeonodeaaMFnExactLearnFormx6
import Derived.Test.YtgcamebeonodeaaMFnExactLearnFormx8
import Derived.Test.YtgcamebeonodeaaMFnExactLearnFormx9
import Derived.Test.YtgcamebeonodeaaMFnExactLearnFormx10
namespace Go.Proofs.Ytgcamebeonodeaa.MFnExactLearnForm
open Go.RowKit Go.Proofs.YtgcamebeonodeaaW.PrintWords Go.Proofs.YtgcamebeonodeaaW.PrintLast Go.Proofs.YtgcamebeonodeaaW.PrintMore
attribute [local go_sem] max2_int min2_int max_two min_two max_three min_three max_four min_four   -- for this text's walks alone
set_option linter.unusedVariables false
set_option linter.unusedSimpArgs false

abbrev b11_1 : Array Bool := #[true, true, true, true, true, true, false]
abbrev b11_2 : Array Bool := #[true, true, true, true, false, true, false]
abbrev b11_4 : Array Bool := #[true, true, true, false, false, true, false]
/-! ### laws_FnExactLearnForm: function 7 -/
def laws_FnExactLearnForm.f (k : Nat) (l0 : List (S143)) (a1_0 : Int) (a1_1 : Int) (a1_2 : Int) : Option (Bool) := (laws_szCaptureS.f k l0 1048576).bind fun t290 => (if t290 < 0 then (some true) else ((laws_toCaptureS.f k l0).bind fun t291 => ((laws_toAddress.f a1_0 a1_1 a1_2).bind fun bt294 => ((spec_LearnForm.f k t291 bt294.1 bt294.2.1 bt294.2.2).bind fun bt297 => ((laws_toCaptureS.f k l0).bind fun t302 => ((laws_toAddress.f a1_0 a1_1 a1_2).bind fun bt305 => ((impl_LearnForm.f k t302 bt305.1 bt305.2.1 bt305.2.2).bind fun bt308 => ((laws_eqModel.f bt308.1 bt308.2.1 bt308.2.2.1 bt308.2.2.2 bt297.1 bt297.2.1 bt297.2.2.1 bt297.2.2.2).bind fun t313 => (if t313 = true then ((laws_toCaptureS.f k l0).bind fun t314 => ((laws_eqCaptureS.f k t302 t314).bind fun t317 => (if t317 = true then (some true) else (some false)))) else (some false))))))))))
set_option maxHeartbeats 8000000 in
set_option maxRecDepth 100000 in
theorem laws_FnExactLearnForm.calls (k : Nat) (A0 : Option Addr) (c0 : Nat) (l0 : List (S143)) (a1_0 : Int) (a1_1 : Int) (a1_2 : Int) (r : Bool) (w : World) (hr0 : Kd.C k143 w A0 l0.length l0) (hc0 : l0.length ≤ c0) (hT_ : r = true) (h : laws_FnExactLearnForm.f k l0 a1_0 a1_1 a1_2 = some r) :
  Calls Try.prog 7 #[.slice A0 l0.length c0, .agg #[.int .i64 a1_0, .int .i64 a1_1, .int .i64 a1_2]] w fun e w' => e = .returned (.bool r) ∧ Below w.heap.size w w' := by
 have hu82 := Try.underlying82
 have hu85 := Try.underlying85
 have HR0 := Aside0.mk hr0
 have HC0 := Aside0.mk hc0
 clear hr0 hc0
 have HB := ak (Below.refl w.heap.size w)
 have H : ((laws_szCaptureS.f k l0 1048576).bind fun t290 => (if t290 < 0 then (some true) else ((laws_toCaptureS.f k l0).bind fun t291 => ((laws_toAddress.f a1_0 a1_1 a1_2).bind fun bt294 => ((spec_LearnForm.f k t291 bt294.1 bt294.2.1 bt294.2.2).bind fun bt297 => ((laws_toCaptureS.f k l0).bind fun t302 => ((laws_toAddress.f a1_0 a1_1 a1_2).bind fun bt305 => ((impl_LearnForm.f k t302 bt305.1 bt305.2.1 bt305.2.2).bind fun bt308 => ((laws_eqModel.f bt308.1 bt308.2.1 bt308.2.2.1 bt308.2.2.2 bt297.1 bt297.2.1 bt297.2.2.1 bt297.2.2.2).bind fun t313 => (if t313 = true then ((laws_toCaptureS.f k l0).bind fun t314 => ((laws_eqCaptureS.f k t302 t314).bind fun t317 => (if t317 = true then (some true) else (some false)))) else (some false))))))))))) = some r := h
 clear h
 replace H := Option.bind_eq_some_iff.mp H
 obtain ⟨t290, A30, H⟩ := H
 replace H : (if t290 < 0 then (some true) else ((laws_toCaptureS.f k l0).bind fun t291 => ((laws_toAddress.f a1_0 a1_1 a1_2).bind fun bt294 => ((spec_LearnForm.f k t291 bt294.1 bt294.2.1 bt294.2.2).bind fun bt297 => ((laws_toCaptureS.f k l0).bind fun t302 => ((laws_toAddress.f a1_0 a1_1 a1_2).bind fun bt305 => ((impl_LearnForm.f k t302 bt305.1 bt305.2.1 bt305.2.2).bind fun bt308 => ((laws_eqModel.f bt308.1 bt308.2.1 bt308.2.2.1 bt308.2.2.2 bt297.1 bt297.2.1 bt297.2.2.1 bt297.2.2.2).bind fun t313 => (if t313 = true then ((laws_toCaptureS.f k l0).bind fun t314 => ((laws_eqCaptureS.f k t302 t314).bind fun t317 => (if t317 = true then (some true) else (some false)))) else (some false)))))))))) = some r := H
 have A3 := Aside0.mk A30
 clear A30
 by_cases c4 : t290 < 0
 ·rw [if_pos c4] at H
  have c4b0 : decide (t290 < 0) = true := decide_eq_true c4
  clear c4
  obtain rfl := Option.some.inj H
  go_enter Try.func7, Try.ntmps7
  go_wp2_with (first | ((with_reducible refine gate_dst (N := 3) rfl ?_); refine bx_ (N := 3) #[.int .i64 a1_0, .int .i64 a1_1, .int .i64 a1_2] 82 ?_; intro gb289 hg w5 hbox hb; have BK289 := ak hbox; have GW289 := gy hg HB; have GE289 := gy hg HB; replace HB := bs HB hb; clear hb hbox hg) | ((with_reducible refine gate_callee (f := 47) rfl ?_); refine goesL_ (some 11) rfl rfl Try.func47 KR rfl #[.slice A0 l0.length c0, .int .i64 1048576] rfl AR ?_; (with_reducible refine (laws_szCaptureS.calls k _ _ l0 1048576 t290 _ ?side1 ?side2 A3.out).mono ?_); (case side1 => exact CR (Kd.C_below HR0.out HB.out)); (case side2 => exact HC0.out); rintro e w6 ⟨rfl, hb⟩; refine ⟨_, rfl, ?_⟩; replace BK289 := kf BK289 hb; replace HB := bs HB hb; (try clear hb); (try clear hb2); (try clear hk); (try clear hi)))
  go_ret
  exact ⟨RT, PB⟩
 ·rw [if_neg c4] at H
  have c4b0 : decide (t290 < 0) = false := decide_eq_false c4
  clear c4
  replace H := Option.bind_eq_some_iff.mp H
  obtain ⟨t291, A70, H⟩ := H
  replace H : ((laws_toAddress.f a1_0 a1_1 a1_2).bind fun bt294 => ((spec_LearnForm.f k t291 bt294.1 bt294.2.1 bt294.2.2).bind fun bt297 => ((laws_toCaptureS.f k l0).bind fun t302 => ((laws_toAddress.f a1_0 a1_1 a1_2).bind fun bt305 => ((impl_LearnForm.f k t302 bt305.1 bt305.2.1 bt305.2.2).bind fun bt308 => ((laws_eqModel.f bt308.1 bt308.2.1 bt308.2.2.1 bt308.2.2.2 bt297.1 bt297.2.1 bt297.2.2.1 bt297.2.2.2).bind fun t313 => (if t313 = true then ((laws_toCaptureS.f k l0).bind fun t314 => ((laws_eqCaptureS.f k t302 t314).bind fun t317 => (if t317 = true then (some true) else (some false)))) else (some false)))))))) = some r := H
  have A7 := Aside0.mk A70
  clear A70
  replace H := Option.bind_eq_some_iff.mp H
  obtain ⟨⟨t294, t295, t296⟩, A80, H⟩ := H
  replace H : ((spec_LearnForm.f k t291 t294 t295 t296).bind fun bt297 => ((laws_toCaptureS.f k l0).bind fun t302 => ((laws_toAddress.f a1_0 a1_1 a1_2).bind fun bt305 => ((impl_LearnForm.f k t302 bt305.1 bt305.2.1 bt305.2.2).bind fun bt308 => ((laws_eqModel.f bt308.1 bt308.2.1 bt308.2.2.1 bt308.2.2.2 bt297.1 bt297.2.1 bt297.2.2.1 bt297.2.2.2).bind fun t313 => (if t313 = true then ((laws_toCaptureS.f k l0).bind fun t314 => ((laws_eqCaptureS.f k t302 t314).bind fun t317 => (if t317 = true then (some true) else (some false)))) else (some false))))))) = some r := H
  have A8 := Aside0.mk A80
  clear A80
  replace H := Option.bind_eq_some_iff.mp H
  obtain ⟨⟨t297, t298, t299, t300⟩, A90, H⟩ := H
  replace H : ((laws_toCaptureS.f k l0).bind fun t302 => ((laws_toAddress.f a1_0 a1_1 a1_2).bind fun bt305 => ((impl_LearnForm.f k t302 bt305.1 bt305.2.1 bt305.2.2).bind fun bt308 => ((laws_eqModel.f bt308.1 bt308.2.1 bt308.2.2.1 bt308.2.2.2 t297 t298 t299 t300).bind fun t313 => (if t313 = true then ((laws_toCaptureS.f k l0).bind fun t314 => ((laws_eqCaptureS.f k t302 t314).bind fun t317 => (if t317 = true then (some true) else (some false)))) else (some false)))))) = some r := H
  have A9 := Aside0.mk A90
  clear A90
  replace H := Option.bind_eq_some_iff.mp H
  obtain ⟨t302, A100, H⟩ := H
  replace H : ((laws_toAddress.f a1_0 a1_1 a1_2).bind fun bt305 => ((impl_LearnForm.f k t302 bt305.1 bt305.2.1 bt305.2.2).bind fun bt308 => ((laws_eqModel.f bt308.1 bt308.2.1 bt308.2.2.1 bt308.2.2.2 t297 t298 t299 t300).bind fun t313 => (if t313 = true then ((laws_toCaptureS.f k l0).bind fun t314 => ((laws_eqCaptureS.f k t302 t314).bind fun t317 => (if t317 = true then (some true) else (some false)))) else (some false))))) = some r := H
  have A10 := Aside0.mk A100
  clear A100
  replace H := Option.bind_eq_some_iff.mp H
  obtain ⟨⟨t305, t306, t307⟩, A110, H⟩ := H
  replace H : ((impl_LearnForm.f k t302 t305 t306 t307).bind fun bt308 => ((laws_eqModel.f bt308.1 bt308.2.1 bt308.2.2.1 bt308.2.2.2 t297 t298 t299 t300).bind fun t313 => (if t313 = true then ((laws_toCaptureS.f k l0).bind fun t314 => ((laws_eqCaptureS.f k t302 t314).bind fun t317 => (if t317 = true then (some true) else (some false)))) else (some false)))) = some r := H
  have A11 := Aside0.mk A110
  clear A110
  replace H := Option.bind_eq_some_iff.mp H
  obtain ⟨⟨t308, t309, t310, t311⟩, A120, H⟩ := H
  replace H : ((laws_eqModel.f t308 t309 t310 t311 t297 t298 t299 t300).bind fun t313 => (if t313 = true then ((laws_toCaptureS.f k l0).bind fun t314 => ((laws_eqCaptureS.f k t302 t314).bind fun t317 => (if t317 = true then (some true) else (some false)))) else (some false))) = some r := H
  have A12 := Aside0.mk A120
  clear A120
  replace H := Option.bind_eq_some_iff.mp H
  obtain ⟨t313, A130, H⟩ := H
  replace H : (if t313 = true then ((laws_toCaptureS.f k l0).bind fun t314 => ((laws_eqCaptureS.f k t302 t314).bind fun t317 => (if t317 = true then (some true) else (some false)))) else (some false)) = some r := H
  have A13 := Aside0.mk A130
  clear A130
  by_cases c14 : t313 = true
  ·subst c14
   have H1 : ((laws_toCaptureS.f k l0).bind fun t314 => ((laws_eqCaptureS.f k t302 t314).bind fun t317 => (if t317 = true then (some true) else (some false)))) = some r := by rw [if_pos rfl] at H; exact H
   clear H
   have H := H1
   clear H1
   replace H := Option.bind_eq_some_iff.mp H
   obtain ⟨t314, A150, H⟩ := H
   replace H : ((laws_eqCaptureS.f k t302 t314).bind fun t317 => (if t317 = true then (some true) else (some false))) = some r := H
   have A15 := Aside0.mk A150
   clear A150
   replace H := Option.bind_eq_some_iff.mp H
   obtain ⟨t317, A160, H⟩ := H
   replace H : (if t317 = true then (some true) else (some false)) = some r := H
   have A16 := Aside0.mk A160
   clear A160
   by_cases c17 : t317 = true
   ·subst c17
    have H1 : (some true) = some r := by rw [if_pos rfl] at H; exact H
    clear H
    have H := H1
    clear H1
    obtain rfl := Option.some.inj H
    go_enter Try.func7, Try.ntmps7
    try go_wp2_with (first | ((with_reducible refine gate_dst (N := 3) rfl ?_); refine bx_ (N := 3) #[.int .i64 a1_0, .int .i64 a1_1, .int .i64 a1_2] 82 ?_; intro gb289 hg w18 hbox hb; have BK289 := ak hbox; have GW289 := gy hg HB; have GE289 := gy hg HB; replace HB := bs HB hb; clear hb hbox hg) | ((with_reducible refine gate_callee (f := 47) rfl ?_); refine goesL_ (some 11) rfl rfl Try.func47 KR rfl #[.slice A0 l0.length c0, .int .i64 1048576] rfl AR ?_; (with_reducible refine (laws_szCaptureS.calls k _ _ l0 1048576 t290 _ ?side1 ?side2 A3.out).mono ?_); (case side1 => exact CR (Kd.C_below HR0.out HB.out)); (case side2 => exact HC0.out); rintro e w19 ⟨rfl, hb⟩; refine ⟨_, rfl, ?_⟩; replace BK289 := kf BK289 hb; replace HB := bs HB hb; (try clear hb); (try clear hb2); (try clear hk); (try clear hi)))
    replace BK289 := ak (blk_drew BK289.out)
    replace HB := ak (below_drew1 HB.out)
    refine start_ (n := 7) (S := fun w' => w'.cell? ⟨gb289, 0, none⟩ = some (.int .i64 a1_0) ∧ w'.cell? ⟨gb289, 1, none⟩ = some (.int .i64 a1_1) ∧ w'.cell? ⟨gb289, 2, none⟩ = some (.int .i64 a1_2)) (ds := []) #[false, false, false, false, false, false, false] KR rfl rfl ⟨(blk_cell BK289.out 0).trans rfl, (blk_cell BK289.out 1).trans rfl, (blk_cell BK289.out 2).trans rfl⟩ (fun hHeld => ?_)
    generalize w19.drew = w20 at BK289 HB hHeld ⊢
    refine pure_ (i := 0) (N := some 14) (v := ?_) (a' := ?_) #[true, false, false, false, false, false, false] rfl rfl KR (fun _ _ _ h => h) (Or.inl ⟨by rfl, ?_⟩) ?_ ?_
    rotate_left
    ·intro w'
     go_simp
     with_reducible rfl
    rotate_left
    ·simp only [Act.put, List.setIfInBounds_toArray, List.set_cons_zero, List.set_cons_succ, i64_w, i32_w]
     rfl
    refine take_ (i := 2) (N := some 16) (v := ?_) (a' := ?_) #[true, false, true, false, false, false, false] rfl rfl KR (fun _ _ _ h => h) (Or.inl ⟨by rfl, ?_⟩) hHeld ?_ ?_
    rotate_left
    ·rintro w' ⟨s0, s1, s2⟩
     go_simp
     with_reducible rfl
    rotate_left
    ·simp only [Act.put, List.setIfInBounds_toArray, List.set_cons_zero, List.set_cons_succ, i64_w, i32_w]
     rfl
    refine join_ (σ := Value × Nat) 1 b11_1 (fun s_ => [(15, s_.1), (17, .agg #[.int .i64 t294, .int .i64 t295, .int .i64 t296]), (18, .agg #[.int .i64 t297, .int .i64 t298, .int .i64 t299, .bool t300]), (6, .pointer (some ⟨s_.2, 0, none⟩))]) (fun s_ w' => (w'.cell? ⟨gb289, 0, none⟩ = some (.int .i64 a1_0) ∧ w'.cell? ⟨gb289, 1, none⟩ = some (.int .i64 a1_1) ∧ w'.cell? ⟨gb289, 2, none⟩ = some (.int .i64 a1_2)) ∧ (Kd.S k40 40 w' w.heap.size (fun _ => True) s_.1 t291) ∧ (w'.heap[gb289]? = some (.cells #[.int .i64 a1_0, .int .i64 a1_1, .int .i64 a1_2] 82 (0, 0))) ∧ (w'.heap[s_.2]? = some (.cells #[.int .i64 0, .int .i64 0, .int .i64 0, .bool false] 85 (0, 0))) ∧ (w.heap.size ≤ s_.2) ∧ (w.heap.size ≤ s_.2) ∧ (gb289 ≠ s_.2) ∧ (s_.2 ≠ gb289) ∧ (Below w.heap.size w w')) ?_ ?_
    rotate_left
    ·intro hCont
     refine two_ (i := 1) (j := 5) (Ni := some 15) (Nj := some 6) #[true, true, true, false, false, false, false] #[true, false, true, false, false, true, false] rfl rfl rfl rfl KR (by decide) (by decide) (fun K hK => ?_) (fun K hK => ?_)
     ·skip
      refine goes_ Try.func49 KR rfl #[.slice A0 l0.length c0] (by rfl) rfl rfl AR ?_
      with_reducible refine (laws_toCaptureS.calls k _ _ l0 t291 _ ?side1 ?side2 A7.out).mono ?_
      (case side1 => exact CR (Kd.C_below HR0.out HB.out))
      (case side2 => exact HC0.out)
      rintro e w21 ⟨v292, rfl, ho0, hb⟩
      refine ⟨_, rfl, ?_⟩
      have HO293 := ak (Kd.S_lower ho0 (below_size PB))
      replace BK289 := kf BK289 hb
      replace HB := bs HB hb
      (try clear hb)
      (try clear hb2)
      (try clear hk)
      (try clear hi)
      (try clear ho0)
      refine hK.out _ _ ⟨(blk_cell BK289.out 0).trans rfl, (blk_cell BK289.out 1).trans rfl, (blk_cell BK289.out 2).trans rfl⟩ (fun hHeld => ?_)
      clear hK K
      refine norm_ (a' := ?_) ?_ ?_
      rotate_left
      ·show Act.put _ (some 15) _ = _
       simp only [Act.put, List.setIfInBounds_toArray, List.set_cons_zero, List.set_cons_succ, i64_w, i32_w]
       rfl
      refine two_ (i := 3) (j := 5) (Ni := some 17) (Nj := some 6) #[true, true, true, true, false, false, false] b11_4 rfl rfl rfl rfl KR (by decide) (by decide) (fun K hK => ?_) (fun K hK => ?_)
      ·skip
       refine goes_ Try.func50 KR rfl #[.agg #[.int .i64 a1_0, .int .i64 a1_1, .int .i64 a1_2]] (by rfl) rfl rfl AR ?_
       with_reducible refine (laws_toAddress.calls a1_0 a1_1 a1_2 t294 t295 t296 _ A8.out).mono ?_
       rintro e w22 ⟨rfl, hb⟩
       refine ⟨_, rfl, ?_⟩
       replace HO293 := Sb HO293 hb
       replace BK289 := kf BK289 hb
       replace HB := bs HB hb
       (try clear hb)
       (try clear hb2)
       (try clear hk)
       (try clear hi)
       obtain ⟨Ao23, co23, eo23⟩ := Kd.S_slice HO293.out
       (first | subst eo23 | (injection eo23 with f1_ f2_ f3_; have f4_ := f1_.symm; have f5_ := f3_.symm; clear f1_ f2_ f3_; subst f4_; subst f5_))
       refine hK.out _ _ ⟨(blk_cell BK289.out 0).trans rfl, (blk_cell BK289.out 1).trans rfl, (blk_cell BK289.out 2).trans rfl⟩ (fun hHeld => ?_)
       clear hK K
       refine norm_ (a' := ?_) ?_ ?_
       rotate_left
       ·show Act.put _ (some 17) _ = _
        simp only [Act.put, List.setIfInBounds_toArray, List.set_cons_zero, List.set_cons_succ, i64_w, i32_w]
        rfl
       refine two_ (i := 4) (j := 5) (Ni := some 18) (Nj := some 6) #[true, true, true, true, true, false, false] b11_2 rfl rfl rfl rfl KR (by decide) (by decide) (fun K hK => ?_) (fun K hK => ?_)
       ·skip
        refine goes_ Try.func48 KR rfl #[.slice Ao23 t291.length co23, .agg #[.int .i64 t294, .int .i64 t295, .int .i64 t296]] (by rfl) rfl rfl AR ?_
        with_reducible refine (spec_LearnForm.calls k (fun k_ => (True ∧ k_ ≠ gb289)) _ _ t291 t294 t295 t296 t297 t298 t299 t300 _ ?side1 A9.out).mono ?_
        (case side1 => exact Kd.S_V (Kd.S_types (HO293.out) BK289.out (by decide)))
        rintro e w24 ⟨rfl, hb⟩
        refine ⟨_, rfl, ?_⟩
        replace HO293 := Sb HO293 hb
        replace BK289 := kf BK289 hb
        replace HB := bs HB hb
        (try clear hb)
        (try clear hb2)
        (try clear hk)
        (try clear hi)
        refine hK.out _ _ ⟨(blk_cell BK289.out 0).trans rfl, (blk_cell BK289.out 1).trans rfl, (blk_cell BK289.out 2).trans rfl⟩ (fun hHeld => ?_)
        clear hK K
        refine norm_ (a' := ?_) ?_ ?_
        rotate_left
        ·show Act.put _ (some 18) _ = _
         simp only [Act.put, List.setIfInBounds_toArray, List.set_cons_zero, List.set_cons_succ, i64_w, i32_w]
         rfl
        refine one_ (i := 5) (N := some 6) b11_1 rfl rfl KR (by decide) (fun K hK => ?_)
        refine box_step ?hg (N := 6) ?hd (cs := #[.int .i64 0, .int .i64 0, .int .i64 0, .bool false]) (t := 85) ?hr ?_; (case hd => rfl); (case hg => rfl); (case hr => first | (go_simp; done) | (go_simp; rfl))
        intro gb301 hg w25 hbox hb
        replace HO293 := Sb HO293 hb
        have BK301 := ak hbox
        have GW301 := gy hg HB
        have GE301 := gy hg HB
        replace HB := bs HB hb
        have NB289_301 := gm hg BK289
        have NB301_289 := gn hg BK289
        replace BK289 := kf BK289 hb
        clear hb hbox hg
        refine hK.out _ _ ⟨(blk_cell BK289.out 0).trans rfl, (blk_cell BK289.out 1).trans rfl, (blk_cell BK289.out 2).trans rfl⟩ (fun hHeld => ?_)
        clear hK K
        refine norm_ (a' := ?_) ?_ ?_
        rotate_left
        ·show Act.put _ (some 6) _ = _
         simp only [Act.put, List.setIfInBounds_toArray, List.set_cons_zero, List.set_cons_succ, i64_w, i32_w]
         rfl
        exact norm_ (by simp only [putAll, Act.put, List.setIfInBounds_toArray, List.set_cons_zero, List.set_cons_succ]) (hCont (.slice Ao23 t291.length co23, gb301) _ ⟨hHeld, (PS HO293), (PK BK289), (PK BK301), GW301.out, GE301.out, NB289_301.out, NB301_289.out, PB⟩)
       ·skip
        refine box_step ?hg (N := 6) ?hd (cs := #[.int .i64 0, .int .i64 0, .int .i64 0, .bool false]) (t := 85) ?hr ?_; (case hd => rfl); (case hg => rfl); (case hr => first | (go_simp; done) | (go_simp; rfl))
        intro gb301 hg w23 hbox hb
        replace HO293 := Sb HO293 hb
        have BK301 := ak hbox
        have GW301 := gy hg HB
        have GE301 := gy hg HB
        replace HB := bs HB hb
        have NB289_301 := gm hg BK289
        have NB301_289 := gn hg BK289
        replace BK289 := kf BK289 hb
        clear hb hbox hg
        obtain ⟨Ao24, co24, eo24⟩ := Kd.S_slice HO293.out
        (first | subst eo24 | (injection eo24 with f1_ f2_ f3_; have f4_ := f1_.symm; have f5_ := f3_.symm; clear f1_ f2_ f3_; subst f4_; subst f5_))
        refine hK.out _ _ ⟨(blk_cell BK289.out 0).trans rfl, (blk_cell BK289.out 1).trans rfl, (blk_cell BK289.out 2).trans rfl⟩ (fun hHeld => ?_)
        clear hK K
        refine norm_ (a' := ?_) ?_ ?_
        rotate_left
        ·show Act.put _ (some 6) _ = _
         simp only [Act.put, List.setIfInBounds_toArray, List.set_cons_zero, List.set_cons_succ, i64_w, i32_w]
         rfl
        refine one_ (i := 4) (N := some 18) b11_1 rfl rfl KR (by decide) (fun K hK => ?_)
        refine goes_ Try.func48 KR rfl #[.slice Ao24 t291.length co24, .agg #[.int .i64 t294, .int .i64 t295, .int .i64 t296]] (by rfl) rfl rfl AR ?_
        with_reducible refine (spec_LearnForm.calls k (fun k_ => ((True ∧ k_ ≠ gb289) ∧ k_ ≠ gb301)) _ _ t291 t294 t295 t296 t297 t298 t299 t300 _ ?side1 A9.out).mono ?_
        (case side1 => exact Kd.S_V (Kd.S_types (Kd.S_types (HO293.out) BK289.out (by decide)) BK301.out (by decide)))
        rintro e w25 ⟨rfl, hb⟩
        refine ⟨_, rfl, ?_⟩
        replace HO293 := Sb HO293 hb
        replace BK289 := kf BK289 hb
        replace BK301 := kf BK301 hb
        replace HB := bs HB hb
        (try clear hb)
        (try clear hb2)
        (try clear hk)
        (try clear hi)
        refine hK.out _ _ ⟨(blk_cell BK289.out 0).trans rfl, (blk_cell BK289.out 1).trans rfl, (blk_cell BK289.out 2).trans rfl⟩ (fun hHeld => ?_)
        clear hK K
        refine norm_ (a' := ?_) ?_ ?_
        rotate_left
        ·show Act.put _ (some 18) _ = _
         simp only [Act.put, List.setIfInBounds_toArray, List.set_cons_zero, List.set_cons_succ, i64_w, i32_w]
         rfl
        exact norm_ (by simp only [putAll, Act.put, List.setIfInBounds_toArray, List.set_cons_zero, List.set_cons_succ]) (hCont (.slice Ao24 t291.length co24, gb301) _ ⟨hHeld, (PS HO293), (PK BK289), (PK BK301), GW301.out, GE301.out, NB289_301.out, NB301_289.out, PB⟩)
      ·skip
       refine box_step ?hg (N := 6) ?hd (cs := #[.int .i64 0, .int .i64 0, .int .i64 0, .bool false]) (t := 85) ?hr ?_; (case hd => rfl); (case hg => rfl); (case hr => first | (go_simp; done) | (go_simp; rfl))
       intro gb301 hg w22 hbox hb
       replace HO293 := Sb HO293 hb
       have BK301 := ak hbox
       have GW301 := gy hg HB
       have GE301 := gy hg HB
       replace HB := bs HB hb
       have NB289_301 := gm hg BK289
       have NB301_289 := gn hg BK289
       replace BK289 := kf BK289 hb
       clear hb hbox hg
       refine hK.out _ _ ⟨(blk_cell BK289.out 0).trans rfl, (blk_cell BK289.out 1).trans rfl, (blk_cell BK289.out 2).trans rfl⟩ (fun hHeld => ?_)
       clear hK K
       refine norm_ (a' := ?_) ?_ ?_
       rotate_left
       ·show Act.put _ (some 6) _ = _
        simp only [Act.put, List.setIfInBounds_toArray, List.set_cons_zero, List.set_cons_succ, i64_w, i32_w]
        rfl
       refine one_ (i := 3) (N := some 17) b11_2 rfl rfl KR (by decide) (fun K hK => ?_)
       refine goes_ Try.func50 KR rfl #[.agg #[.int .i64 a1_0, .int .i64 a1_1, .int .i64 a1_2]] (by rfl) rfl rfl AR ?_
       with_reducible refine (laws_toAddress.calls a1_0 a1_1 a1_2 t294 t295 t296 _ A8.out).mono ?_
       rintro e w23 ⟨rfl, hb⟩
       refine ⟨_, rfl, ?_⟩
       replace HO293 := Sb HO293 hb
       replace BK289 := kf BK289 hb
       replace BK301 := kf BK301 hb
       replace HB := bs HB hb
       (try clear hb)
       (try clear hb2)
       (try clear hk)
       (try clear hi)
       obtain ⟨Ao24, co24, eo24⟩ := Kd.S_slice HO293.out
       (first | subst eo24 | (injection eo24 with f1_ f2_ f3_; have f4_ := f1_.symm; have f5_ := f3_.symm; clear f1_ f2_ f3_; subst f4_; subst f5_))
       refine hK.out _ _ ⟨(blk_cell BK289.out 0).trans rfl, (blk_cell BK289.out 1).trans rfl, (blk_cell BK289.out 2).trans rfl⟩ (fun hHeld => ?_)
       clear hK K
       refine norm_ (a' := ?_) ?_ ?_
       rotate_left
       ·show Act.put _ (some 17) _ = _
        simp only [Act.put, List.setIfInBounds_toArray, List.set_cons_zero, List.set_cons_succ, i64_w, i32_w]
        rfl
       refine one_ (i := 4) (N := some 18) b11_1 rfl rfl KR (by decide) (fun K hK => ?_)
       refine goes_ Try.func48 KR rfl #[.slice Ao24 t291.length co24, .agg #[.int .i64 t294, .int .i64 t295, .int .i64 t296]] (by rfl) rfl rfl AR ?_
       with_reducible refine (spec_LearnForm.calls k (fun k_ => ((True ∧ k_ ≠ gb289) ∧ k_ ≠ gb301)) _ _ t291 t294 t295 t296 t297 t298 t299 t300 _ ?side1 A9.out).mono ?_
       (case side1 => exact Kd.S_V (Kd.S_types (Kd.S_types (HO293.out) BK289.out (by decide)) BK301.out (by decide)))
       rintro e w25 ⟨rfl, hb⟩
       refine ⟨_, rfl, ?_⟩
       replace HO293 := Sb HO293 hb
       replace BK289 := kf BK289 hb
       replace BK301 := kf BK301 hb
       replace HB := bs HB hb
       (try clear hb)
       (try clear hb2)
       (try clear hk)
       (try clear hi)
       refine hK.out _ _ ⟨(blk_cell BK289.out 0).trans rfl, (blk_cell BK289.out 1).trans rfl, (blk_cell BK289.out 2).trans rfl⟩ (fun hHeld => ?_)
       clear hK K
       refine norm_ (a' := ?_) ?_ ?_
       rotate_left
       ·show Act.put _ (some 18) _ = _
        simp only [Act.put, List.setIfInBounds_toArray, List.set_cons_zero, List.set_cons_succ, i64_w, i32_w]
        rfl
       exact norm_ (by simp only [putAll, Act.put, List.setIfInBounds_toArray, List.set_cons_zero, List.set_cons_succ]) (hCont (.slice Ao24 t291.length co24, gb301) _ ⟨hHeld, (PS HO293), (PK BK289), (PK BK301), GW301.out, GE301.out, NB289_301.out, NB301_289.out, PB⟩)
     ·skip
      refine box_step ?hg (N := 6) ?hd (cs := #[.int .i64 0, .int .i64 0, .int .i64 0, .bool false]) (t := 85) ?hr ?_; (case hd => rfl); (case hg => rfl); (case hr => first | (go_simp; done) | (go_simp; rfl))
      intro gb301 hg w21 hbox hb
      have BK301 := ak hbox
      have GW301 := gy hg HB
      have GE301 := gy hg HB
      replace HB := bs HB hb
      have NB289_301 := gm hg BK289
      have NB301_289 := gn hg BK289
      replace BK289 := kf BK289 hb
      clear hb hbox hg
      refine hK.out _ _ ⟨(blk_cell BK289.out 0).trans rfl, (blk_cell BK289.out 1).trans rfl, (blk_cell BK289.out 2).trans rfl⟩ (fun hHeld => ?_)
      clear hK K
      refine norm_ (a' := ?_) ?_ ?_
      rotate_left
      ·show Act.put _ (some 6) _ = _
       simp only [Act.put, List.setIfInBounds_toArray, List.set_cons_zero, List.set_cons_succ, i64_w, i32_w]
       rfl
      refine one_ (i := 1) (N := some 15) b11_4 rfl rfl KR (by decide) (fun K hK => ?_)
      refine goes_ Try.func49 KR rfl #[.slice A0 l0.length c0] (by rfl) rfl rfl AR ?_
      with_reducible refine (laws_toCaptureS.calls k _ _ l0 t291 _ ?side1 ?side2 A7.out).mono ?_
      (case side1 => exact CR (Kd.C_below HR0.out HB.out))
      (case side2 => exact HC0.out)
      rintro e w22 ⟨v292, rfl, ho0, hb⟩
      refine ⟨_, rfl, ?_⟩
      have HO293 := ak (Kd.S_lower ho0 (below_size PB))
      replace BK289 := kf BK289 hb
      replace BK301 := kf BK301 hb
      replace HB := bs HB hb
      (try clear hb)
      (try clear hb2)
      (try clear hk)
      (try clear hi)
      (try clear ho0)
      refine hK.out _ _ ⟨(blk_cell BK289.out 0).trans rfl, (blk_cell BK289.out 1).trans rfl, (blk_cell BK289.out 2).trans rfl⟩ (fun hHeld => ?_)
      clear hK K
      refine norm_ (a' := ?_) ?_ ?_
      rotate_left
      ·show Act.put _ (some 15) _ = _
       simp only [Act.put, List.setIfInBounds_toArray, List.set_cons_zero, List.set_cons_succ, i64_w, i32_w]
       rfl
      refine one_ (i := 3) (N := some 17) b11_2 rfl rfl KR (by decide) (fun K hK => ?_)
      refine goes_ Try.func50 KR rfl #[.agg #[.int .i64 a1_0, .int .i64 a1_1, .int .i64 a1_2]] (by rfl) rfl rfl AR ?_
      with_reducible refine (laws_toAddress.calls a1_0 a1_1 a1_2 t294 t295 t296 _ A8.out).mono ?_
      rintro e w23 ⟨rfl, hb⟩
      refine ⟨_, rfl, ?_⟩
      replace HO293 := Sb HO293 hb
      replace BK289 := kf BK289 hb
      replace BK301 := kf BK301 hb
      replace HB := bs HB hb
      (try clear hb)
      (try clear hb2)
      (try clear hk)
      (try clear hi)
      obtain ⟨Ao24, co24, eo24⟩ := Kd.S_slice HO293.out
      (first | subst eo24 | (injection eo24 with f1_ f2_ f3_; have f4_ := f1_.symm; have f5_ := f3_.symm; clear f1_ f2_ f3_; subst f4_; subst f5_))
      refine hK.out _ _ ⟨(blk_cell BK289.out 0).trans rfl, (blk_cell BK289.out 1).trans rfl, (blk_cell BK289.out 2).trans rfl⟩ (fun hHeld => ?_)
      clear hK K
      refine norm_ (a' := ?_) ?_ ?_
      rotate_left
      ·show Act.put _ (some 17) _ = _
       simp only [Act.put, List.setIfInBounds_toArray, List.set_cons_zero, List.set_cons_succ, i64_w, i32_w]
       rfl
      refine one_ (i := 4) (N := some 18) b11_1 rfl rfl KR (by decide) (fun K hK => ?_)
      refine goes_ Try.func48 KR rfl #[.slice Ao24 t291.length co24, .agg #[.int .i64 t294, .int .i64 t295, .int .i64 t296]] (by rfl) rfl rfl AR ?_
      with_reducible refine (spec_LearnForm.calls k (fun k_ => ((True ∧ k_ ≠ gb289) ∧ k_ ≠ gb301)) _ _ t291 t294 t295 t296 t297 t298 t299 t300 _ ?side1 A9.out).mono ?_
      (case side1 => exact Kd.S_V (Kd.S_types (Kd.S_types (HO293.out) BK289.out (by decide)) BK301.out (by decide)))
      rintro e w25 ⟨rfl, hb⟩
      refine ⟨_, rfl, ?_⟩
      replace HO293 := Sb HO293 hb
      replace BK289 := kf BK289 hb
      replace BK301 := kf BK301 hb
      replace HB := bs HB hb
      (try clear hb)
      (try clear hb2)
      (try clear hk)
      (try clear hi)
      refine hK.out _ _ ⟨(blk_cell BK289.out 0).trans rfl, (blk_cell BK289.out 1).trans rfl, (blk_cell BK289.out 2).trans rfl⟩ (fun hHeld => ?_)
      clear hK K
      refine norm_ (a' := ?_) ?_ ?_
      rotate_left
      ·show Act.put _ (some 18) _ = _
       simp only [Act.put, List.setIfInBounds_toArray, List.set_cons_zero, List.set_cons_succ, i64_w, i32_w]
       rfl
      exact norm_ (by simp only [putAll, Act.put, List.setIfInBounds_toArray, List.set_cons_zero, List.set_cons_succ]) (hCont (.slice Ao24 t291.length co24, gb301) _ ⟨hHeld, (PS HO293), (PK BK289), (PK BK301), GW301.out, GE301.out, NB289_301.out, NB301_289.out, PB⟩)
    rintro ⟨v292, gb301⟩ w26 ⟨hS_, h0_, h1_, h2_, h3_, h4_, h5_, h6_, h7_⟩
    have HO293 : Aside0 (Kd.S k40 40 w26 w.heap.size (fun _ => True) v292 t291) := ⟨h0_⟩
    replace BK289 : Aside0 (w26.heap[gb289]? = some (.cells #[.int .i64 a1_0, .int .i64 a1_1, .int .i64 a1_2] 82 (0, 0))) := ⟨h1_⟩
    have BK301 : Aside0 (w26.heap[gb301]? = some (.cells #[.int .i64 0, .int .i64 0, .int .i64 0, .bool false] 85 (0, 0))) := ⟨h2_⟩
    have GW301 : Aside0 (w.heap.size ≤ gb301) := ⟨h3_⟩
    have GE301 : Aside0 (w.heap.size ≤ gb301) := ⟨h4_⟩
    have NB289_301 : Aside0 (gb289 ≠ gb301) := ⟨h5_⟩
    have NB301_289 : Aside0 (gb301 ≠ gb289) := ⟨h6_⟩
    replace HB : Aside0 (Below w.heap.size w w26) := ⟨h7_⟩
    clear h0_ h1_ h2_ h3_ h4_ h5_ h6_ h7_
    have hHeld : w26.cell? ⟨gb289, 0, none⟩ = some (.int .i64 a1_0) ∧ w26.cell? ⟨gb289, 1, none⟩ = some (.int .i64 a1_1) ∧ w26.cell? ⟨gb289, 2, none⟩ = some (.int .i64 a1_2) := hS_
    refine norm_ (a' := ?_) ?_ ?_
    rotate_left
    ·simp only [putAll, Act.put, List.setIfInBounds_toArray, List.set_cons_zero, List.set_cons_succ]
     rfl
    refine one_ (i := 6) (N := none) #[true, true, true, true, true, true, true] rfl rfl KR (by decide) (fun K hK => ?_)
    have hs27 : w26.cell? ⟨gb301, 0, none⟩ = some (.int .i64 0) := (blk_cell BK301.out 0).trans rfl
    have hfs27 := blk_frozen BK301.out 0
    have hns27_0 := NB289_301.out
    have hms27_0 := NB301_289.out
    have hs28 : w26.cell? ⟨gb301, 1, none⟩ = some (.int .i64 0) := (blk_cell BK301.out 1).trans rfl
    have hfs28 := blk_frozen BK301.out 1
    have hns28_0 := NB289_301.out
    have hms28_0 := NB301_289.out
    have hs29 : w26.cell? ⟨gb301, 2, none⟩ = some (.int .i64 0) := (blk_cell BK301.out 2).trans rfl
    have hfs29 := blk_frozen BK301.out 2
    have hns29_0 := NB289_301.out
    have hms29_0 := NB301_289.out
    have hs30 : w26.cell? ⟨gb301, 3, none⟩ = some (.bool false) := (blk_cell BK301.out 3).trans rfl
    have hfs30 := blk_frozen BK301.out 3
    have hns30_0 := NB289_301.out
    have hms30_0 := NB301_289.out
    refine skip_ (w1 := ?_) (by rfl) rfl ?_ ?_
    rotate_left
    ·go_simp
     rfl
    refine hK.out _ _ ⟨((cell_far (p := ⟨gb301, _, none⟩) NB289_301.out _).trans (((cell_far (p := ⟨gb301, _, none⟩) NB289_301.out _).trans (((cell_far (p := ⟨gb301, _, none⟩) NB289_301.out _).trans (((cell_far (p := ⟨gb301, _, none⟩) NB289_301.out _).trans (hHeld.1)))))))), ((cell_far (p := ⟨gb301, _, none⟩) NB289_301.out _).trans (((cell_far (p := ⟨gb301, _, none⟩) NB289_301.out _).trans (((cell_far (p := ⟨gb301, _, none⟩) NB289_301.out _).trans (((cell_far (p := ⟨gb301, _, none⟩) NB289_301.out _).trans (hHeld.2.1)))))))), ((cell_far (p := ⟨gb301, _, none⟩) NB289_301.out _).trans (((cell_far (p := ⟨gb301, _, none⟩) NB289_301.out _).trans (((cell_far (p := ⟨gb301, _, none⟩) NB289_301.out _).trans (((cell_far (p := ⟨gb301, _, none⟩) NB289_301.out _).trans (hHeld.2.2))))))))⟩ (fun hHeld => ?_)
    clear hK K
    refine done_ KR ?_
    try go_wp2_with (first | ((with_reducible refine gate_callee (f := 49) rfl ?_); refine goesL_ (some 20) rfl rfl Try.func49 KR rfl #[.slice A0 l0.length c0] rfl AR ?_; (with_reducible refine (laws_toCaptureS.calls k _ _ l0 t302 _ ?side1 ?side2 A10.out).mono ?_); (case side1 => exact Kd.C_below HR0.out PB); (case side2 => exact HC0.out); rintro e w31 ⟨v303, rfl, ho0, hb⟩; refine ⟨_, rfl, ?_⟩; have HO304 := ak (Kd.S_lower (Kd.S_new' ho0 (Kd.S_lt (Se1 HO293 BK301))) (below_size PB)); replace HO293 := ak (Kd.S_elder' (Se1 HO293 BK301) (Kd.S_base ho0) hb); replace BK289 := kf BK289 hb; replace BK301 := kp (cs' := #[.int .i64 t297, .int .i64 t298, .int .i64 t299, .bool t300]) BK301 hb; replace HB := bs HB hb; (try clear hb); (try clear hb2); (try clear hk); (try clear hi); (try clear ho0); have hnb32 := NB289_301.out; have hnc32 := NB301_289.out; obtain ⟨_, _, _, _, _, _⟩ := bc3 BK289) | ((with_reducible refine gate_callee (f := 50) rfl ?_); refine goesL_ (some 23) rfl rfl Try.func50 KR rfl #[.agg #[.int .i64 a1_0, .int .i64 a1_1, .int .i64 a1_2]] rfl AR ?_; (with_reducible refine (laws_toAddress.calls a1_0 a1_1 a1_2 t305 t306 t307 _ A11.out).mono ?_); rintro e w34 ⟨rfl, hb⟩; refine ⟨_, rfl, ?_⟩; replace HO293 := Sb HO293 hb; replace HO304 := Sb HO304 hb; replace BK289 := kf BK289 hb; replace BK301 := kf BK301 hb; replace HB := bs HB hb; (try clear hb); (try clear hb2); (try clear hk); (try clear hi); obtain ⟨Ao35, co35, eo35⟩ := Kd.S_slice HO304.out; subst eo35) | ((with_reducible refine gate_callee (f := 51) rfl ?_); refine goesL_ (some 24) rfl rfl Try.func51 KR rfl #[.slice Ao35 t302.length co35, .agg #[.int .i64 t305, .int .i64 t306, .int .i64 t307]] rfl AR ?_; (with_reducible refine (impl_LearnForm.calls k (fun k_ => (((True ∧ some k_ ≠ (v292 : Value).ownBlock) ∧ k_ ≠ gb289) ∧ k_ ≠ gb301)) _ _ t302 t305 t306 t307 t308 t309 t310 t311 _ ?side1 A12.out).mono ?_); (case side1 => exact Kd.S_V (Kd.S_types (Kd.S_types (HO304.out) BK289.out (by decide)) BK301.out (by decide))); rintro e w36 ⟨rfl, hb⟩; refine ⟨_, rfl, ?_⟩; replace HO293 := Sb HO293 hb; replace HO304 := Sb HO304 hb; replace BK289 := kf BK289 hb; replace BK301 := kf BK301 hb; replace HB := bs HB hb; (try clear hb); (try clear hb2); (try clear hk); (try clear hi)) | ((with_reducible refine gate_dst (N := 8) rfl ?_); refine bx_ (N := 8) #[.int .i64 0, .int .i64 0, .int .i64 0, .bool false] 85 ?_; intro gb312 hg w37 hbox hb; replace HO293 := Sb HO293 hb; replace HO304 := Sb HO304 hb; have BK312 := ak hbox; have GW312 := gy hg HB; have GE312 := gy hg HB; replace HB := bs HB hb; have NB289_312 := gm hg BK289; have NB312_289 := gn hg BK289; replace BK289 := kf BK289 hb; have NB301_312 := gm hg BK301; have NB312_301 := gn hg BK301; replace BK301 := kf BK301 hb; clear hb hbox hg; have hnb38 := NB312_289.out; have hnc38 := NB289_312.out; have hnb39 := NB312_301.out; have hnc39 := NB301_312.out; obtain ⟨_, _, _, _, _, _, _, _⟩ := bc4 BK312; obtain ⟨_, _, _, _, _, _, _, _⟩ := bc4 BK301) | ((with_reducible refine gate_callee (f := 52) rfl ?_); refine goesL_ (some 27) rfl rfl Try.func52 KR rfl #[.agg #[.int .i64 t308, .int .i64 t309, .int .i64 t310, .bool t311], .agg #[.int .i64 t297, .int .i64 t298, .int .i64 t299, .bool t300]] rfl AR ?_; (with_reducible refine (laws_eqModel.calls t308 t309 t310 t311 t297 t298 t299 t300 true _ rfl A13.out).mono ?_); rintro e w42 ⟨rfl, hb⟩; refine ⟨_, rfl, ?_⟩; replace HO293 := ak (Kd.S_below (Se1 HO293 BK312) hb); replace HO304 := ak (Kd.S_below (Se1 HO304 BK312) hb); replace BK289 := kf BK289 hb; replace BK301 := kf BK301 hb; replace BK312 := kp (cs' := #[.int .i64 t308, .int .i64 t309, .int .i64 t310, .bool t311]) BK312 hb; replace HB := bs HB hb; (try clear hb); (try clear hb2); (try clear hk); (try clear hi)) | ((with_reducible refine gate_callee (f := 49) rfl ?_); refine goesL_ (some 31) rfl rfl Try.func49 KR rfl #[.slice A0 l0.length c0] rfl AR ?_; (with_reducible refine (laws_toCaptureS.calls k _ _ l0 t314 _ ?side1 ?side2 A15.out).mono ?_); (case side1 => exact CR (Kd.C_below HR0.out HB.out)); (case side2 => exact HC0.out); rintro e w43 ⟨v315, rfl, ho0, hb⟩; refine ⟨_, rfl, ?_⟩; have HO316 := ak (Kd.S_lower (Kd.S_new' (Kd.S_new' ho0 (Kd.S_lt (PS HO293))) (Kd.S_lt (PS HO304))) (below_size PB)); replace HO293 := ak (Kd.S_elder' (PS HO293) (Kd.S_base ho0) hb); replace HO304 := ak (Kd.S_elder' (PS HO304) (Kd.S_base ho0) hb); replace BK289 := kf BK289 hb; replace BK301 := kf BK301 hb; replace BK312 := kf BK312 hb; replace HB := bs HB hb; (try clear hb); (try clear hb2); (try clear hk); (try clear hi); (try clear ho0); obtain ⟨Ao44, co44, eo44⟩ := Kd.S_slice HO316.out; subst eo44) | ((with_reducible refine gate_callee (f := 53) rfl ?_); refine goesL_ (some 32) rfl rfl Try.func53 KR rfl #[.slice Ao35 t302.length co35, .slice Ao44 t314.length co44] rfl AR ?_; (with_reducible refine (laws_eqCaptureS.calls k _ _ t302 _ _ t314 true _ ?side1 ?side2 ?side3 ?side4 rfl A16.out).mono ?_); (case side1 => exact CR ((Kd.S_reads' HO304.out).2.2)); (case side2 => exact (Kd.S_reads' HO304.out).2.1); (case side3 => exact CR ((Kd.S_reads' HO316.out).2.2)); (case side4 => exact (Kd.S_reads' HO316.out).2.1); rintro e w45 ⟨rfl, hb⟩; refine ⟨_, rfl, ?_⟩; replace HO293 := Sb HO293 hb; replace HO304 := Sb HO304 hb; replace HO316 := Sb HO316 hb; replace BK289 := kf BK289 hb; replace BK301 := kf BK301 hb; replace BK312 := kf BK312 hb; replace HB := bs HB hb; (try clear hb); (try clear hb2); (try clear hk); (try clear hi)))
    go_ret
    exact ⟨RT, PB⟩
   ·replace c17 := Bool.eq_false_iff.mpr c17
    subst c17
    have H1 : (some false) = some r := by rw [if_neg (show ¬ (false = true) by decide)] at H; exact H
    clear H
    have H := H1
    clear H1
    cases (Option.some.inj H).trans hT_
  ·replace c14 := Bool.eq_false_iff.mpr c14
   subst c14
   have H1 : (some false) = some r := by rw [if_neg (show ¬ (false = true) by decide)] at H; exact H
   clear H
   have H := H1
   clear H1
   cases (Option.some.inj H).trans hT_
end Go.Proofs.Ytgcamebeonodeaa.MFnExactLearnForm

