-- Written by a program of this session out of the translation's own print. Not trusted: Lean checks it.
import Derived.Test.YtgcamebeonodeaaShr2
import Derived.Test.YtgcamebeonodeaaMFnMachinex0
import Derived.Test.YtgcamebeonodeaaMFnMachinex1
import Derived.Test.YtgcamebeonodeaaMFnMachinex2
import Derived.Test.YtgcamebeonodeaaMFnMachinex3
namespace Go.Proofs.Ytgcamebeonodeaa.MFnMachine
open Go.RowKit Go.Proofs.YtgcamebeonodeaaW.PrintWords Go.Proofs.YtgcamebeonodeaaW.PrintLast Go.Proofs.YtgcamebeonodeaaW.PrintMore
attribute [local go_sem] max2_int min2_int max_two min_two max_three min_three max_four min_four   -- for this text's walks alone
set_option linter.unusedVariables false
set_option linter.unusedSimpArgs false

/-! ### spec_l11Any: function 133 -/
def spec_l11Any.f (k : Nat) (s0_0 : List Int) (s0_1 : Int) (s0_2 : Int) (a1 : Int) : Option (Int × List Int × List Int × List Int × Int × Int) := (spec_l11Draw.f k s0_0 s0_1 s0_2 a1).bind fun bt260 => ((spec_l1Below.f s0_0 bt260.2.2.2.2.1 bt260.2.2.2.2.2 10).bind fun bt273 => (if bt273.1 = 0 then ((spec_l1Int.f s0_0 bt273.2.1 bt273.2.2 (([(-1), 19, 20, 9223372036854775807] : List Int))).bind fun bt279 => (some (bt279.1, bt260.2.1, bt260.2.2.1, bt260.2.2.2.1, bt279.2.1, bt279.2.2))) else (if bt273.1 = 1 then ((spec_l1Int.f s0_0 bt273.2.1 bt273.2.2 (([(-1), 999, 1000] : List Int))).bind fun bt285 => (if 0 < (bt260.2.1.length : Int) then (some (bt260.1, (bt260.2.1.set (0 : Int).toNat bt285.1), bt260.2.2.1, bt260.2.2.2.1, bt285.2.1, bt285.2.2)) else (none))) else (if bt273.1 = 2 then (if 2 ≤ (bt260.2.2.1.length : Int) then (some (bt260.1, bt260.2.1, (bt260.2.2.1.take (2 : Int).toNat), bt260.2.2.2.1, bt273.2.1, bt273.2.2)) else (none)) else (if bt273.1 = 3 then (if bt260.2.2.2.1.length < 17592186044416 then (some (bt260.1, bt260.2.1, bt260.2.2.1, (bt260.2.2.2.1 ++ [1]), bt273.2.1, bt273.2.2)) else (none)) else (some (bt260.1, bt260.2.1, bt260.2.2.1, bt260.2.2.2.1, bt273.2.1, bt273.2.2)))))))
set_option maxHeartbeats 8000000 in
set_option maxRecDepth 100000 in
theorem spec_l11Any.calls (k : Nat) (g : Nat) (s0_0 : List Int) (s0_1 : Int) (s0_2 : Int) (a1 : Int) (r1 : Int) (r2 : List Int) (r3 : List Int) (r4 : List Int) (r5 : Int) (r6 : Int) (w0 w : World) (hI : IsS158 w0 w g s0_0 s0_1 s0_2) (hB : Below w0.heap.size w0 w) (h : spec_l11Any.f k s0_0 s0_1 s0_2 a1 = some (r1, r2, r3, r4, r5, r6)) :
  Calls Try.prog 133 #[.pointer (some ⟨g, 0, none⟩), .int .i64 a1] w fun e w' => ∃ v1_ v2_ v3_ : Value, e = .returned (.agg #[.int .i64 r1, v1_, v2_, v3_]) ∧ Kd.R (Kd.int .i64) 3 w' w.heap.size (fun k_ => some k_ ≠ (v2_ : Value).ownBlock ∧ some k_ ≠ (v3_ : Value).ownBlock) v1_ r2 ∧ Kd.R (Kd.int .i64) 3 w' w.heap.size (fun k_ => some k_ ≠ (v1_ : Value).ownBlock ∧ some k_ ≠ (v3_ : Value).ownBlock) v2_ r3 ∧ Kd.R (Kd.int .i64) 3 w' w.heap.size (fun k_ => some k_ ≠ (v1_ : Value).ownBlock ∧ some k_ ≠ (v2_ : Value).ownBlock) v3_ r4 ∧ IsS158 w0 w' g s0_0 r5 r6 ∧ Below w0.heap.size w0 w' ∧ KeepBut w w' g none := by
 have hu45 := Try.underlying45
 have HI0 := Aside0.mk hI
 have HK := ak (KeepBut.refl w g none)
 have HL := Aside0.mk hB.size
 clear hI
 have HW0 := Aside0.mk hB.size
 have HB := Aside0.mk hB
 clear hB
 have H : ((spec_l11Draw.f k s0_0 s0_1 s0_2 a1).bind fun bt260 => ((spec_l1Below.f s0_0 bt260.2.2.2.2.1 bt260.2.2.2.2.2 10).bind fun bt273 => (if bt273.1 = 0 then ((spec_l1Int.f s0_0 bt273.2.1 bt273.2.2 (([(-1), 19, 20, 9223372036854775807] : List Int))).bind fun bt279 => (some (bt279.1, bt260.2.1, bt260.2.2.1, bt260.2.2.2.1, bt279.2.1, bt279.2.2))) else (if bt273.1 = 1 then ((spec_l1Int.f s0_0 bt273.2.1 bt273.2.2 (([(-1), 999, 1000] : List Int))).bind fun bt285 => (if 0 < (bt260.2.1.length : Int) then (some (bt260.1, (bt260.2.1.set (0 : Int).toNat bt285.1), bt260.2.2.1, bt260.2.2.2.1, bt285.2.1, bt285.2.2)) else (none))) else (if bt273.1 = 2 then (if 2 ≤ (bt260.2.2.1.length : Int) then (some (bt260.1, bt260.2.1, (bt260.2.2.1.take (2 : Int).toNat), bt260.2.2.2.1, bt273.2.1, bt273.2.2)) else (none)) else (if bt273.1 = 3 then (if bt260.2.2.2.1.length < 17592186044416 then (some (bt260.1, bt260.2.1, bt260.2.2.1, (bt260.2.2.2.1 ++ [1]), bt273.2.1, bt273.2.2)) else (none)) else (some (bt260.1, bt260.2.1, bt260.2.2.1, bt260.2.2.2.1, bt273.2.1, bt273.2.2)))))))) = some (r1, r2, r3, r4, r5, r6) := h
 clear h
 replace H := Option.bind_eq_some_iff.mp H
 obtain ⟨⟨t260, t261, t264, t267, t270, t271⟩, A30, H⟩ := H
 replace H : ((spec_l1Below.f s0_0 t270 t271 10).bind fun bt273 => (if bt273.1 = 0 then ((spec_l1Int.f s0_0 bt273.2.1 bt273.2.2 (([(-1), 19, 20, 9223372036854775807] : List Int))).bind fun bt279 => (some (bt279.1, t261, t264, t267, bt279.2.1, bt279.2.2))) else (if bt273.1 = 1 then ((spec_l1Int.f s0_0 bt273.2.1 bt273.2.2 (([(-1), 999, 1000] : List Int))).bind fun bt285 => (if 0 < (t261.length : Int) then (some (t260, (t261.set (0 : Int).toNat bt285.1), t264, t267, bt285.2.1, bt285.2.2)) else (none))) else (if bt273.1 = 2 then (if 2 ≤ (t264.length : Int) then (some (t260, t261, (t264.take (2 : Int).toNat), t267, bt273.2.1, bt273.2.2)) else (none)) else (if bt273.1 = 3 then (if t267.length < 17592186044416 then (some (t260, t261, t264, (t267 ++ [1]), bt273.2.1, bt273.2.2)) else (none)) else (some (t260, t261, t264, t267, bt273.2.1, bt273.2.2))))))) = some (r1, r2, r3, r4, r5, r6) := H
 have A3 := Aside0.mk A30
 clear A30
 replace H := Option.bind_eq_some_iff.mp H
 obtain ⟨⟨t273, t274, t275⟩, A40, H⟩ := H
 replace H : (if t273 = 0 then ((spec_l1Int.f s0_0 t274 t275 (([(-1), 19, 20, 9223372036854775807] : List Int))).bind fun bt279 => (some (bt279.1, t261, t264, t267, bt279.2.1, bt279.2.2))) else (if t273 = 1 then ((spec_l1Int.f s0_0 t274 t275 (([(-1), 999, 1000] : List Int))).bind fun bt285 => (if 0 < (t261.length : Int) then (some (t260, (t261.set (0 : Int).toNat bt285.1), t264, t267, bt285.2.1, bt285.2.2)) else (none))) else (if t273 = 2 then (if 2 ≤ (t264.length : Int) then (some (t260, t261, (t264.take (2 : Int).toNat), t267, t274, t275)) else (none)) else (if t273 = 3 then (if t267.length < 17592186044416 then (some (t260, t261, t264, (t267 ++ [1]), t274, t275)) else (none)) else (some (t260, t261, t264, t267, t274, t275)))))) = some (r1, r2, r3, r4, r5, r6) := H
 have A4 := Aside0.mk A40
 clear A40
 by_cases c5 : t273 = 0
 ·rw [if_pos c5] at H
  have c5b0 : (t273 == 0) = true := beq_iff_eq.mpr c5
  have c5b1 : (t273 != 0) = false := bne_eq_false_iff_eq.mpr c5
  clear c5
  obtain ⟨y276, hy276⟩ : ∃ y_ : List Int, y_ = (([(-1), 19, 20, 9223372036854775807] : List Int)) := ⟨_, rfl⟩
  replace H : ((spec_l1Int.f s0_0 t274 t275 y276).bind fun bt279 => (some (bt279.1, t261, t264, t267, bt279.2.1, bt279.2.2))) = some (r1, r2, r3, r4, r5, r6) := by first | (rw [hy276]; with_reducible exact H) | (have H2_ := (Option.bind_some _ _).symm.trans H; rw [hy276]; with_reducible exact H2_) | (have H2_ := (Option.bind_some _ _).symm.trans H; with_reducible exact H2_) | with_reducible exact H | (rw [hy276]; exact H) | exact H
  have Ny276 := Aside0.mk hy276
  clear hy276
  replace H := Option.bind_eq_some_iff.mp H
  obtain ⟨⟨t279, t280, t281⟩, A60, H⟩ := H
  replace H : (some (t279, t261, t264, t267, t280, t281)) = some (r1, r2, r3, r4, r5, r6) := H
  have A6 := Aside0.mk A60
  clear A60
  simp only [Option.some.injEq, Prod.mk.injEq] at H
  obtain ⟨rfl, rfl, rfl, rfl, rfl, rfl⟩ := H
  go_enter Try.func133, Try.ntmps133
  go_wp2_with (first | ((with_reducible refine gate_dst (N := 4) rfl ?_); refine bx_ (N := 4) #[.int .i64 0, .slice none 0 0, .slice none 0 0, .slice none 0 0] 45 ?_; intro gb259 hg w7 hbox hb; replace HB := bs HB hb; have BK259 := ak hbox; have GW259 := ak (kz hg HK); have GE259 := ak (Nat.le_trans HW0.out (kz hg HK)); replace HK := ak (KeepBut.trans PH (KeepBut.of_below hb g none) (.inl rfl)); have NB0_259 := ak (nh hg (IsS158.lt (show IsS158 w0 _ g s0_0 s0_1 s0_2 from PI))); have NB259_0 := ak (ng hg (IsS158.lt (show IsS158 w0 _ g s0_0 s0_1 s0_2 from PI))); replace HI0 := ak (IsS158.below PI hb); clear hb hbox hg) | ((with_reducible refine gate_callee (f := 158) rfl ?_); refine goesL_ (some 8) rfl rfl Try.func158 KR rfl #[.pointer (some ⟨g, 0, none⟩), .int .i64 a1] rfl AR ?_; (with_reducible refine (spec_l11Draw.calls k g s0_0 s0_1 s0_2 a1 t260 t261 t264 t267 t270 t271 w0 _ ?side1 ?side2 A3.out).mono ?_); (case side1 => exact PI); (case side2 => exact PL); rintro e w8 ⟨v262, v265, v268, rfl, ho0, ho1, ho2, hi, hb, hk⟩; refine ⟨_, rfl, ?_⟩; replace BK259 := kq hk BK259 NB259_0; have HO263 := ak (Kd.R_lower ho0 (keep_size (w := w) (g := g) (row := none) PH)); have HO266 := ak (Kd.R_lower ho1 (keep_size (w := w) (g := g) (row := none) PH)); have HO269 := ak (Kd.R_lower ho2 (keep_size (w := w) (g := g) (row := none) PH)); replace HK := kt HK hk; replace HB := ak hb; replace HI0 := ak (hi); (try clear hb); (try clear hb2); (try clear hk); (try clear hi); (try clear ho0); (try clear ho1); (try clear ho2)) | ((with_reducible refine gate_dst (N := 5) rfl ?_); refine bx_ (N := 5) #[.int .i64 0, .slice none 0 0, .slice none 0 0, .slice none 0 0] 45 ?_; intro gb272 hg w9 hbox hb; replace HO263 := Rb HO263 hb; replace HO266 := Rb HO266 hb; replace HO269 := Rb HO269 hb; replace HB := bs HB hb; have BK272 := ak hbox; have GW272 := ak (kz hg HK); have GE272 := ak (Nat.le_trans HW0.out (kz hg HK)); replace HK := ak (KeepBut.trans PH (KeepBut.of_below hb g none) (.inl rfl)); have NB259_272 := gm hg BK259; have NB272_259 := gn hg BK259; replace BK259 := kf BK259 hb; have NB0_272 := ak (nh hg (IsS158.lt (show IsS158 w0 _ g s0_0 t270 t271 from PI))); have NB272_0 := ak (ng hg (IsS158.lt (show IsS158 w0 _ g s0_0 t270 t271 from PI))); replace HI0 := ak (IsS158.below PI hb); clear hb hbox hg; have hnb10 := NB272_259.out; have hnc10 := NB259_272.out; have hnb11 := NB272_0.out; have hnc11 := NB0_272.out; obtain ⟨_, _, _, _, _, _, _, _⟩ := bc4 BK272; obtain ⟨Ao13, co13, eo13⟩ := Kd.R_slice HO263.out; subst eo13; obtain ⟨Ao14, co14, eo14⟩ := Kd.R_slice HO266.out; subst eo14; obtain ⟨Ao15, co15, eo15⟩ := Kd.R_slice HO269.out; subst eo15) | ((with_reducible refine gate_callee (f := 68) rfl ?_); refine goesL_ (some 10) rfl rfl Try.func68 KR rfl #[.pointer (some ⟨g, 0, none⟩), .int .i64 10] rfl AR ?_; (with_reducible refine (spec_l1Below.calls g s0_0 t270 t271 10 t273 t274 t275 w0 _ ?side1 ?side2 A4.out).mono ?_); (case side1 => exact PI); (case side2 => exact PL); rintro e w16 ⟨rfl, hi, hb, hk⟩; refine ⟨_, rfl, ?_⟩; replace BK259 := kq hk BK259 NB259_0; replace HO263 := Rk (IsS158.apart (show IsS158 w0 _ g s0_0 t270 t271 from PI) (Re1 HO263 BK272) (by decide)) hk; replace HO266 := Rk (IsS158.apart (show IsS158 w0 _ g s0_0 t270 t271 from PI) (Re1 HO266 BK272) (by decide)) hk; replace HO269 := Rk (IsS158.apart (show IsS158 w0 _ g s0_0 t270 t271 from PI) (Re1 HO269 BK272) (by decide)) hk; replace BK272 := kr (cs' := #[.int .i64 t260, .slice Ao13 t261.length co13, .slice Ao14 t264.length co14, .slice Ao15 t267.length co15]) hk BK272 NB272_0; replace HK := kt HK hk; replace HB := ak hb; replace HI0 := ak (hi); (try clear hb); (try clear hb2); (try clear hk); (try clear hi)) | ((with_reducible refine gate_dst (N := 14) rfl ?_); refine Kd.R_lit (Kd.int .i64) _ 3 ?hg (N := 14) ?hd (xs := ([(-1), 19, 20, 9223372036854775807] : List Int)) (inner := [.int .i64 (-1), .int .i64 19, .int .i64 20, .int .i64 9223372036854775807]) (ok := fun _ => True) (okp := fun _ => True) ?hr ?hp (fun _ hk => hk) trivial (Below.refl _ _) (Nat.le_refl _) (by simp) ?_; (case hd => rfl); (case hg => rfl); (case hr => first | (go_simp; done) | (go_simp; rfl)); (case hp => exact (Reps.one (show Kd.M (Kd.int .i64) _ _ _ (-1) [.int .i64 (-1)] from rfl) (Reps.one (show Kd.M (Kd.int .i64) _ _ _ 19 [.int .i64 19] from rfl) (Reps.one (show Kd.M (Kd.int .i64) _ _ _ 20 [.int .i64 20] from rfl) (Reps.one (show Kd.M (Kd.int .i64) _ _ _ 9223372036854775807 [.int .i64 9223372036854775807] from rfl) (Reps.none _ _)))))); intro v277 w17 ho18 hb hg_ hnew_; clear hg_ hnew_; (first | rw [← Ny276.out] at ho18 | (simp only [Int.reduceToNat] at ho18; rw [← Ny276.out] at ho18)); have HO278 := ak (Kd.R_lower (Kd.R_new' (Kd.R_new' (Kd.R_new' ho18 (Kd.R_lt (PR HO263))) (Kd.R_lt (PR HO266))) (Kd.R_lt (PR HO269))) (keep_size (w := w) (g := g) (row := none) PH)); replace HO263 := ak (Kd.R_elder' (PR HO263) (Kd.R_base ho18) hb); replace HO266 := ak (Kd.R_elder' (PR HO266) (Kd.R_base ho18) hb); replace HO269 := ak (Kd.R_elder' (PR HO269) (Kd.R_base ho18) hb); replace HI0 := ak (IsS158.below PI hb); replace BK259 := kf BK259 hb; replace BK272 := kf BK272 hb; replace HK := ak (KeepBut.trans PH (KeepBut.of_below hb g none) (.inl rfl)); replace HB := bs HB hb; clear hb ho18; obtain ⟨Ao19, co19, eo19⟩ := Kd.R_slice HO278.out; subst eo19) | ((with_reducible refine gate_callee (f := 67) rfl ?_); refine goesL_ (some 15) rfl rfl Try.func67 KR rfl #[.pointer (some ⟨g, 0, none⟩), .slice Ao19 y276.length co19] rfl AR ?_; (with_reducible refine (spec_l1Int.calls g s0_0 t274 t275 _ _ y276 t279 t280 t281 w0 _ ?side1 ?side2 ?side3 ?side4 ?side5 A6.out).mono ?_); (case side1 => exact PI); (case side2 => exact PL); (case side3 => exact CR ((Kd.R_reads' HO278.out).2.2)); (case side4 => exact (Kd.R_reads' HO278.out).2.1); (case side5 => exact far_slice (IsS158.own_ne HI0.out HO278.out (by decide))); rintro e w20 ⟨rfl, hi, hb, hk⟩; refine ⟨_, rfl, ?_⟩; replace BK259 := kq hk BK259 NB259_0; replace HO263 := Rk (IsS158.apart (show IsS158 w0 _ g s0_0 t274 t275 from PI) (PR HO263) (by decide)) hk; replace HO266 := Rk (IsS158.apart (show IsS158 w0 _ g s0_0 t274 t275 from PI) (PR HO266) (by decide)) hk; replace HO269 := Rk (IsS158.apart (show IsS158 w0 _ g s0_0 t274 t275 from PI) (PR HO269) (by decide)) hk; replace BK272 := kq hk BK272 NB272_0; replace HO278 := Rk (IsS158.apart (show IsS158 w0 _ g s0_0 t274 t275 from PI) (PR HO278) (by decide)) hk; replace HK := kt HK hk; replace HB := ak hb; replace HI0 := ak (hi); (try clear hb); (try clear hb2); (try clear hk); (try clear hi); obtain ⟨_, _, _, _, _, _, _, _⟩ := bc4 BK272; have hnb22 := NB259_0.out; have hnc22 := NB0_259.out; obtain ⟨_, _, _, _, _, _, _, _⟩ := bc4 BK259))
  refine bodyPost_ret (results_cell_row rfl _ _ gb259 45 #[.int .i64 t279, .slice Ao13 t261.length co13, .slice Ao14 t264.length co14, .slice Ao15 t267.length co15] (0, 0) _ rfl (PX BK259) Try.underlying45 rfl KR) rfl ?_
  exact ⟨_, _, _, RT, RX (Rt (Rt HO263.out BK272) BK259) (fun _ hk => by first | exact ⟨hk.1.1.1.1, hk.1.1.1.2⟩ | simp_all), RX (Rt (Rt HO266.out BK272) BK259) (fun _ hk => by first | exact ⟨hk.1.1.1.1, hk.1.1.1.2⟩ | simp_all), RX (Rt (Rt HO269.out BK272) BK259) (fun _ hk => by first | exact ⟨hk.1.1.1.1, hk.1.1.1.2⟩ | simp_all), PI, PL, PH⟩
 ·rw [if_neg c5] at H
  have c5b0 : (t273 == 0) = false := beq_eq_false_iff_ne.mpr c5
  have c5b1 : (t273 != 0) = true := bne_iff_ne.mpr c5
  by_cases c24 : t273 = 1
  ·rw [if_pos c24] at H
   have c24b0 : (t273 == 1) = true := beq_iff_eq.mpr c24
   have c24b1 : (t273 != 1) = false := bne_eq_false_iff_eq.mpr c24
   clear c24
   obtain ⟨y282, hy282⟩ : ∃ y_ : List Int, y_ = (([(-1), 999, 1000] : List Int)) := ⟨_, rfl⟩
   replace H : ((spec_l1Int.f s0_0 t274 t275 y282).bind fun bt285 => (if 0 < (t261.length : Int) then (some (t260, (t261.set (0 : Int).toNat bt285.1), t264, t267, bt285.2.1, bt285.2.2)) else (none))) = some (r1, r2, r3, r4, r5, r6) := by first | (rw [hy282]; with_reducible exact H) | (have H2_ := (Option.bind_some _ _).symm.trans H; rw [hy282]; with_reducible exact H2_) | (have H2_ := (Option.bind_some _ _).symm.trans H; with_reducible exact H2_) | with_reducible exact H | (rw [hy282]; exact H) | exact H
   have Ny282 := Aside0.mk hy282
   clear hy282
   replace H := Option.bind_eq_some_iff.mp H
   obtain ⟨⟨t285, t286, t287⟩, A250, H⟩ := H
   replace H : (if 0 < (t261.length : Int) then (some (t260, (t261.set (0 : Int).toNat t285), t264, t267, t286, t287)) else (none)) = some (r1, r2, r3, r4, r5, r6) := H
   have A25 := Aside0.mk A250
   clear A250
   by_cases c26 : 0 < (t261.length : Int)
   ·rw [if_pos c26] at H
    have c26b0 : decide (0 < (t261.length : Int)) = true := decide_eq_true c26
    have c26b1 : decide (0 < t261.length) = true := decide_eq_true (by omega)
    clear c26
    obtain ⟨y288, hy288⟩ : ∃ y_ : List Int, y_ = (t261.set (0 : Int).toNat t285) := ⟨_, rfl⟩
    replace H : (some (t260, y288, t264, t267, t286, t287)) = some (r1, r2, r3, r4, r5, r6) := by first | (rw [hy288]; with_reducible exact H) | (have H2_ := (Option.bind_some _ _).symm.trans H; rw [hy288]; with_reducible exact H2_) | (have H2_ := (Option.bind_some _ _).symm.trans H; with_reducible exact H2_) | with_reducible exact H | (rw [hy288]; exact H) | exact H
    have Ny288 := Aside0.mk hy288
    clear hy288
    simp only [Option.some.injEq, Prod.mk.injEq] at H
    obtain ⟨rfl, rfl, rfl, rfl, rfl, rfl⟩ := H
    go_enter Try.func133, Try.ntmps133
    try go_wp2_with (first | ((with_reducible refine gate_dst (N := 4) rfl ?_); refine bx_ (N := 4) #[.int .i64 0, .slice none 0 0, .slice none 0 0, .slice none 0 0] 45 ?_; intro gb259 hg w28 hbox hb; replace HB := bs HB hb; have BK259 := ak hbox; have GW259 := ak (kz hg HK); have GE259 := ak (Nat.le_trans HW0.out (kz hg HK)); replace HK := ak (KeepBut.trans PH (KeepBut.of_below hb g none) (.inl rfl)); have NB0_259 := ak (nh hg (IsS158.lt (show IsS158 w0 _ g s0_0 s0_1 s0_2 from PI))); have NB259_0 := ak (ng hg (IsS158.lt (show IsS158 w0 _ g s0_0 s0_1 s0_2 from PI))); replace HI0 := ak (IsS158.below PI hb); clear hb hbox hg) | ((with_reducible refine gate_callee (f := 158) rfl ?_); refine goesL_ (some 8) rfl rfl Try.func158 KR rfl #[.pointer (some ⟨g, 0, none⟩), .int .i64 a1] rfl AR ?_; (with_reducible refine (spec_l11Draw.calls k g s0_0 s0_1 s0_2 a1 t260 t261 t264 t267 t270 t271 w0 _ ?side1 ?side2 A3.out).mono ?_); (case side1 => exact PI); (case side2 => exact PL); rintro e w29 ⟨v262, v265, v268, rfl, ho0, ho1, ho2, hi, hb, hk⟩; refine ⟨_, rfl, ?_⟩; replace BK259 := kq hk BK259 NB259_0; have HO263 := ak (Kd.R_lower ho0 (keep_size (w := w) (g := g) (row := none) PH)); have HO266 := ak (Kd.R_lower ho1 (keep_size (w := w) (g := g) (row := none) PH)); have HO269 := ak (Kd.R_lower ho2 (keep_size (w := w) (g := g) (row := none) PH)); replace HK := kt HK hk; replace HB := ak hb; replace HI0 := ak (hi); (try clear hb); (try clear hb2); (try clear hk); (try clear hi); (try clear ho0); (try clear ho1); (try clear ho2)) | ((with_reducible refine gate_dst (N := 5) rfl ?_); refine bx_ (N := 5) #[.int .i64 0, .slice none 0 0, .slice none 0 0, .slice none 0 0] 45 ?_; intro gb272 hg w30 hbox hb; replace HO263 := Rb HO263 hb; replace HO266 := Rb HO266 hb; replace HO269 := Rb HO269 hb; replace HB := bs HB hb; have BK272 := ak hbox; have GW272 := ak (kz hg HK); have GE272 := ak (Nat.le_trans HW0.out (kz hg HK)); replace HK := ak (KeepBut.trans PH (KeepBut.of_below hb g none) (.inl rfl)); have NB259_272 := gm hg BK259; have NB272_259 := gn hg BK259; replace BK259 := kf BK259 hb; have NB0_272 := ak (nh hg (IsS158.lt (show IsS158 w0 _ g s0_0 t270 t271 from PI))); have NB272_0 := ak (ng hg (IsS158.lt (show IsS158 w0 _ g s0_0 t270 t271 from PI))); replace HI0 := ak (IsS158.below PI hb); clear hb hbox hg; have hnb31 := NB272_259.out; have hnc31 := NB259_272.out; have hnb32 := NB272_0.out; have hnc32 := NB0_272.out; obtain ⟨_, _, _, _, _, _, _, _⟩ := bc4 BK272; obtain ⟨Ao34, co34, eo34⟩ := Kd.R_slice HO263.out; subst eo34; obtain ⟨Ao35, co35, eo35⟩ := Kd.R_slice HO266.out; subst eo35; obtain ⟨Ao36, co36, eo36⟩ := Kd.R_slice HO269.out; subst eo36) | ((with_reducible refine gate_callee (f := 68) rfl ?_); refine goesL_ (some 10) rfl rfl Try.func68 KR rfl #[.pointer (some ⟨g, 0, none⟩), .int .i64 10] rfl AR ?_; (with_reducible refine (spec_l1Below.calls g s0_0 t270 t271 10 t273 t274 t275 w0 _ ?side1 ?side2 A4.out).mono ?_); (case side1 => exact PI); (case side2 => exact PL); rintro e w37 ⟨rfl, hi, hb, hk⟩; refine ⟨_, rfl, ?_⟩; replace BK259 := kq hk BK259 NB259_0; replace HO263 := Rk (IsS158.apart (show IsS158 w0 _ g s0_0 t270 t271 from PI) (Re1 HO263 BK272) (by decide)) hk; replace HO266 := Rk (IsS158.apart (show IsS158 w0 _ g s0_0 t270 t271 from PI) (Re1 HO266 BK272) (by decide)) hk; replace HO269 := Rk (IsS158.apart (show IsS158 w0 _ g s0_0 t270 t271 from PI) (Re1 HO269 BK272) (by decide)) hk; replace BK272 := kr (cs' := #[.int .i64 t260, .slice Ao34 t261.length co34, .slice Ao35 t264.length co35, .slice Ao36 t267.length co36]) hk BK272 NB272_0; replace HK := kt HK hk; replace HB := ak hb; replace HI0 := ak (hi); (try clear hb); (try clear hb2); (try clear hk); (try clear hi)))
    replace HO263 := ak (Kd.R_drew HO263.out)
    replace HO266 := ak (Kd.R_drew HO266.out)
    replace HO269 := ak (Kd.R_drew HO269.out)
    replace BK259 := ak (blk_drew BK259.out)
    replace BK272 := ak (blk_drew BK272.out)
    replace HI0 := ak (IsS158.drew HI0.out)
    replace HK := ak (keep_drew HK.out)
    replace HB := ak (below_drew1 HB.out)
    refine start_ (n := 7) (S := fun w' => w'.cell? ⟨gb272, 0, none⟩ = some (.int .i64 t260) ∧ w'.cell? ⟨gb272, 1, none⟩ = some (.slice Ao34 t261.length co34) ∧ w'.cell? ⟨gb272, 2, none⟩ = some (.slice Ao35 t264.length co35) ∧ w'.cell? ⟨gb272, 3, none⟩ = some (.slice Ao36 t267.length co36)) (ds := [6]) #[false, false, false, false, false, false, false] KR rfl rfl ⟨(blk_cell BK272.out 0).trans rfl, (blk_cell BK272.out 1).trans rfl, (blk_cell BK272.out 2).trans rfl, (blk_cell BK272.out 3).trans rfl⟩ (fun hHeld => ?_)
    generalize w37.drew = w38 at HO263 HO266 HO269 BK259 BK272 HI0 HK HB hHeld ⊢
    refine pure_ (i := 0) (N := some 19) (v := ?_) (a' := ?_) #[true, false, false, false, false, false, false] rfl rfl KR (fun _ _ _ h => h) (Or.inl ⟨by rfl, ?_⟩) ?_ ?_
    rotate_left
    ·intro w'
     go_simp
     with_reducible rfl
    rotate_left
    ·simp only [Act.put, List.setIfInBounds_toArray, List.set_cons_zero, List.set_cons_succ, i64_w, i32_w]
     rfl
    refine pure_ (i := 2) (N := some 21) (v := ?_) (a' := ?_) #[true, false, true, false, false, false, false] rfl rfl KR (fun _ _ _ h => h) (Or.inl ⟨by rfl, ?_⟩) ?_ ?_
    rotate_left
    ·intro w'
     go_simp
     with_reducible rfl
    rotate_left
    ·simp only [Act.put, List.setIfInBounds_toArray, List.set_cons_zero, List.set_cons_succ, i64_w, i32_w]
     rfl
    refine take_ (i := 1) (N := some 20) (v := ?_) (a' := ?_) #[true, true, true, false, false, false, false] rfl rfl KR (fun _ _ _ h => h) (Or.inl ⟨by rfl, ?_⟩) hHeld ?_ ?_
    rotate_left
    ·rintro w' ⟨s0, s1, s2, s3⟩
     go_simp
     with_reducible rfl
    rotate_left
    ·simp only [Act.put, List.setIfInBounds_toArray, List.set_cons_zero, List.set_cons_succ, i64_w, i32_w]
     rfl
    refine one_ (i := 3) (N := some 22) #[true, true, true, true, false, false, false] rfl rfl KR (by decide) (fun K hK => ?_)
    refine Kd.R_lit_step (Kd.int .i64) _ 3 ?hg (N := 22) ?hd (xs := ([(-1), 999, 1000] : List Int)) (inner := [.int .i64 (-1), .int .i64 999, .int .i64 1000]) (ok := fun _ => True) (okp := fun _ => True) ?hr ?hp (fun _ hk => hk) trivial (Below.refl _ _) (Nat.le_refl _) (by simp) ?_; (case hd => rfl); (case hg => rfl); (case hr => first | (go_simp; done) | (go_simp; rfl)); (case hp => exact (Reps.one (show Kd.M (Kd.int .i64) _ _ _ (-1) [.int .i64 (-1)] from rfl) (Reps.one (show Kd.M (Kd.int .i64) _ _ _ 999 [.int .i64 999] from rfl) (Reps.one (show Kd.M (Kd.int .i64) _ _ _ 1000 [.int .i64 1000] from rfl) (Reps.none _ _)))))
    intro v283 w39 ho40 hb hg_ hnew_
    clear hg_ hnew_
    (first | rw [← Ny282.out] at ho40 | (simp only [Int.reduceToNat] at ho40; rw [← Ny282.out] at ho40))
    have HO284 := ak (Kd.R_lower (Kd.R_new' (Kd.R_new' (Kd.R_new' ho40 (Kd.R_lt (PR HO263))) (Kd.R_lt (PR HO266))) (Kd.R_lt (PR HO269))) (keep_size (w := w) (g := g) (row := none) PH))
    replace HO263 := ak (Kd.R_elder' (PR HO263) (Kd.R_base ho40) hb)
    replace HO266 := ak (Kd.R_elder' (PR HO266) (Kd.R_base ho40) hb)
    replace HO269 := ak (Kd.R_elder' (PR HO269) (Kd.R_base ho40) hb)
    replace HI0 := ak (IsS158.below PI hb)
    replace BK259 := kf BK259 hb
    replace BK272 := kf BK272 hb
    replace HK := ak (KeepBut.trans PH (KeepBut.of_below hb g none) (.inl rfl))
    replace HB := bs HB hb
    clear hb ho40
    obtain ⟨Ao41, co41, eo41⟩ := Kd.R_slice HO284.out
    (first | subst eo41 | (injection eo41 with f1_ f2_ f3_; have f4_ := f1_.symm; have f5_ := f3_.symm; clear f1_ f2_ f3_; subst f4_; subst f5_))
    refine hK.out _ _ ⟨(blk_cell BK272.out 0).trans rfl, (blk_cell BK272.out 1).trans rfl, (blk_cell BK272.out 2).trans rfl, (blk_cell BK272.out 3).trans rfl⟩ (fun hHeld => ?_)
    clear hK K
    refine norm_ (a' := ?_) ?_ ?_
    rotate_left
    ·show Act.put _ (some 22) _ = _
     simp only [Act.put, List.setIfInBounds_toArray, List.set_cons_zero, List.set_cons_succ, i64_w, i32_w]
     rfl
    refine one_ (i := 4) (N := some 23) #[true, true, true, true, true, false, false] rfl rfl KR (by decide) (fun K hK => ?_)
    refine goes_ Try.func67 KR rfl #[.pointer (some ⟨g, 0, none⟩), .slice Ao41 y282.length co41] (by rfl) rfl rfl AR ?_
    with_reducible refine (spec_l1Int.calls g s0_0 t274 t275 _ _ y282 t285 t286 t287 w0 _ ?side1 ?side2 ?side3 ?side4 ?side5 A25.out).mono ?_
    (case side1 => exact PI)
    (case side2 => exact PL)
    (case side3 => exact CR ((Kd.R_reads' HO284.out).2.2))
    (case side4 => exact (Kd.R_reads' HO284.out).2.1)
    (case side5 => exact far_slice (IsS158.own_ne HI0.out HO284.out (by decide)))
    rintro e w42 ⟨rfl, hi, hb, hk⟩
    refine ⟨_, rfl, ?_⟩
    replace BK259 := kq hk BK259 NB259_0
    replace HO263 := Rk (IsS158.apart (show IsS158 w0 _ g s0_0 t274 t275 from PI) (PR HO263) (by decide)) hk
    replace HO266 := Rk (IsS158.apart (show IsS158 w0 _ g s0_0 t274 t275 from PI) (PR HO266) (by decide)) hk
    replace HO269 := Rk (IsS158.apart (show IsS158 w0 _ g s0_0 t274 t275 from PI) (PR HO269) (by decide)) hk
    replace BK272 := kq hk BK272 NB272_0
    replace HO284 := Rk (IsS158.apart (show IsS158 w0 _ g s0_0 t274 t275 from PI) (PR HO284) (by decide)) hk
    replace HK := kt HK hk
    replace HB := ak hb
    replace HI0 := ak (hi)
    (try clear hb)
    (try clear hb2)
    (try clear hk)
    (try clear hi)
    have p27 : 0 ≤ (0 : Int) := (by omega)
    have q27 : (0 : Int) < ((t261.length : Int) : Int) := of_decide_eq_true (by first | (with_reducible assumption) | assumption)
    have qi27 : (0 < t261.length) = True := eq_true (by omega)
    obtain ⟨go27, co27, eo27, gb27, gl27, cl27, HG27⟩ := Kd.R_form HO263.out (by omega)
    (first | cases eo27 | (injection eo27 with ea_ en_ ec_; (first | subst ea_ | (injection ea_ with ea_; subst ea_)); subst ec_; clear en_))
    have GB27 := Aside0.mk gb27
    have GG27 := Aside0.mk HG27
    clear gb27 gl27 HG27
    obtain ⟨hx27_0, hf27_0⟩ := Kd.R_celln 0 HO263.out (0 : Int) p27 q27
    (try rw [show ((0 : Int)).toNat = 0 from rfl] at hx27_0)
    (try simp only [Nat.reduceMul, Nat.zero_mul, Nat.zero_add, Nat.reduceAdd] at hx27_0)
    (try rw [show ((0 : Int)).toNat = 0 from rfl] at hf27_0)
    (try simp only [Nat.reduceMul, Nat.zero_mul, Nat.zero_add, Nat.reduceAdd] at hf27_0)
    replace p27 := eq_true p27
    replace q27 := eq_true q27
    have HN0_go27 := ak (show g ≠ go27 from by have h_ := IsS158.own_ne HI0.out HO263.out (by decide); intro e_; exact h_ (by rw [e_]; rfl))
    have HP43 := Kd.R_putn HO263.out (0 : Int) t285
    rw [← Ny288.out] at HP43
    have HQ43 := Aside0.mk HP43
    clear HP43
    refine hK.out _ _ ⟨(blk_cell BK272.out 0).trans rfl, (blk_cell BK272.out 1).trans rfl, (blk_cell BK272.out 2).trans rfl, (blk_cell BK272.out 3).trans rfl⟩ (fun hHeld => ?_)
    clear hK K
    refine norm_ (a' := ?_) ?_ ?_
    rotate_left
    ·show Act.put _ (some 23) _ = _
     simp only [Act.put, List.setIfInBounds_toArray, List.set_cons_zero, List.set_cons_succ, i64_w, i32_w]
     rfl
    refine pure_ (i := 5) (N := some 24) (v := ?_) (a' := ?_) #[true, true, true, true, true, true, false] rfl rfl KR (fun _ _ _ h => h) (Or.inl ⟨by rfl, ?_⟩) ?_ ?_
    rotate_left
    ·intro w'
     go_simp
     with_reducible rfl
    rotate_left
    ·simp only [Act.put, List.setIfInBounds_toArray, List.set_cons_zero, List.set_cons_succ, i64_w, i32_w]
     rfl
    refine last_ (i := 6) (N := none) #[true, true, true, true, true, true, true] rfl rfl KR (by decide) (fun K hK => ?_)
    refine skip_ (w1 := ?_) (by rfl) rfl ?_ ?_
    rotate_left
    ·go_simp
     rfl
    refine hK.out _ _ ?_
    clear hK K
    refine done_ KR ?_
    generalize hW_ : (w42.setCell ⟨go27, 0, none⟩ (.int .i64 t285)) = w44
    replace HO266 : Aside0 (Kd.R (Kd.int .i64) 3 w44 w.heap.size (fun k_ => some k_ ≠ (.slice (some ⟨go27, 0, none⟩) t261.length co34 : Value).ownBlock ∧ some k_ ≠ (.slice Ao36 t267.length co36 : Value).ownBlock ∧ some k_ ≠ (.slice Ao41 y282.length co41 : Value).ownBlock) (.slice Ao35 t264.length co35) t264) := ⟨by rw [← hW_]; exact RX (Kd.R_mono HO266.out (fun k_ hk => (⟨hk, fun e_ => hk.1.1 (by rw [e_]; rfl)⟩ : _ ∧ k_ ≠ go27))) (fun _ hk => ⟨hk.1.1.1, ⟨hk.1.1.2, hk.1.2⟩⟩)⟩
    replace HO269 : Aside0 (Kd.R (Kd.int .i64) 3 w44 w.heap.size (fun k_ => some k_ ≠ (.slice (some ⟨go27, 0, none⟩) t261.length co34 : Value).ownBlock ∧ some k_ ≠ (.slice Ao35 t264.length co35 : Value).ownBlock ∧ some k_ ≠ (.slice Ao41 y282.length co41 : Value).ownBlock) (.slice Ao36 t267.length co36) t267) := ⟨by rw [← hW_]; exact RX (Kd.R_mono HO269.out (fun k_ hk => (⟨hk, fun e_ => hk.1.1 (by rw [e_]; rfl)⟩ : _ ∧ k_ ≠ go27))) (fun _ hk => ⟨hk.1.1.1, ⟨hk.1.1.2, hk.1.2⟩⟩)⟩
    replace HO284 : Aside0 (Kd.R (Kd.int .i64) 3 w44 w.heap.size (fun k_ => some k_ ≠ (.slice (some ⟨go27, 0, none⟩) t261.length co34 : Value).ownBlock ∧ some k_ ≠ (.slice Ao35 t264.length co35 : Value).ownBlock ∧ some k_ ≠ (.slice Ao36 t267.length co36 : Value).ownBlock) (.slice Ao41 y282.length co41) y282) := ⟨by rw [← hW_]; exact RX (Kd.R_mono HO284.out (fun k_ hk => (⟨hk, fun e_ => hk.1.1.2 (by rw [e_]; rfl)⟩ : _ ∧ k_ ≠ go27))) (fun _ hk => ⟨hk.1.1.1.2, ⟨hk.1.1.2, hk.1.2⟩⟩)⟩
    replace BK259 := BQ hW_ HO263 BK259
    replace BK272 := BQ hW_ HO263 BK272
    replace HO263 : Aside0 (Kd.R (Kd.int .i64) 3 w44 w.heap.size (fun k_ => some k_ ≠ (.slice Ao35 t264.length co35 : Value).ownBlock ∧ some k_ ≠ (.slice Ao36 t267.length co36 : Value).ownBlock ∧ some k_ ≠ (.slice Ao41 y282.length co41 : Value).ownBlock) (.slice (some ⟨go27, 0, none⟩) t261.length co34) y288) := ⟨by rw [← hW_]; exact RQ HQ43.out (fun _ hk => ⟨hk.1.1, ⟨hk.1.2, hk.2⟩⟩)⟩
    replace HK : Aside0 (KeepBut w w44 g none) := ⟨by rw [← hW_]; exact PH⟩
    replace HB : Aside0 (Below w0.heap.size w0 w44) := ⟨by rw [← hW_]; repeat (first | (with_reducible first | exact HB.out | apply below_alloc | apply pw_below_drewN | apply below_drew1 | refine below_set ?_ (Nat.le_trans HL.out GB27.out) | refine below_set ?_ (IsS158.ge HI0.out) | refine below_set ?_ GE259.out | refine below_set ?_ GE272.out) | exact HB.out)⟩
    replace HI0 : Aside0 (IsS158 w0 w44 g s0_0 t286 t287) := ⟨by rw [← hW_]; repeat (first | (with_reducible first | exact HI0.out | apply IsS158.alloc | apply IsS158.drewN | apply IsS158.drew | apply IsS158.set_1 | apply IsS158.set_2 | refine IsS158.far ?_ HN0_go27.out _ | refine IsS158.far ?_ NB0_259.out _ | refine IsS158.far ?_ NB0_272.out _) | exact HI0.out)⟩
    (try clear hW_)
    obtain ⟨_, _, _, _, _, _, _, _⟩ := bc4 BK272
    have hnb46 := NB259_0.out
    have hnc46 := NB0_259.out
    obtain ⟨_, _, _, _, _, _, _, _⟩ := bc4 BK259
    try go_wp2
    refine bodyPost_ret (results_cell_row rfl _ _ gb259 45 #[.int .i64 t260, .slice (some ⟨go27, 0, none⟩) t261.length co34, .slice Ao35 t264.length co35, .slice Ao36 t267.length co36] (0, 0) _ rfl (PX BK259) Try.underlying45 rfl KR) rfl ?_
    exact ⟨_, _, _, RT, RX (Rt HO263.out BK259) (fun _ hk => by first | exact ⟨hk.1.1, hk.1.2.1⟩ | simp_all), RX (Rt HO266.out BK259) (fun _ hk => by first | exact ⟨hk.1.1, hk.1.2.1⟩ | simp_all), RX (Rt HO269.out BK259) (fun _ hk => by first | exact ⟨hk.1.1, hk.1.2.1⟩ | simp_all), PI, PL, PH⟩
   ·rw [if_neg c26] at H
    exact absurd H (by simp)
  ·rw [if_neg c24] at H
   have c24b0 : (t273 == 1) = false := beq_eq_false_iff_ne.mpr c24
   have c24b1 : (t273 != 1) = true := bne_iff_ne.mpr c24
   by_cases c48 : t273 = 2
   ·rw [if_pos c48] at H
    have c48b0 : (t273 == 2) = true := beq_iff_eq.mpr c48
    have c48b1 : (t273 != 2) = false := bne_eq_false_iff_eq.mpr c48
    clear c48
    by_cases c49 : 2 ≤ (t264.length : Int)
    ·rw [if_pos c49] at H
     have c49b0 := eq_true c49
     have c49b1 : decide (2 ≤ (t264.length : Int)) = true := decide_eq_true c49
     clear c49
     obtain ⟨y289, hy289⟩ : ∃ y_ : List Int, y_ = (t264.take (2 : Int).toNat) := ⟨_, rfl⟩
     replace H : (some (t260, t261, y289, t267, t274, t275)) = some (r1, r2, r3, r4, r5, r6) := by first | (rw [hy289]; with_reducible exact H) | (have H2_ := (Option.bind_some _ _).symm.trans H; rw [hy289]; with_reducible exact H2_) | (have H2_ := (Option.bind_some _ _).symm.trans H; with_reducible exact H2_) | with_reducible exact H | (rw [hy289]; exact H) | exact H
     have Ny289 := Aside0.mk hy289
     clear hy289
     simp only [Option.some.injEq, Prod.mk.injEq] at H
     obtain ⟨rfl, rfl, rfl, rfl, rfl, rfl⟩ := H
     go_enter Try.func133, Try.ntmps133
     go_wp2_with (first | ((with_reducible refine gate_dst (N := 4) rfl ?_); refine bx_ (N := 4) #[.int .i64 0, .slice none 0 0, .slice none 0 0, .slice none 0 0] 45 ?_; intro gb259 hg w50 hbox hb; replace HB := bs HB hb; have BK259 := ak hbox; have GW259 := ak (kz hg HK); have GE259 := ak (Nat.le_trans HW0.out (kz hg HK)); replace HK := ak (KeepBut.trans PH (KeepBut.of_below hb g none) (.inl rfl)); have NB0_259 := ak (nh hg (IsS158.lt (show IsS158 w0 _ g s0_0 s0_1 s0_2 from PI))); have NB259_0 := ak (ng hg (IsS158.lt (show IsS158 w0 _ g s0_0 s0_1 s0_2 from PI))); replace HI0 := ak (IsS158.below PI hb); clear hb hbox hg) | ((with_reducible refine gate_callee (f := 158) rfl ?_); refine goesL_ (some 8) rfl rfl Try.func158 KR rfl #[.pointer (some ⟨g, 0, none⟩), .int .i64 a1] rfl AR ?_; (with_reducible refine (spec_l11Draw.calls k g s0_0 s0_1 s0_2 a1 t260 t261 t264 t267 t270 t271 w0 _ ?side1 ?side2 A3.out).mono ?_); (case side1 => exact PI); (case side2 => exact PL); rintro e w51 ⟨v262, v265, v268, rfl, ho0, ho1, ho2, hi, hb, hk⟩; refine ⟨_, rfl, ?_⟩; replace BK259 := kq hk BK259 NB259_0; have HO263 := ak (Kd.R_lower ho0 (keep_size (w := w) (g := g) (row := none) PH)); have HO266 := ak (Kd.R_lower ho1 (keep_size (w := w) (g := g) (row := none) PH)); have HO269 := ak (Kd.R_lower ho2 (keep_size (w := w) (g := g) (row := none) PH)); replace HK := kt HK hk; replace HB := ak hb; replace HI0 := ak (hi); (try clear hb); (try clear hb2); (try clear hk); (try clear hi); (try clear ho0); (try clear ho1); (try clear ho2)) | ((with_reducible refine gate_dst (N := 5) rfl ?_); refine bx_ (N := 5) #[.int .i64 0, .slice none 0 0, .slice none 0 0, .slice none 0 0] 45 ?_; intro gb272 hg w52 hbox hb; replace HO263 := Rb HO263 hb; replace HO266 := Rb HO266 hb; replace HO269 := Rb HO269 hb; replace HB := bs HB hb; have BK272 := ak hbox; have GW272 := ak (kz hg HK); have GE272 := ak (Nat.le_trans HW0.out (kz hg HK)); replace HK := ak (KeepBut.trans PH (KeepBut.of_below hb g none) (.inl rfl)); have NB259_272 := gm hg BK259; have NB272_259 := gn hg BK259; replace BK259 := kf BK259 hb; have NB0_272 := ak (nh hg (IsS158.lt (show IsS158 w0 _ g s0_0 t270 t271 from PI))); have NB272_0 := ak (ng hg (IsS158.lt (show IsS158 w0 _ g s0_0 t270 t271 from PI))); replace HI0 := ak (IsS158.below PI hb); clear hb hbox hg; have hnb53 := NB272_259.out; have hnc53 := NB259_272.out; have hnb54 := NB272_0.out; have hnc54 := NB0_272.out; obtain ⟨_, _, _, _, _, _, _, _⟩ := bc4 BK272; obtain ⟨Ao56, co56, eo56⟩ := Kd.R_slice HO263.out; subst eo56; obtain ⟨Ao57, co57, eo57⟩ := Kd.R_slice HO266.out; subst eo57; obtain ⟨Ao58, co58, eo58⟩ := Kd.R_slice HO269.out; subst eo58) | ((with_reducible refine gate_callee (f := 68) rfl ?_); refine goesL_ (some 10) rfl rfl Try.func68 KR rfl #[.pointer (some ⟨g, 0, none⟩), .int .i64 10] rfl AR ?_; (with_reducible refine (spec_l1Below.calls g s0_0 t270 t271 10 t273 t274 t275 w0 _ ?side1 ?side2 A4.out).mono ?_); (case side1 => exact PI); (case side2 => exact PL); rintro e w59 ⟨rfl, hi, hb, hk⟩; refine ⟨_, rfl, ?_⟩; replace BK259 := kq hk BK259 NB259_0; replace HO263 := Rk (IsS158.apart (show IsS158 w0 _ g s0_0 t270 t271 from PI) (Re1 HO263 BK272) (by decide)) hk; replace HO266 := Rk (IsS158.apart (show IsS158 w0 _ g s0_0 t270 t271 from PI) (Re1 HO266 BK272) (by decide)) hk; replace HO269 := Rk (IsS158.apart (show IsS158 w0 _ g s0_0 t270 t271 from PI) (Re1 HO269 BK272) (by decide)) hk; replace BK272 := kr (cs' := #[.int .i64 t260, .slice Ao56 t261.length co56, .slice Ao57 t264.length co57, .slice Ao58 t267.length co58]) hk BK272 NB272_0; replace HK := kt HK hk; replace HB := ak hb; replace HI0 := ak (hi); (try clear hb); (try clear hb2); (try clear hk); (try clear hi); obtain ⟨_, _, _, _, _, _, _, _⟩ := bc4 BK272; have q61 : (2 : Int) ≤ ((t264.length : Int) : Int) := of_decide_eq_true (by first | (with_reducible assumption) | assumption); obtain ⟨i061, hi061, _, hsz61, _⟩ := info_parts info3; have hcut61 := cut_to (P := Try.prog) 36 3 .i64 Try.underlying36 hi061 Ao57 t264.length co57 2 (by omega) q61 (Kd.R_reads' HO266.out).2.1; have hr61 := Kd.R_take (m := (2 : Int).toNat) HO266.out (by omega); have hy61 : y289.length = (2 : Int).toNat := (by rw [Ny289.out, List.length_take]; omega); rw [← Ny289.out] at hr61; rw [← hy61] at hr61 hcut61; clear hy61 hi061 hsz61 HO266; have HO291 := Aside0.mk hr61; clear hr61; replace q61 := eq_true q61; have hnb62 := NB259_0.out; have hnc62 := NB0_259.out; obtain ⟨_, _, _, _, _, _, _, _⟩ := bc4 BK259))
     refine bodyPost_ret (results_cell_row rfl _ _ gb259 45 #[.int .i64 t260, .slice Ao56 t261.length co56, .slice Ao57 y289.length co57, .slice Ao58 t267.length co58] (0, 0) _ rfl (PX BK259) Try.underlying45 rfl KR) rfl ?_
     exact ⟨.slice Ao56 t261.length co56, .slice Ao57 y289.length co57, .slice Ao58 t267.length co58, RT, Rv (Re2 HO263 BK272 BK259), Rv (Re2 HO291 BK272 BK259), Rv (Re2 HO269 BK272 BK259), PI, PL, PH⟩
    ·rw [if_neg c49] at H
     exact absurd H (by simp)
   ·rw [if_neg c48] at H
    have c48b0 : (t273 == 2) = false := beq_eq_false_iff_ne.mpr c48
    have c48b1 : (t273 != 2) = true := bne_iff_ne.mpr c48
    by_cases c64 : t273 = 3
    ·rw [if_pos c64] at H
     have c64b0 : (t273 == 3) = true := beq_iff_eq.mpr c64
     have c64b1 : (t273 != 3) = false := bne_eq_false_iff_eq.mpr c64
     clear c64
     by_cases c65 : t267.length < 17592186044416
     ·rw [if_pos c65] at H
      have LMc65 := Aside0.mk c65
      clear c65
      obtain ⟨y292, hy292⟩ : ∃ y_ : List Int, y_ = (t267 ++ [1]) := ⟨_, rfl⟩
      replace H : (some (t260, t261, t264, y292, t274, t275)) = some (r1, r2, r3, r4, r5, r6) := by first | (rw [hy292]; with_reducible exact H) | (have H2_ := (Option.bind_some _ _).symm.trans H; rw [hy292]; with_reducible exact H2_) | (have H2_ := (Option.bind_some _ _).symm.trans H; with_reducible exact H2_) | with_reducible exact H | (rw [hy292]; exact H) | exact H
      have Ny292 := Aside0.mk hy292
      clear hy292
      simp only [Option.some.injEq, Prod.mk.injEq] at H
      obtain ⟨rfl, rfl, rfl, rfl, rfl, rfl⟩ := H
      go_enter Try.func133, Try.ntmps133
      go_wp2_with (first | ((with_reducible refine gate_dst (N := 4) rfl ?_); refine bx_ (N := 4) #[.int .i64 0, .slice none 0 0, .slice none 0 0, .slice none 0 0] 45 ?_; intro gb259 hg w66 hbox hb; replace HB := bs HB hb; have BK259 := ak hbox; have GW259 := ak (kz hg HK); have GE259 := ak (Nat.le_trans HW0.out (kz hg HK)); replace HK := ak (KeepBut.trans PH (KeepBut.of_below hb g none) (.inl rfl)); have NB0_259 := ak (nh hg (IsS158.lt (show IsS158 w0 _ g s0_0 s0_1 s0_2 from PI))); have NB259_0 := ak (ng hg (IsS158.lt (show IsS158 w0 _ g s0_0 s0_1 s0_2 from PI))); replace HI0 := ak (IsS158.below PI hb); clear hb hbox hg) | ((with_reducible refine gate_callee (f := 158) rfl ?_); refine goesL_ (some 8) rfl rfl Try.func158 KR rfl #[.pointer (some ⟨g, 0, none⟩), .int .i64 a1] rfl AR ?_; (with_reducible refine (spec_l11Draw.calls k g s0_0 s0_1 s0_2 a1 t260 t261 t264 t267 t270 t271 w0 _ ?side1 ?side2 A3.out).mono ?_); (case side1 => exact PI); (case side2 => exact PL); rintro e w67 ⟨v262, v265, v268, rfl, ho0, ho1, ho2, hi, hb, hk⟩; refine ⟨_, rfl, ?_⟩; replace BK259 := kq hk BK259 NB259_0; have HO263 := ak (Kd.R_lower ho0 (keep_size (w := w) (g := g) (row := none) PH)); have HO266 := ak (Kd.R_lower ho1 (keep_size (w := w) (g := g) (row := none) PH)); have HO269 := ak (Kd.R_lower ho2 (keep_size (w := w) (g := g) (row := none) PH)); replace HK := kt HK hk; replace HB := ak hb; replace HI0 := ak (hi); (try clear hb); (try clear hb2); (try clear hk); (try clear hi); (try clear ho0); (try clear ho1); (try clear ho2)) | ((with_reducible refine gate_dst (N := 5) rfl ?_); refine bx_ (N := 5) #[.int .i64 0, .slice none 0 0, .slice none 0 0, .slice none 0 0] 45 ?_; intro gb272 hg w68 hbox hb; replace HO263 := Rb HO263 hb; replace HO266 := Rb HO266 hb; replace HO269 := Rb HO269 hb; replace HB := bs HB hb; have BK272 := ak hbox; have GW272 := ak (kz hg HK); have GE272 := ak (Nat.le_trans HW0.out (kz hg HK)); replace HK := ak (KeepBut.trans PH (KeepBut.of_below hb g none) (.inl rfl)); have NB259_272 := gm hg BK259; have NB272_259 := gn hg BK259; replace BK259 := kf BK259 hb; have NB0_272 := ak (nh hg (IsS158.lt (show IsS158 w0 _ g s0_0 t270 t271 from PI))); have NB272_0 := ak (ng hg (IsS158.lt (show IsS158 w0 _ g s0_0 t270 t271 from PI))); replace HI0 := ak (IsS158.below PI hb); clear hb hbox hg; have hnb69 := NB272_259.out; have hnc69 := NB259_272.out; have hnb70 := NB272_0.out; have hnc70 := NB0_272.out; obtain ⟨_, _, _, _, _, _, _, _⟩ := bc4 BK272; obtain ⟨Ao72, co72, eo72⟩ := Kd.R_slice HO263.out; subst eo72; obtain ⟨Ao73, co73, eo73⟩ := Kd.R_slice HO266.out; subst eo73; obtain ⟨Ao74, co74, eo74⟩ := Kd.R_slice HO269.out; subst eo74) | ((with_reducible refine gate_callee (f := 68) rfl ?_); refine goesL_ (some 10) rfl rfl Try.func68 KR rfl #[.pointer (some ⟨g, 0, none⟩), .int .i64 10] rfl AR ?_; (with_reducible refine (spec_l1Below.calls g s0_0 t270 t271 10 t273 t274 t275 w0 _ ?side1 ?side2 A4.out).mono ?_); (case side1 => exact PI); (case side2 => exact PL); rintro e w75 ⟨rfl, hi, hb, hk⟩; refine ⟨_, rfl, ?_⟩; replace BK259 := kq hk BK259 NB259_0; replace HO263 := Rk (IsS158.apart (show IsS158 w0 _ g s0_0 t270 t271 from PI) (Re1 HO263 BK272) (by decide)) hk; replace HO266 := Rk (IsS158.apart (show IsS158 w0 _ g s0_0 t270 t271 from PI) (Re1 HO266 BK272) (by decide)) hk; replace HO269 := Rk (IsS158.apart (show IsS158 w0 _ g s0_0 t270 t271 from PI) (Re1 HO269 BK272) (by decide)) hk; replace BK272 := kr (cs' := #[.int .i64 t260, .slice Ao72 t261.length co72, .slice Ao73 t264.length co73, .slice Ao74 t267.length co74]) hk BK272 NB272_0; replace HK := kt HK hk; replace HB := ak hb; replace HI0 := ak (hi); (try clear hb); (try clear hb2); (try clear hk); (try clear hi); obtain ⟨_, _, _, _, _, _, _, _⟩ := bc4 BK272) | ((with_reducible refine gate_builtin (b := .append) (xs := #[.tmp 34, .tmp 35]) rfl ?_); at_builtin; refine Kd.R_append (Kd.int .i64) w.heap.size rfl (.tmp 34) (.tmp 35) 36 3 (.int .i64 0) 8 rfl Try.underlying36 info3 rfl (by decide) (by omega) (.slice Ao74 t267.length co74) t267 1 [.int .i64 1] (fun k_ => some k_ ≠ (.slice Ao72 t261.length co72 : Value).ownBlock ∧ some k_ ≠ (.slice Ao73 t264.length co73 : Value).ownBlock) (fun _ => False) rfl rfl ?aP (fun _ hk => hk.elim) ?aF ?aO (Below.refl _ _) ?aS ?aL ?_; (case aP => exact rfl); (case aF => exact (fun k_ hk => ⟨Kd.fresh' (Kd.R_lt (PR HO263)) k_ hk, Kd.fresh' (Kd.R_lt (PR HO266)) k_ hk⟩)); (case aO => exact (PR HO269)); (case aS => exact (keep_size (w := w) (g := g) (row := none) PH)); (case aL => have := LMc65.out; omega); intro v293 w77 ho hb hg hat; rw [← Ny292.out] at ho; replace HI0 := ak (IsS158.grown PI hg (IsS158.own_ne HI0.out HO269.out (by decide))); replace BK259 := ak (blk_grown (g := gb259) (o := .cells #[.int .i64 0, .slice none 0 0, .slice none 0 0, .slice none 0 0] 45 (0, 0)) (PK BK259) hg (Kd.R_ne HO269.out BK259.out (by decide))); replace HO263 := ak (Kd.R_after (ok := (fun k_ => some k_ ≠ (.slice Ao73 t264.length co73 : Value).ownBlock)) (PR HO263) hg hat); replace HO266 := ak (Kd.R_after (ok := (fun k_ => some k_ ≠ (.slice Ao72 t261.length co72 : Value).ownBlock)) (PR HO266) hg hat); replace BK272 := ak (blk_grown (g := gb272) (o := .cells #[.int .i64 t260, .slice Ao72 t261.length co72, .slice Ao73 t264.length co73, .slice Ao74 t267.length co74] 45 (0, 0)) (PK BK272) hg (Kd.R_ne HO269.out BK272.out (by decide))); replace HB := ak (below_weaken PL HL.out hb); replace HK := ak (KeepBut.trans PH (KeepBut.of_grown hg g) (Kd.R_base2 HO269.out)); have HO294 := ak (ho); clear HO269; clear ho hb hg hat; obtain ⟨Ao78, co78, eo78⟩ := Kd.R_slice HO294.out; subst eo78; obtain ⟨_, _, _, _, _, _, _, _⟩ := bc4 BK272; have hnb80 := NB259_0.out; have hnc80 := NB0_259.out; obtain ⟨_, _, _, _, _, _, _, _⟩ := bc4 BK259))
      refine bodyPost_ret (results_cell_row rfl _ _ gb259 45 #[.int .i64 t260, .slice Ao72 t261.length co72, .slice Ao73 t264.length co73, .slice Ao78 y292.length co78] (0, 0) _ rfl (PX BK259) Try.underlying45 rfl KR) rfl ?_
      exact ⟨.slice Ao72 t261.length co72, .slice Ao73 t264.length co73, .slice Ao78 y292.length co78, RT, Rv (Re2 HO263 BK272 BK259), Rv (Re2 HO266 BK272 BK259), Rv (Re2 HO294 BK272 BK259), PI, PL, PH⟩
     ·rw [if_neg c65] at H
      exact absurd H (by simp)
    ·rw [if_neg c64] at H
     have c64b0 : (t273 == 3) = false := beq_eq_false_iff_ne.mpr c64
     have c64b1 : (t273 != 3) = true := bne_iff_ne.mpr c64
     simp only [Option.some.injEq, Prod.mk.injEq] at H
     obtain ⟨rfl, rfl, rfl, rfl, rfl, rfl⟩ := H
     go_enter Try.func133, Try.ntmps133
     go_wp2_with (first | ((with_reducible refine gate_dst (N := 4) rfl ?_); refine bx_ (N := 4) #[.int .i64 0, .slice none 0 0, .slice none 0 0, .slice none 0 0] 45 ?_; intro gb259 hg w82 hbox hb; replace HB := bs HB hb; have BK259 := ak hbox; have GW259 := ak (kz hg HK); have GE259 := ak (Nat.le_trans HW0.out (kz hg HK)); replace HK := ak (KeepBut.trans PH (KeepBut.of_below hb g none) (.inl rfl)); have NB0_259 := ak (nh hg (IsS158.lt (show IsS158 w0 _ g s0_0 s0_1 s0_2 from PI))); have NB259_0 := ak (ng hg (IsS158.lt (show IsS158 w0 _ g s0_0 s0_1 s0_2 from PI))); replace HI0 := ak (IsS158.below PI hb); clear hb hbox hg) | ((with_reducible refine gate_callee (f := 158) rfl ?_); refine goesL_ (some 8) rfl rfl Try.func158 KR rfl #[.pointer (some ⟨g, 0, none⟩), .int .i64 a1] rfl AR ?_; (with_reducible refine (spec_l11Draw.calls k g s0_0 s0_1 s0_2 a1 t260 t261 t264 t267 t270 t271 w0 _ ?side1 ?side2 A3.out).mono ?_); (case side1 => exact PI); (case side2 => exact PL); rintro e w83 ⟨v262, v265, v268, rfl, ho0, ho1, ho2, hi, hb, hk⟩; refine ⟨_, rfl, ?_⟩; replace BK259 := kq hk BK259 NB259_0; have HO263 := ak (Kd.R_lower ho0 (keep_size (w := w) (g := g) (row := none) PH)); have HO266 := ak (Kd.R_lower ho1 (keep_size (w := w) (g := g) (row := none) PH)); have HO269 := ak (Kd.R_lower ho2 (keep_size (w := w) (g := g) (row := none) PH)); replace HK := kt HK hk; replace HB := ak hb; replace HI0 := ak (hi); (try clear hb); (try clear hb2); (try clear hk); (try clear hi); (try clear ho0); (try clear ho1); (try clear ho2)) | ((with_reducible refine gate_dst (N := 5) rfl ?_); refine bx_ (N := 5) #[.int .i64 0, .slice none 0 0, .slice none 0 0, .slice none 0 0] 45 ?_; intro gb272 hg w84 hbox hb; replace HO263 := Rb HO263 hb; replace HO266 := Rb HO266 hb; replace HO269 := Rb HO269 hb; replace HB := bs HB hb; have BK272 := ak hbox; have GW272 := ak (kz hg HK); have GE272 := ak (Nat.le_trans HW0.out (kz hg HK)); replace HK := ak (KeepBut.trans PH (KeepBut.of_below hb g none) (.inl rfl)); have NB259_272 := gm hg BK259; have NB272_259 := gn hg BK259; replace BK259 := kf BK259 hb; have NB0_272 := ak (nh hg (IsS158.lt (show IsS158 w0 _ g s0_0 t270 t271 from PI))); have NB272_0 := ak (ng hg (IsS158.lt (show IsS158 w0 _ g s0_0 t270 t271 from PI))); replace HI0 := ak (IsS158.below PI hb); clear hb hbox hg; have hnb85 := NB272_259.out; have hnc85 := NB259_272.out; have hnb86 := NB272_0.out; have hnc86 := NB0_272.out; obtain ⟨_, _, _, _, _, _, _, _⟩ := bc4 BK272; obtain ⟨Ao88, co88, eo88⟩ := Kd.R_slice HO263.out; subst eo88; obtain ⟨Ao89, co89, eo89⟩ := Kd.R_slice HO266.out; subst eo89; obtain ⟨Ao90, co90, eo90⟩ := Kd.R_slice HO269.out; subst eo90) | ((with_reducible refine gate_callee (f := 68) rfl ?_); refine goesL_ (some 10) rfl rfl Try.func68 KR rfl #[.pointer (some ⟨g, 0, none⟩), .int .i64 10] rfl AR ?_; (with_reducible refine (spec_l1Below.calls g s0_0 t270 t271 10 t273 t274 t275 w0 _ ?side1 ?side2 A4.out).mono ?_); (case side1 => exact PI); (case side2 => exact PL); rintro e w91 ⟨rfl, hi, hb, hk⟩; refine ⟨_, rfl, ?_⟩; replace BK259 := kq hk BK259 NB259_0; replace HO263 := Rk (IsS158.apart (show IsS158 w0 _ g s0_0 t270 t271 from PI) (Re1 HO263 BK272) (by decide)) hk; replace HO266 := Rk (IsS158.apart (show IsS158 w0 _ g s0_0 t270 t271 from PI) (Re1 HO266 BK272) (by decide)) hk; replace HO269 := Rk (IsS158.apart (show IsS158 w0 _ g s0_0 t270 t271 from PI) (Re1 HO269 BK272) (by decide)) hk; replace BK272 := kr (cs' := #[.int .i64 t260, .slice Ao88 t261.length co88, .slice Ao89 t264.length co89, .slice Ao90 t267.length co90]) hk BK272 NB272_0; replace HK := kt HK hk; replace HB := ak hb; replace HI0 := ak (hi); (try clear hb); (try clear hb2); (try clear hk); (try clear hi); obtain ⟨_, _, _, _, _, _, _, _⟩ := bc4 BK272; have hnb93 := NB259_0.out; have hnc93 := NB0_259.out; obtain ⟨_, _, _, _, _, _, _, _⟩ := bc4 BK259))
     refine bodyPost_ret (results_cell_row rfl _ _ gb259 45 #[.int .i64 t260, .slice Ao88 t261.length co88, .slice Ao89 t264.length co89, .slice Ao90 t267.length co90] (0, 0) _ rfl (PX BK259) Try.underlying45 rfl KR) rfl ?_
     exact ⟨_, _, _, RT, Re1 HO263 BK259, Re1 HO266 BK259, Re1 HO269 BK259, PI, PL, PH⟩

/-! ### spec_DrawWantOf: function 76 -/
def spec_DrawWantOf.f (k : Nat) (l0 : List Int) : Option ((List (S121)) × Int × List Int × List Int × List Int) := (spec_l1New.f k l0).bind fun bt296 => ((spec_l10Any.f k bt296.1 bt296.2.1 bt296.2.2).bind fun bt300 => ((spec_l11Any.f k bt296.1 bt300.2.1 bt300.2.2 (bt300.1.length : Int)).bind fun bt305 => (some (bt300.1, bt305.1, bt305.2.1, bt305.2.2.1, bt305.2.2.2.1))))
set_option maxHeartbeats 8000000 in
set_option maxRecDepth 100000 in
theorem spec_DrawWantOf.calls (k : Nat) (A0 : Option Addr) (c0 : Nat) (l0 : List Int) (r1 : List (S121)) (r2 : Int) (r3 : List Int) (r4 : List Int) (r5 : List Int) (w : World) (hr0 : Kd.C (Kd.int .u8) w A0 l0.length l0) (hc0 : l0.length ≤ c0) (h : spec_DrawWantOf.f k l0 = some (r1, r2, r3, r4, r5)) :
  Calls Try.prog 76 #[.slice A0 l0.length c0] w fun e w' => ∃ v0_ v2_ v3_ v4_ : Value, e = .returned (.tuple #[v0_, .agg #[.int .i64 r2, v2_, v3_, v4_]]) ∧ Kd.R k121 121 w' w.heap.size (fun _ => True) v0_ r1 ∧ Kd.R (Kd.int .i64) 3 w' w.heap.size (fun k_ => some k_ ≠ (v3_ : Value).ownBlock ∧ some k_ ≠ (v4_ : Value).ownBlock) v2_ r3 ∧ Kd.R (Kd.int .i64) 3 w' w.heap.size (fun k_ => some k_ ≠ (v2_ : Value).ownBlock ∧ some k_ ≠ (v4_ : Value).ownBlock) v3_ r4 ∧ Kd.R (Kd.int .i64) 3 w' w.heap.size (fun k_ => some k_ ≠ (v2_ : Value).ownBlock ∧ some k_ ≠ (v3_ : Value).ownBlock) v4_ r5 ∧ Below w.heap.size w w' := by
 have hu45 := Try.underlying45
 have HR0 := Aside0.mk hr0
 have HC0 := Aside0.mk hc0
 clear hr0 hc0
 have HB := ak (Below.refl w.heap.size w)
 have H : ((spec_l1New.f k l0).bind fun bt296 => ((spec_l10Any.f k bt296.1 bt296.2.1 bt296.2.2).bind fun bt300 => ((spec_l11Any.f k bt296.1 bt300.2.1 bt300.2.2 (bt300.1.length : Int)).bind fun bt305 => (some (bt300.1, bt305.1, bt305.2.1, bt305.2.2.1, bt305.2.2.2.1))))) = some (r1, r2, r3, r4, r5) := h
 clear h
 replace H := Option.bind_eq_some_iff.mp H
 obtain ⟨⟨t296, t297, t298⟩, A20, H⟩ := H
 replace H : ((spec_l10Any.f k t296 t297 t298).bind fun bt300 => ((spec_l11Any.f k t296 bt300.2.1 bt300.2.2 (bt300.1.length : Int)).bind fun bt305 => (some (bt300.1, bt305.1, bt305.2.1, bt305.2.2.1, bt305.2.2.2.1)))) = some (r1, r2, r3, r4, r5) := H
 have A2 := Aside0.mk A20
 clear A20
 replace H := Option.bind_eq_some_iff.mp H
 obtain ⟨⟨t300, t303, t304⟩, A30, H⟩ := H
 replace H : ((spec_l11Any.f k t296 t303 t304 (t300.length : Int)).bind fun bt305 => (some (t300, bt305.1, bt305.2.1, bt305.2.2.1, bt305.2.2.2.1))) = some (r1, r2, r3, r4, r5) := H
 have A3 := Aside0.mk A30
 clear A30
 replace H := Option.bind_eq_some_iff.mp H
 obtain ⟨⟨t305, t306, t309, t312, t315, t316⟩, A40, H⟩ := H
 replace H : (some (t300, t305, t306, t309, t312)) = some (r1, r2, r3, r4, r5) := H
 have A4 := Aside0.mk A40
 clear A40
 simp only [Option.some.injEq, Prod.mk.injEq] at H
 obtain ⟨rfl, rfl, rfl, rfl, rfl⟩ := H
 go_enter Try.func76, Try.ntmps76
 go_wp2_with (first | ((with_reducible refine gate_dst (N := 3) rfl ?_); refine bx_ (N := 3) #[.int .i64 0, .slice none 0 0, .slice none 0 0, .slice none 0 0] 45 ?_; intro gb295 hg w5 hbox hb; have BK295 := ak hbox; have GW295 := gy hg HB; have GE295 := gy hg HB; replace HB := bs HB hb; clear hb hbox hg) | ((with_reducible refine gate_callee (f := 66) rfl ?_); refine goesL_ (some 7) rfl rfl Try.func66 KR rfl #[.slice A0 l0.length c0] rfl AR ?_; (with_reducible refine (spec_l1New.calls k _ _ l0 t296 t297 t298 w _ ?side1 ?side2 ?side3 A2.out).mono ?_); (case side1 => exact PL); (case side2 => exact HR0.out); (case side3 => exact HC0.out); rintro e w6 ⟨g299, rfl, hi, hb, hb2⟩; refine ⟨_, rfl, ?_⟩; replace HB := ak hb; have HI299 := ak (hi); have NB299_295 := ak (IsS158.ne_blk hi (blk_below (g := gb295) (o := .cells #[.int .i64 0, .slice none 0 0, .slice none 0 0, .slice none 0 0] 45 (0, 0)) (PK BK295) hb2) (by decide)); have NB295_299 := ak (Ne.symm (IsS158.ne_blk hi (blk_below (g := gb295) (o := .cells #[.int .i64 0, .slice none 0 0, .slice none 0 0, .slice none 0 0] 45 (0, 0)) (PK BK295) hb2) (by decide))); replace BK295 := ak (blk_below (g := gb295) (o := .cells #[.int .i64 0, .slice none 0 0, .slice none 0 0, .slice none 0 0] 45 (0, 0)) (PK BK295) hb2); (try clear hb); (try clear hb2); (try clear hk); (try clear hi)) | ((with_reducible refine gate_callee (f := 132) rfl ?_); refine goesL_ (some 9) rfl rfl Try.func132 KR rfl #[.pointer (some ⟨g299, 0, none⟩)] rfl AR ?_; (with_reducible refine (spec_l10Any.calls k g299 t296 t297 t298 t300 t303 t304 w _ ?side1 ?side2 A3.out).mono ?_); (case side1 => repeat (first | (with_reducible first | exact HI299.out | apply IsS158.alloc | apply IsS158.drewN | apply IsS158.drew | apply IsS158.set_1 | apply IsS158.set_2 | refine IsS158.far ?_ NB299_295.out _) | exact HI299.out)); (case side2 => repeat (first | (with_reducible first | exact HB.out | apply below_alloc | apply pw_below_drewN | apply below_drew1 | refine below_set ?_ (IsS158.ge HI299.out) | refine below_set ?_ GE295.out) | exact HB.out)); rintro e w7 ⟨v301, rfl, ho0, hi, hb, hk⟩; refine ⟨_, rfl, ?_⟩; replace BK295 := kq hk BK295 NB295_299; have HO302 := ak (Kd.R_lower ho0 (below_size (by repeat (first | (with_reducible first | exact HB.out | apply below_alloc | apply pw_below_drewN | apply below_drew1 | refine below_set ?_ (IsS158.ge HI299.out) | refine below_set ?_ GE295.out) | exact HB.out)))); replace HB := ak hb; replace HI299 := ak (hi); (try clear hb); (try clear hb2); (try clear hk); (try clear hi); (try clear ho0); obtain ⟨Ao8, co8, eo8⟩ := Kd.R_slice HO302.out; subst eo8) | ((with_reducible refine gate_callee (f := 133) rfl ?_); refine goesL_ (some 14) rfl rfl Try.func133 KR rfl #[.pointer (some ⟨g299, 0, none⟩), .int .i64 (t300.length : Int)] rfl AR ?_; (with_reducible refine (spec_l11Any.calls k g299 t296 t303 t304 (t300.length : Int) t305 t306 t309 t312 t315 t316 w _ ?side1 ?side2 A4.out).mono ?_); (case side1 => repeat (first | (with_reducible first | exact HI299.out | apply IsS158.alloc | apply IsS158.drewN | apply IsS158.drew | apply IsS158.set_1 | apply IsS158.set_2 | refine IsS158.far ?_ NB299_295.out _) | exact HI299.out)); (case side2 => repeat (first | (with_reducible first | exact HB.out | apply below_alloc | apply pw_below_drewN | apply below_drew1 | refine below_set ?_ (IsS158.ge HI299.out) | refine below_set ?_ GE295.out) | exact HB.out)); rintro e w9 ⟨v307, v310, v313, rfl, ho0, ho1, ho2, hi, hb, hk⟩; refine ⟨_, rfl, ?_⟩; replace BK295 := kq hk BK295 NB295_299; replace HO302 := Rk (IsS158.apart (show IsS158 w _ g299 t296 t303 t304 from by repeat (first | (with_reducible first | exact HI299.out | apply IsS158.alloc | apply IsS158.drewN | apply IsS158.drew | apply IsS158.set_1 | apply IsS158.set_2 | refine IsS158.far ?_ NB299_295.out _) | exact HI299.out)) (PR HO302) (by decide)) hk; have HO308 := ak (Kd.R_lower ho0 (below_size (by repeat (first | (with_reducible first | exact HB.out | apply below_alloc | apply pw_below_drewN | apply below_drew1 | refine below_set ?_ (IsS158.ge HI299.out) | refine below_set ?_ GE295.out) | exact HB.out)))); have HO311 := ak (Kd.R_lower ho1 (below_size (by repeat (first | (with_reducible first | exact HB.out | apply below_alloc | apply pw_below_drewN | apply below_drew1 | refine below_set ?_ (IsS158.ge HI299.out) | refine below_set ?_ GE295.out) | exact HB.out)))); have HO314 := ak (Kd.R_lower ho2 (below_size (by repeat (first | (with_reducible first | exact HB.out | apply below_alloc | apply pw_below_drewN | apply below_drew1 | refine below_set ?_ (IsS158.ge HI299.out) | refine below_set ?_ GE295.out) | exact HB.out)))); replace HB := ak hb; replace HI299 := ak (hi); (try clear hb); (try clear hb2); (try clear hk); (try clear hi); (try clear ho0); (try clear ho1); (try clear ho2); have hnb10 := NB295_299.out; have hnc10 := NB299_295.out; obtain ⟨_, _, _, _, _, _, _, _⟩ := bc4 BK295; obtain ⟨Ao12, co12, eo12⟩ := Kd.R_slice HO308.out; subst eo12; obtain ⟨Ao13, co13, eo13⟩ := Kd.R_slice HO311.out; subst eo13; obtain ⟨Ao14, co14, eo14⟩ := Kd.R_slice HO314.out; subst eo14))
 refine bodyPost_ret (results_tc rfl _ _ gb295 45 #[.int .i64 t305, .slice Ao12 t306.length co12, .slice Ao13 t309.length co13, .slice Ao14 t312.length co14] (0, 0) _ rfl (PX BK295) Try.underlying45 rfl KR) rfl ?_
 exact ⟨_, _, _, _, RT, RX (Rt HO302.out BK295) (fun _ hk => trivial), Re1 HO308 BK295, Re1 HO311 BK295, Re1 HO314 BK295, by repeat (first | (with_reducible first | exact HB.out | apply below_alloc | apply pw_below_drewN | apply below_drew1 | refine below_set ?_ (IsS158.ge HI299.out) | refine below_set ?_ GE295.out) | exact HB.out)⟩

/-! ### spec_DrawStepState: function 19 -/
def spec_DrawStepState.f (k : Nat) (l0 : List Int) : Option ((List (S121)) × Int × List Int × List Int × List Int × Int) := (spec_DrawWantOf.f k l0).bind fun bt318 => ((spec_l1New.f k l0).bind fun bt332 => ((spec_l1Int.f bt332.1 bt332.2.1 bt332.2.2 (([0, 5, 999, 1000, (-1), 9223372036854775807] : List Int))).bind fun bt339 => (some (bt318.1, bt318.2.1, bt318.2.2.1, bt318.2.2.2.1, bt318.2.2.2.2, bt339.1))))
def spec_DrawStepState.T3 : Bool × List (List Nat × List Nat) := (true, [([], []), ([], []), ([], []), ([], []), ([2, 3], [2, 3]), ([0, 4, 0], [0]), ([1, 5, 0, 1, 5], [1]), ([4, 6, 0, 1, 2, 3, 4, 5, 6], [4])])
def spec_DrawStepState.B3 : List Nat := [0, 0, 0, 0, 12, 29, 63, 127]
theorem spec_DrawStepState.tab3 : rtab .any (opsOf Try.f19 3) = spec_DrawStepState.T3 := by kernel_rfl
theorem spec_DrawStepState.bits3 : waitsOk spec_DrawStepState.T3.2 spec_DrawStepState.B3 = true := by kernel_rfl
set_option maxHeartbeats 8000000 in
set_option maxRecDepth 100000 in
theorem spec_DrawStepState.calls (k : Nat) (A0 : Option Addr) (c0 : Nat) (l0 : List Int) (r1 : List (S121)) (r2 : Int) (r3 : List Int) (r4 : List Int) (r5 : List Int) (r6 : Int) (w : World) (hr0 : Kd.C (Kd.int .u8) w A0 l0.length l0) (hc0 : l0.length ≤ c0) (h : spec_DrawStepState.f k l0 = some (r1, r2, r3, r4, r5, r6)) :
  Calls Try.prog 19 #[.slice A0 l0.length c0] w fun e w' => ∃ v0_ v2_ v3_ v4_ : Value, e = .returned (.tuple #[v0_, .agg #[.int .i64 r2, v2_, v3_, v4_], .int .i64 r6]) ∧ Kd.R k121 121 w' w.heap.size (fun _ => True) v0_ r1 ∧ Kd.R (Kd.int .i64) 3 w' w.heap.size (fun k_ => some k_ ≠ (v3_ : Value).ownBlock ∧ some k_ ≠ (v4_ : Value).ownBlock) v2_ r3 ∧ Kd.R (Kd.int .i64) 3 w' w.heap.size (fun k_ => some k_ ≠ (v2_ : Value).ownBlock ∧ some k_ ≠ (v4_ : Value).ownBlock) v3_ r4 ∧ Kd.R (Kd.int .i64) 3 w' w.heap.size (fun k_ => some k_ ≠ (v2_ : Value).ownBlock ∧ some k_ ≠ (v3_ : Value).ownBlock) v4_ r5 ∧ Below w.heap.size w w' := by
 have hu45 := Try.underlying45
 have HR0 := Aside0.mk hr0
 have HC0 := Aside0.mk hc0
 clear hr0 hc0
 have HB := ak (Below.refl w.heap.size w)
 have H : ((spec_DrawWantOf.f k l0).bind fun bt318 => ((spec_l1New.f k l0).bind fun bt332 => ((spec_l1Int.f bt332.1 bt332.2.1 bt332.2.2 (([0, 5, 999, 1000, (-1), 9223372036854775807] : List Int))).bind fun bt339 => (some (bt318.1, bt318.2.1, bt318.2.2.1, bt318.2.2.2.1, bt318.2.2.2.2, bt339.1))))) = some (r1, r2, r3, r4, r5, r6) := h
 clear h
 replace H := Option.bind_eq_some_iff.mp H
 obtain ⟨⟨t318, t321, t322, t325, t328⟩, A20, H⟩ := H
 replace H : ((spec_l1New.f k l0).bind fun bt332 => ((spec_l1Int.f bt332.1 bt332.2.1 bt332.2.2 (([0, 5, 999, 1000, (-1), 9223372036854775807] : List Int))).bind fun bt339 => (some (t318, t321, t322, t325, t328, bt339.1)))) = some (r1, r2, r3, r4, r5, r6) := H
 have A2 := Aside0.mk A20
 clear A20
 replace H := Option.bind_eq_some_iff.mp H
 obtain ⟨⟨t332, t333, t334⟩, A30, H⟩ := H
 replace H : ((spec_l1Int.f t332 t333 t334 (([0, 5, 999, 1000, (-1), 9223372036854775807] : List Int))).bind fun bt339 => (some (t318, t321, t322, t325, t328, bt339.1))) = some (r1, r2, r3, r4, r5, r6) := H
 have A3 := Aside0.mk A30
 clear A30
 obtain ⟨y336, hy336⟩ : ∃ y_ : List Int, y_ = (([0, 5, 999, 1000, (-1), 9223372036854775807] : List Int)) := ⟨_, rfl⟩
 replace H : ((spec_l1Int.f t332 t333 t334 y336).bind fun bt339 => (some (t318, t321, t322, t325, t328, bt339.1))) = some (r1, r2, r3, r4, r5, r6) := by first | (rw [hy336]; with_reducible exact H) | (have H2_ := (Option.bind_some _ _).symm.trans H; rw [hy336]; with_reducible exact H2_) | (have H2_ := (Option.bind_some _ _).symm.trans H; with_reducible exact H2_) | with_reducible exact H | (rw [hy336]; exact H) | exact H
 have Ny336 := Aside0.mk hy336
 clear hy336
 replace H := Option.bind_eq_some_iff.mp H
 obtain ⟨⟨t339, t340, t341⟩, A40, H⟩ := H
 replace H : (some (t318, t321, t322, t325, t328, t339)) = some (r1, r2, r3, r4, r5, r6) := H
 have A4 := Aside0.mk A40
 clear A40
 simp only [Option.some.injEq, Prod.mk.injEq] at H
 obtain ⟨rfl, rfl, rfl, rfl, rfl, rfl⟩ := H
 go_enter Try.func19, Try.ntmps19
 try go_wp2_with (first | ((with_reducible refine gate_dst (N := 3) rfl ?_); refine bx_ (N := 3) #[.int .i64 0, .slice none 0 0, .slice none 0 0, .slice none 0 0] 45 ?_; intro gb317 hg w5 hbox hb; have BK317 := ak hbox; have GW317 := gy hg HB; have GE317 := gy hg HB; replace HB := bs HB hb; clear hb hbox hg) | ((with_reducible refine gate_callee (f := 76) rfl ?_); refine goesL_ (some 10) rfl rfl Try.func76 KR rfl #[.slice A0 l0.length c0] rfl AR ?_; (with_reducible refine (spec_DrawWantOf.calls k _ _ l0 t318 t321 t322 t325 t328 _ ?side1 ?side2 A2.out).mono ?_); (case side1 => exact CR (Kd.C_below HR0.out HB.out)); (case side2 => exact HC0.out); rintro e w6 ⟨v319, v323, v326, v329, rfl, ho0, ho1, ho2, ho3, hb⟩; refine ⟨_, rfl, ?_⟩; have HO320 := Rn0 ho0 HB; have HO324 := Rn0 ho1 HB; have HO327 := Rn0 ho2 HB; have HO330 := Rn0 ho3 HB; replace BK317 := kf BK317 hb; replace HB := bs HB hb; (try clear hb); (try clear hb2); (try clear hk); (try clear hi); (try clear ho0); (try clear ho1); (try clear ho2); (try clear ho3)) | ((with_reducible refine gate_dst (N := 6) rfl ?_); refine bx_ (N := 6) #[.int .i64 0, .slice none 0 0, .slice none 0 0, .slice none 0 0] 45 ?_; intro gb331 hg w7 hbox hb; replace HO320 := Rb HO320 hb; replace HO324 := Rb HO324 hb; replace HO327 := Rb HO327 hb; replace HO330 := Rb HO330 hb; have BK331 := ak hbox; have GW331 := gy hg HB; have GE331 := gy hg HB; replace HB := bs HB hb; have NB317_331 := gm hg BK317; have NB331_317 := gn hg BK317; replace BK317 := kf BK317 hb; clear hb hbox hg; have hnb8 := NB331_317.out; have hnc8 := NB317_331.out; obtain ⟨_, _, _, _, _, _, _, _⟩ := bc4 BK331; obtain ⟨Ao10, co10, eo10⟩ := Kd.R_slice HO324.out; subst eo10; obtain ⟨Ao11, co11, eo11⟩ := Kd.R_slice HO327.out; subst eo11; obtain ⟨Ao12, co12, eo12⟩ := Kd.R_slice HO330.out; subst eo12) | ((with_reducible refine gate_callee (f := 66) rfl ?_); refine goesL_ (some 14) rfl rfl Try.func66 KR rfl #[.slice A0 l0.length c0] rfl AR ?_; (with_reducible refine (spec_l1New.calls k _ _ l0 t332 t333 t334 w _ ?side1 ?side2 ?side3 A3.out).mono ?_); (case side1 => exact PL); (case side2 => exact HR0.out); (case side3 => exact HC0.out); rintro e w13 ⟨g335, rfl, hi, hb, hb2⟩; refine ⟨_, rfl, ?_⟩; replace HO320 := ak (Kd.R_below (Re1 HO320 BK331) hb2); replace HO324 := ak (Kd.R_below (Re1 HO324 BK331) hb2); replace HO327 := ak (Kd.R_below (Re1 HO327 BK331) hb2); replace HO330 := ak (Kd.R_below (Re1 HO330 BK331) hb2); replace HB := ak hb; have HI335 := ak (hi); have NB335_317 := ak (IsS158.ne_blk hi (blk_below (g := gb317) (o := .cells #[.int .i64 0, .slice none 0 0, .slice none 0 0, .slice none 0 0] 45 (0, 0)) (PF BK317) hb2) (by decide)); have NB317_335 := ak (Ne.symm (IsS158.ne_blk hi (blk_below (g := gb317) (o := .cells #[.int .i64 0, .slice none 0 0, .slice none 0 0, .slice none 0 0] 45 (0, 0)) (PF BK317) hb2) (by decide))); replace BK317 := ak (blk_below (g := gb317) (o := .cells #[.int .i64 0, .slice none 0 0, .slice none 0 0, .slice none 0 0] 45 (0, 0)) (PF BK317) hb2); have NB335_331 := ak (IsS158.ne_blk hi (blk_below (g := gb331) (o := .cells #[.int .i64 t321, .slice Ao10 t322.length co10, .slice Ao11 t325.length co11, .slice Ao12 t328.length co12] 45 (0, 0)) (PX BK331) hb2) (by decide)); have NB331_335 := ak (Ne.symm (IsS158.ne_blk hi (blk_below (g := gb331) (o := .cells #[.int .i64 t321, .slice Ao10 t322.length co10, .slice Ao11 t325.length co11, .slice Ao12 t328.length co12] 45 (0, 0)) (PX BK331) hb2) (by decide))); replace BK331 := ak (blk_below (g := gb331) (o := .cells #[.int .i64 t321, .slice Ao10 t322.length co10, .slice Ao11 t325.length co11, .slice Ao12 t328.length co12] 45 (0, 0)) (PX BK331) hb2); (try clear hb); (try clear hb2); (try clear hk); (try clear hi)))
 replace HO320 := ak (Kd.R_drew HO320.out)
 replace HO324 := ak (Kd.R_drew HO324.out)
 replace HO327 := ak (Kd.R_drew HO327.out)
 replace HO330 := ak (Kd.R_drew HO330.out)
 replace BK317 := ak (blk_drew BK317.out)
 replace BK331 := ak (blk_drew BK331.out)
 replace HI335 := ak (IsS158.drew HI335.out)
 replace HB := ak (below_drew1 HB.out)
 refine start_ (n := 8) (S := fun w' => w'.cell? ⟨gb331, 0, none⟩ = some (.int .i64 t321) ∧ w'.cell? ⟨gb331, 1, none⟩ = some (.slice Ao10 t322.length co10) ∧ w'.cell? ⟨gb331, 2, none⟩ = some (.slice Ao11 t325.length co11) ∧ w'.cell? ⟨gb331, 3, none⟩ = some (.slice Ao12 t328.length co12)) (ds := []) #[false, false, false, false, false, false, false, false] KR rfl rfl ⟨(blk_cell BK331.out 0).trans rfl, (blk_cell BK331.out 1).trans rfl, (blk_cell BK331.out 2).trans rfl, (blk_cell BK331.out 3).trans rfl⟩ (fun hHeld => ?_); refine with_tabW spec_DrawStepState.tab3 spec_DrawStepState.bits3 (fun HT_ HW_ => ?_)
 generalize w13.drew = w14 at HO320 HO324 HO327 HO330 BK317 BK331 HI335 HB hHeld ⊢
 refine pu_ (i := 0) (N := some 15) #[true, false, false, false, false, false, false, false] HT_ ?_
 refine pu_ (i := 2) (N := some 17) #[true, false, true, false, false, false, false, false] HT_ ?_
 refine tk_ (i := 1) (N := some 16) #[true, true, true, false, false, false, false, false] rfl rfl HT_ HW_ hHeld ?_
 refine one_ (i := 3) (N := some 18) #[true, true, true, true, false, false, false, false] rfl rfl (one_of HT_.out KR) (by decide) (fun K hK => ?_)
 refine Kd.R_lit_step (Kd.int .i64) _ 3 ?hg (N := 18) ?hd (xs := ([0, 5, 999, 1000, (-1), 9223372036854775807] : List Int)) (inner := [.int .i64 0, .int .i64 5, .int .i64 999, .int .i64 1000, .int .i64 (-1), .int .i64 9223372036854775807]) (ok := fun _ => True) (okp := fun _ => True) ?hr ?hp (fun _ hk => hk) trivial (Below.refl _ _) (Nat.le_refl _) (by simp) ?_; (case hd => rfl); (case hg => rfl); (case hr => first | (go_simp; done) | (go_simp; rfl)); (case hp => exact (Reps.one (show Kd.M (Kd.int .i64) _ _ _ 0 [.int .i64 0] from rfl) (Reps.one (show Kd.M (Kd.int .i64) _ _ _ 5 [.int .i64 5] from rfl) (Reps.one (show Kd.M (Kd.int .i64) _ _ _ 999 [.int .i64 999] from rfl) (Reps.one (show Kd.M (Kd.int .i64) _ _ _ 1000 [.int .i64 1000] from rfl) (Reps.one (show Kd.M (Kd.int .i64) _ _ _ (-1) [.int .i64 (-1)] from rfl) (Reps.one (show Kd.M (Kd.int .i64) _ _ _ 9223372036854775807 [.int .i64 9223372036854775807] from rfl) (Reps.none _ _))))))))
 intro v337 w15 ho16 hb hg_ hnew_
 clear hg_ hnew_
 (first | rw [← Ny336.out] at ho16 | (simp only [Int.reduceToNat] at ho16; rw [← Ny336.out] at ho16))
 replace HO320 := Rb HO320 hb
 have HO338 := ak (Kd.R_lower (Kd.R_new' (Kd.R_new' (Kd.R_new' ho16 (Kd.R_lt (PR HO324))) (Kd.R_lt (PR HO327))) (Kd.R_lt (PR HO330))) (below_size (by repeat (first | (with_reducible first | exact HB.out | apply below_alloc | apply pw_below_drewN | apply below_drew1 | refine below_set ?_ (IsS158.ge HI335.out) | refine below_set ?_ GE317.out | refine below_set ?_ GE331.out) | exact HB.out))))
 replace HO324 := ak (Kd.R_elder' (PR HO324) (Kd.R_base ho16) hb)
 replace HO327 := ak (Kd.R_elder' (PR HO327) (Kd.R_base ho16) hb)
 replace HO330 := ak (Kd.R_elder' (PR HO330) (Kd.R_base ho16) hb)
 replace BK317 := kf BK317 hb
 replace BK331 := kf BK331 hb
 replace HB := ak (below_step (by repeat (first | (with_reducible first | exact HB.out | apply below_alloc | apply pw_below_drewN | apply below_drew1 | refine below_set ?_ (IsS158.ge HI335.out) | refine below_set ?_ GE317.out | refine below_set ?_ GE331.out) | exact HB.out)) hb)
 replace HI335 := ak (IsS158.below (by repeat (first | (with_reducible first | exact HI335.out | apply IsS158.alloc | apply IsS158.drewN | apply IsS158.drew | apply IsS158.set_1 | apply IsS158.set_2 | refine IsS158.far ?_ NB335_317.out _ | refine IsS158.far ?_ NB335_331.out _) | exact HI335.out)) hb)
 clear hb ho16
 obtain ⟨Ao17, co17, eo17⟩ := Kd.R_slice HO338.out
 (first | subst eo17 | (injection eo17 with f1_ f2_ f3_; have f4_ := f1_.symm; have f5_ := f3_.symm; clear f1_ f2_ f3_; subst f4_; subst f5_))
 refine hK.out _ _ ⟨(blk_cell BK331.out 0).trans rfl, (blk_cell BK331.out 1).trans rfl, (blk_cell BK331.out 2).trans rfl, (blk_cell BK331.out 3).trans rfl⟩ (fun hHeld => ?_)
 clear hK K
 refine norm_ (a' := ?_) ?_ ?_
 rotate_left
 ·show Act.put _ (some 18) _ = _
  simp only [Act.put, List.setIfInBounds_toArray, List.set_cons_zero, List.set_cons_succ, i64_w, i32_w]
  rfl
 refine one_ (i := 4) (N := some 19) #[true, true, true, true, true, false, false, false] rfl rfl (one_of HT_.out KR) (by decide) (fun K hK => ?_)
 refine goes_ Try.func67 KR rfl #[.pointer (some ⟨g335, 0, none⟩), .slice Ao17 y336.length co17] (by rfl) rfl rfl AR ?_
 with_reducible refine (spec_l1Int.calls g335 t332 t333 t334 _ _ y336 t339 t340 t341 w _ ?side1 ?side2 ?side3 ?side4 ?side5 A4.out).mono ?_
 (case side1 => repeat (first | (with_reducible first | exact HI335.out | apply IsS158.alloc | apply IsS158.drewN | apply IsS158.drew | apply IsS158.set_1 | apply IsS158.set_2 | refine IsS158.far ?_ NB335_317.out _ | refine IsS158.far ?_ NB335_331.out _) | exact HI335.out))
 (case side2 => repeat (first | (with_reducible first | exact HB.out | apply below_alloc | apply pw_below_drewN | apply below_drew1 | refine below_set ?_ (IsS158.ge HI335.out) | refine below_set ?_ GE317.out | refine below_set ?_ GE331.out) | exact HB.out))
 (case side3 => exact CR ((Kd.R_reads' HO338.out).2.2))
 (case side4 => exact (Kd.R_reads' HO338.out).2.1)
 (case side5 => exact far_slice (IsS158.own_ne HI335.out HO338.out (by decide)))
 rintro e w18 ⟨rfl, hi, hb, hk⟩
 refine ⟨_, rfl, ?_⟩
 replace BK317 := kq hk BK317 NB317_335
 replace HO320 := Rk (IsS158.apart (show IsS158 w _ g335 t332 t333 t334 from by repeat (first | (with_reducible first | exact HI335.out | apply IsS158.alloc | apply IsS158.drewN | apply IsS158.drew | apply IsS158.set_1 | apply IsS158.set_2 | refine IsS158.far ?_ NB335_317.out _ | refine IsS158.far ?_ NB335_331.out _) | exact HI335.out)) (PR HO320) (by decide)) hk
 replace HO324 := Rk (IsS158.apart (show IsS158 w _ g335 t332 t333 t334 from by repeat (first | (with_reducible first | exact HI335.out | apply IsS158.alloc | apply IsS158.drewN | apply IsS158.drew | apply IsS158.set_1 | apply IsS158.set_2 | refine IsS158.far ?_ NB335_317.out _ | refine IsS158.far ?_ NB335_331.out _) | exact HI335.out)) (PR HO324) (by decide)) hk
 replace HO327 := Rk (IsS158.apart (show IsS158 w _ g335 t332 t333 t334 from by repeat (first | (with_reducible first | exact HI335.out | apply IsS158.alloc | apply IsS158.drewN | apply IsS158.drew | apply IsS158.set_1 | apply IsS158.set_2 | refine IsS158.far ?_ NB335_317.out _ | refine IsS158.far ?_ NB335_331.out _) | exact HI335.out)) (PR HO327) (by decide)) hk
 replace HO330 := Rk (IsS158.apart (show IsS158 w _ g335 t332 t333 t334 from by repeat (first | (with_reducible first | exact HI335.out | apply IsS158.alloc | apply IsS158.drewN | apply IsS158.drew | apply IsS158.set_1 | apply IsS158.set_2 | refine IsS158.far ?_ NB335_317.out _ | refine IsS158.far ?_ NB335_331.out _) | exact HI335.out)) (PR HO330) (by decide)) hk
 replace BK331 := kq hk BK331 NB331_335
 replace HO338 := Rk (IsS158.apart (show IsS158 w _ g335 t332 t333 t334 from by repeat (first | (with_reducible first | exact HI335.out | apply IsS158.alloc | apply IsS158.drewN | apply IsS158.drew | apply IsS158.set_1 | apply IsS158.set_2 | refine IsS158.far ?_ NB335_317.out _ | refine IsS158.far ?_ NB335_331.out _) | exact HI335.out)) (PR HO338) (by decide)) hk
 replace HB := ak hb
 replace HI335 := ak (hi)
 (try clear hb)
 (try clear hb2)
 (try clear hk)
 (try clear hi)
 refine hK.out _ _ ⟨(blk_cell BK331.out 0).trans rfl, (blk_cell BK331.out 1).trans rfl, (blk_cell BK331.out 2).trans rfl, (blk_cell BK331.out 3).trans rfl⟩ (fun hHeld => ?_)
 clear hK K
 refine norm_ (a' := ?_) ?_ ?_
 rotate_left
 ·show Act.put _ (some 19) _ = _
  simp only [Act.put, List.setIfInBounds_toArray, List.set_cons_zero, List.set_cons_succ, i64_w, i32_w]
  rfl
 refine pu_ (i := 5) (N := some 2) #[true, true, true, true, true, true, false, false] HT_ ?_
 refine one_ (i := 6) (N := none) #[true, true, true, true, true, true, true, false] rfl rfl (one_of HT_.out KR) (by decide) (fun K hK => ?_)
 have hs19 : w18.cell? ⟨gb317, 0, none⟩ = some (.int .i64 0) := (blk_cell BK317.out 0).trans rfl
 have hfs19 := blk_frozen BK317.out 0
 have hns19_1 := NB331_317.out
 have hms19_1 := NB317_331.out
 have hs20 : w18.cell? ⟨gb317, 1, none⟩ = some (.slice none 0 0) := (blk_cell BK317.out 1).trans rfl
 have hfs20 := blk_frozen BK317.out 1
 have hns20_1 := NB331_317.out
 have hms20_1 := NB317_331.out
 have hs21 : w18.cell? ⟨gb317, 2, none⟩ = some (.slice none 0 0) := (blk_cell BK317.out 2).trans rfl
 have hfs21 := blk_frozen BK317.out 2
 have hns21_1 := NB331_317.out
 have hms21_1 := NB317_331.out
 have hs22 : w18.cell? ⟨gb317, 3, none⟩ = some (.slice none 0 0) := (blk_cell BK317.out 3).trans rfl
 have hfs22 := blk_frozen BK317.out 3
 have hns22_1 := NB331_317.out
 have hms22_1 := NB317_331.out
 refine skip_ (w1 := ?_) (by rfl) rfl ?_ ?_
 rotate_left
 ·go_simp
  rfl
 refine hK.out _ _ ⟨((cell_far (p := ⟨gb317, _, none⟩) NB331_317.out _).trans (((cell_far (p := ⟨gb317, _, none⟩) NB331_317.out _).trans (((cell_far (p := ⟨gb317, _, none⟩) NB331_317.out _).trans (((cell_far (p := ⟨gb317, _, none⟩) NB331_317.out _).trans (hHeld.1)))))))), ((cell_far (p := ⟨gb317, _, none⟩) NB331_317.out _).trans (((cell_far (p := ⟨gb317, _, none⟩) NB331_317.out _).trans (((cell_far (p := ⟨gb317, _, none⟩) NB331_317.out _).trans (((cell_far (p := ⟨gb317, _, none⟩) NB331_317.out _).trans (hHeld.2.1)))))))), ((cell_far (p := ⟨gb317, _, none⟩) NB331_317.out _).trans (((cell_far (p := ⟨gb317, _, none⟩) NB331_317.out _).trans (((cell_far (p := ⟨gb317, _, none⟩) NB331_317.out _).trans (((cell_far (p := ⟨gb317, _, none⟩) NB331_317.out _).trans (hHeld.2.2.1)))))))), ((cell_far (p := ⟨gb317, _, none⟩) NB331_317.out _).trans (((cell_far (p := ⟨gb317, _, none⟩) NB331_317.out _).trans (((cell_far (p := ⟨gb317, _, none⟩) NB331_317.out _).trans (((cell_far (p := ⟨gb317, _, none⟩) NB331_317.out _).trans (hHeld.2.2.2))))))))⟩ (fun hHeld => ?_)
 clear hK K
 refine pu_ (i := 7) (N := some 4) #[true, true, true, true, true, true, true, true] HT_ ?_
 refine done_ (done_of HT_.out KR) ?_
 try go_wp2
 refine bodyPost_ret (results_list (rs := [.tmp 2, .cell 3 45, .tmp 4]) rfl (by simp) (.tmp (.cell gb317 45 #[.int .i64 t321, .slice Ao10 t322.length co10, .slice Ao11 t325.length co11, .slice Ao12 t328.length co12] (0, 0) _ rfl (PX BK317) Try.underlying45 rfl KR (.tmp .nil)))) rfl ?_
 exact ⟨_, _, _, _, RT, RX (Rt HO320.out BK317) (fun _ hk => trivial), RX (Rt HO324.out BK317) (fun _ hk => by first | exact ⟨hk.1.1.1, hk.1.1.2⟩ | simp_all), RX (Rt HO327.out BK317) (fun _ hk => by first | exact ⟨hk.1.1.1, hk.1.1.2⟩ | simp_all), RX (Rt HO330.out BK317) (fun _ hk => by first | exact ⟨hk.1.1.1, hk.1.1.2⟩ | simp_all), by repeat (first | (with_reducible first | exact HB.out | apply below_alloc | apply pw_below_drewN | apply below_drew1 | refine below_set ?_ (IsS158.ge HI335.out) | refine below_set ?_ GE317.out | refine below_set ?_ GE331.out) | exact HB.out)⟩

/-! ### slices_Clone_int_int: function 131 -/
def slices_Clone_int_int.f (l0 : List Int) : Option (List Int) := (some (([] : List Int) : List Int)).bind fun y342 => (if y342.length + l0.length < 17592186044416 then (some (y342 ++ l0)) else (none))
set_option maxHeartbeats 8000000 in
set_option maxRecDepth 100000 in
theorem slices_Clone_int_int.calls (A0 : Option Addr) (c0 : Nat) (l0 : List Int) (r : List Int) (w : World) (hr0 : Kd.C (Kd.int .i64) w A0 l0.length l0) (hc0 : l0.length ≤ c0) (h : slices_Clone_int_int.f l0 = some r) :
  Calls Try.prog 131 #[.slice A0 l0.length c0] w fun e w' => ∃ v0_ : Value, e = .returned (v0_) ∧ Kd.R (Kd.int .i64) 3 w' w.heap.size (fun _ => True) v0_ r ∧ Below w.heap.size w w' := by
 cases A0 with
 | none =>
  have hz_ : l0.length = 0 := C_none_length hr0
  obtain rfl : l0 = [] := List.eq_nil_of_length_eq_zero hz_
  obtain rfl : r = [] := by
   have h2_ := h
   simp [slices_Clone_int_int.f] at h2_
   exact h2_
  have hnn_ : ∀ W, (binOp .eql 36 (.slice none 0 c0) (.slice none 0 0)).run Try.prog W = .ok (.bool true) W := fun W => eql_nil_none (P := Try.prog) W 36 3 0 c0 Try.underlying36
  go_enter Try.func131, Try.ntmps131
  go_wp2
  go_ret
  exact ⟨_, rfl, Kd.R_nil _ _ _ _ _, Below.refl _ _⟩
 | some ad_ =>
  have hnn_ : ∀ W, (binOp .eql 36 (.slice (some ad_) l0.length c0) (.slice none 0 0)).run Try.prog W = .ok (.bool false) W := fun W => eql_nil_some (P := Try.prog) W 36 3 ad_ l0.length c0 Try.underlying36
  have HR0 := Aside0.mk hr0
  have HC0 := Aside0.mk hc0
  clear hr0 hc0
  have HB := ak (Below.refl w.heap.size w)
  have H : ((some (([] : List Int) : List Int)).bind fun y342 => (if y342.length + l0.length < 17592186044416 then (some (y342 ++ l0)) else (none))) = some r := h
  clear h
  obtain ⟨y342, hy342⟩ : ∃ y_ : List Int, y_ = (([] : List Int)) := ⟨_, rfl⟩
  replace H : (if y342.length + l0.length < 17592186044416 then (some (y342 ++ l0)) else (none)) = some r := by first | (rw [hy342]; with_reducible exact H) | (have H2_ := (Option.bind_some _ _).symm.trans H; rw [hy342]; with_reducible exact H2_) | (have H2_ := (Option.bind_some _ _).symm.trans H; with_reducible exact H2_) | with_reducible exact H | (rw [hy342]; exact H) | exact H
  have Ny342 := Aside0.mk hy342
  clear hy342
  by_cases c2 : y342.length + l0.length < 17592186044416
  ·rw [if_pos c2] at H
   have LMc2 := Aside0.mk c2
   clear c2
   obtain ⟨y345, hy345⟩ : ∃ y_ : List Int, y_ = (y342 ++ l0) := ⟨_, rfl⟩
   replace H : (some y345) = some r := by first | (rw [hy345]; with_reducible exact H) | (have H2_ := (Option.bind_some _ _).symm.trans H; rw [hy345]; with_reducible exact H2_) | (have H2_ := (Option.bind_some _ _).symm.trans H; with_reducible exact H2_) | with_reducible exact H | (rw [hy345]; exact H) | exact H
   have Ny345 := Aside0.mk hy345
   clear hy345
   obtain rfl := Option.some.inj H
   go_enter Try.func131, Try.ntmps131
   go_wp2_with (first | ((with_reducible refine gate_dst (N := 5) rfl ?_); refine Kd.R_lit (Kd.int .i64) _ 3 ?hg (N := 5) ?hd (xs := ([] : List Int)) (inner := []) (ok := fun _ => True) (okp := fun _ => True) ?hr ?hp (fun _ hk => hk) trivial (Below.refl _ _) (Nat.le_refl _) (by simp) ?_; (case hd => rfl); (case hg => rfl); (case hr => first | (go_simp; done) | (go_simp; rfl)); (case hp => exact (Reps.none _ _)); intro v343 w3 ho4 hb hg_ hnew_; clear hg_ hnew_; (first | rw [← Ny342.out] at ho4 | (simp only [Int.reduceToNat] at ho4; rw [← Ny342.out] at ho4)); have HO344 := Rn0 ho4 HB; replace HB := bs HB hb; clear hb ho4) | ((with_reducible refine gate_builtin (b := .append) (xs := #[.tmp 5, .tmp 6]) rfl ?_); at_builtin; refine Kd.R_append_rows (Kd.int .i64) (w0 := w) w.heap.size rfl (.tmp 5) (.tmp 6) 36 3 (.int .i64 0) 8 rfl Try.underlying36 info3 rfl (by decide) (by omega) v343 y342 l0 _ _ _ (fun _ => True) (fun _ => False) rfl rfl ?aO ?aR (fun _ _ h => h) (fun _ h => h.elim) ?aF ?aB ?aS ?aL ?_; (case aR => repeat (first | exact (Kd.C_below HR0.out HB.out) | (with_reducible refine Kd.C_alloc ?_ _) | (with_reducible refine Kd.C_drewN ?_ _) | (with_reducible refine Kd.C_drew ?_))); (case aB => exact PB); (case aF => exact (fun _ _ => trivial)); (case aO => exact (PR HO344)); (case aS => exact (below_size PB)); (case aL => have := LMc2.out; omega); intro v346 w5 ho hb hg hat; rw [← Ny345.out] at ho; replace HB := ak hb; have HO347 := ak (ho); clear HO344; clear ho hb hg hat))
   go_ret
   exact ⟨_, RT, by (with_reducible repeat (first | apply Kd.R_alloc | apply Kd.R_drewN | apply Kd.R_drew)); exact HO347.out, PB⟩
  ·rw [if_neg c2] at H
   exact absurd H (by simp)

 end Go.Proofs.Ytgcamebeonodeaa.MFnMachine

