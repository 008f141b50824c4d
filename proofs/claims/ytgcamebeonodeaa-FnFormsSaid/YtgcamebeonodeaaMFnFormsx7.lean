-- Written by a program of this session out of the translation's own print. Not trusted: Lean checks it.
import Derived.Test.YtgcamebeonodeaaShr2
import Derived.Test.YtgcamebeonodeaaMFnFormsx0
import Derived.Test.YtgcamebeonodeaaMFnFormsx6
namespace Go.Proofs.Ytgcamebeonodeaa.MFnForms
open Go.RowKit Go.Proofs.YtgcamebeonodeaaW.PrintWords Go.Proofs.YtgcamebeonodeaaW.PrintLast Go.Proofs.YtgcamebeonodeaaW.PrintMore
attribute [local go_sem] max2_int min2_int max_two min_two max_three min_three max_four min_four   -- for this text's walks alone
set_option linter.unusedVariables false
set_option linter.unusedSimpArgs false

/-! ### spec_l19Draw: function 118 -/
mutual
def spec_l19Draw.l0 : Nat → Int → Int → List (S40) → Int → List Int → Int → Int → Int → Int → Int → Option ((List (S40)) × Int × Int × Int × Int × Int)
  | 0, _, _, _, _, _, _, _, _, _, _ => none
  | k + 1, x5, x6, x7, x8, x1000, x1001, x1002, x215000, x215001, x215002 => if x8 > 0 then ((spec_l1Below.f x1000 x1001 x1002 6).bind fun bt228 => ((spec_l1Once.f x1000 bt228.2.1 bt228.2.2 8).bind fun bt235 => (if bt235.1 = true then ((spec_l5Draw.f k x1000 bt235.2.1 bt235.2.2).bind fun bt238 => (spec_l19Draw.j1 k x5 x6 x7 x8 x1000 bt238.2.2.2.2.2.1 bt238.2.2.2.2.2.2 x215000 x215001 x215002 x215000 x215001 bt228.1 bt238.1 bt238.2.1 bt238.2.2.1 bt238.2.2.2.1 bt238.2.2.2.2.1)) else (spec_l19Draw.j1 k x5 x6 x7 x8 x1000 bt235.2.1 bt235.2.2 x215000 x215001 x215002 x215000 x215001 bt228.1 2 (([wrap64 (x5 + (wrap64 (x6 * bt228.1)))] : List Int)) 0 0 0)))) else (some (x7, x215000, x215001, x215002, x1001, x1002))
def spec_l19Draw.j1 : Nat → Int → Int → List (S40) → Int → List Int → Int → Int → Int → Int → Int → Int → Int → Int → Int → List Int → Int → Int → Int → Option ((List (S40)) × Int × Int × Int × Int × Int)
  | 0, _, _, _, _, _, _, _, _, _, _, _, _, _, _, _, _, _, _ => none
  | k + 1, x5, x6, x7, x8, x1000, x1001, x1002, x215000, x215001, x215002, x228000, x228001, x228002, x235000, x235001, x235002, x235003, x235004 => (spec_l1Once.f x1000 x1001 x1002 6).bind fun bt247 => (if bt247.1 = true then ((spec_l4Draw.f x1000 bt247.2.1 bt247.2.2).bind fun bt250 => (if x7.length < 1599289640401 then (spec_l19Draw.l0 k x5 x6 (x7 ++ [(⟨(⟨bt250.1, bt250.2.1, bt250.2.2.1⟩ : S26), x8, (⟨x235000, x235001, (⟨x235002, x235003, x235004⟩ : S26)⟩ : S38)⟩ : S40)]) (wrap64 (x8 - 1)) x1000 bt250.2.2.2.1 bt250.2.2.2.2 x215000 x215001 x215002) else (none))) else (if x7.length < 1599289640401 then (spec_l19Draw.l0 k x5 x6 (x7 ++ [(⟨(⟨x228000, x228001, x228002⟩ : S26), x8, (⟨x235000, x235001, (⟨x235002, x235003, x235004⟩ : S26)⟩ : S38)⟩ : S40)]) (wrap64 (x8 - 1)) x1000 bt247.2.1 bt247.2.2 x215000 x215001 x215002) else (none)))
end
def spec_l19Draw.f (k : Nat) (s0_0 : List Int) (s0_1 : Int) (s0_2 : Int) : Option ((List (S40)) × Int × Int × Int × Int × Int) := (spec_l1Below.f s0_0 s0_1 s0_2 2).bind fun bt211 => ((spec_l1Below.f s0_0 bt211.2.1 bt211.2.2 9).bind fun bt215 => ((spec_l1Below.f s0_0 bt215.2.1 bt215.2.2 4).bind fun bt218 => ((spec_l1Below.f s0_0 bt218.2.1 bt218.2.2 6).bind fun bt224 => (spec_l19Draw.l0 k bt215.1 bt218.1 (([] : List (S40))) bt224.1 s0_0 bt224.2.1 bt224.2.2 1 bt211.1 0))))
set_option maxHeartbeats 8000000 in
set_option maxRecDepth 100000 in
theorem spec_l19Draw.calls (k : Nat) (g : Nat) (s0_0 : List Int) (s0_1 : Int) (s0_2 : Int) (r1 : List (S40)) (r2 : Int) (r3 : Int) (r4 : Int) (r5 : Int) (r6 : Int) (w0 w : World) (hI : IsS158 w0 w g s0_0 s0_1 s0_2) (hB : Below w0.heap.size w0 w) (h : spec_l19Draw.f k s0_0 s0_1 s0_2 = some (r1, r2, r3, r4, r5, r6)) :
  Calls Try.prog 118 #[.pointer (some ⟨g, 0, none⟩)] w fun e w' => ∃ v0_ : Value, e = .returned (.tuple #[v0_, .agg #[.int .i64 r2, .int .i64 r3, .int .i64 r4]]) ∧ Kd.S k40 40 w' w.heap.size (fun _ => True) v0_ r1 ∧ IsS158 w0 w' g s0_0 r5 r6 ∧ Below w0.heap.size w0 w' ∧ KeepBut w w' g none := by
 have hu26 := Try.underlying26
 have hu38 := Try.underlying38
 have hu40 := Try.underlying40
 have HI0 := Aside0.mk hI
 have HK := ak (KeepBut.refl w g none)
 have HL := Aside0.mk hB.size
 clear hI
 have HW0 := Aside0.mk hB.size
 have HB := Aside0.mk hB
 clear hB
 have H : ((spec_l1Below.f s0_0 s0_1 s0_2 2).bind fun bt211 => ((spec_l1Below.f s0_0 bt211.2.1 bt211.2.2 9).bind fun bt215 => ((spec_l1Below.f s0_0 bt215.2.1 bt215.2.2 4).bind fun bt218 => ((spec_l1Below.f s0_0 bt218.2.1 bt218.2.2 6).bind fun bt224 => (spec_l19Draw.l0 k bt215.1 bt218.1 (([] : List (S40))) bt224.1 s0_0 bt224.2.1 bt224.2.2 1 bt211.1 0))))) = some (r1, r2, r3, r4, r5, r6) := h
 clear h
 replace H := Option.bind_eq_some_iff.mp H
 obtain ⟨⟨t211, t212, t213⟩, A20, H⟩ := H
 replace H : ((spec_l1Below.f s0_0 t212 t213 9).bind fun bt215 => ((spec_l1Below.f s0_0 bt215.2.1 bt215.2.2 4).bind fun bt218 => ((spec_l1Below.f s0_0 bt218.2.1 bt218.2.2 6).bind fun bt224 => (spec_l19Draw.l0 k bt215.1 bt218.1 (([] : List (S40))) bt224.1 s0_0 bt224.2.1 bt224.2.2 1 t211 0)))) = some (r1, r2, r3, r4, r5, r6) := H
 have A2 := Aside0.mk A20
 clear A20
 replace H := Option.bind_eq_some_iff.mp H
 obtain ⟨⟨t215, t216, t217⟩, A30, H⟩ := H
 replace H : ((spec_l1Below.f s0_0 t216 t217 4).bind fun bt218 => ((spec_l1Below.f s0_0 bt218.2.1 bt218.2.2 6).bind fun bt224 => (spec_l19Draw.l0 k t215 bt218.1 (([] : List (S40))) bt224.1 s0_0 bt224.2.1 bt224.2.2 1 t211 0))) = some (r1, r2, r3, r4, r5, r6) := H
 have A3 := Aside0.mk A30
 clear A30
 replace H := Option.bind_eq_some_iff.mp H
 obtain ⟨⟨t218, t219, t220⟩, A40, H⟩ := H
 replace H : ((spec_l1Below.f s0_0 t219 t220 6).bind fun bt224 => (spec_l19Draw.l0 k t215 t218 (([] : List (S40))) bt224.1 s0_0 bt224.2.1 bt224.2.2 1 t211 0)) = some (r1, r2, r3, r4, r5, r6) := H
 have A4 := Aside0.mk A40
 clear A40
 obtain ⟨y221, hy221⟩ : ∃ y_ : List (S40), y_ = (([] : List (S40))) := ⟨_, rfl⟩
 replace H : ((spec_l1Below.f s0_0 t219 t220 6).bind fun bt224 => (spec_l19Draw.l0 k t215 t218 y221 bt224.1 s0_0 bt224.2.1 bt224.2.2 1 t211 0)) = some (r1, r2, r3, r4, r5, r6) := by first | (rw [hy221]; with_reducible exact H) | (have H2_ := (Option.bind_some _ _).symm.trans H; rw [hy221]; with_reducible exact H2_) | (have H2_ := (Option.bind_some _ _).symm.trans H; with_reducible exact H2_) | with_reducible exact H | (rw [hy221]; exact H) | exact H
 have Ny221 := Aside0.mk hy221
 clear hy221
 replace H := Option.bind_eq_some_iff.mp H
 obtain ⟨⟨t224, t225, t226⟩, A50, H⟩ := H
 replace H : (spec_l19Draw.l0 k t215 t218 y221 t224 s0_0 t225 t226 1 t211 0) = some (r1, r2, r3, r4, r5, r6) := H
 have A5 := Aside0.mk A50
 clear A50
 have H' := Aside0.mk H
 clear H
 go_enter Try.func118, Try.ntmps118
 go_wp2_with (first | ((with_reducible refine gate_dst (N := 3) rfl ?_); refine bx_ (N := 3) #[.int .i64 0, .int .i64 0, .int .i64 0] 26 ?_; intro gb210 hg w6 hbox hb; replace HB := bs HB hb; have BK210 := ak hbox; have GW210 := ak (kz hg HK); have GE210 := ak (Nat.le_trans HW0.out (kz hg HK)); replace HK := kt HK (KeepBut.of_below hb g none); have NB0_210 := ak (nh hg (IsS158.lt (show IsS158 w0 _ g s0_0 s0_1 s0_2 from PI))); have NB210_0 := ak (ng hg (IsS158.lt (show IsS158 w0 _ g s0_0 s0_1 s0_2 from PI))); replace HI0 := ak (IsS158.below PI hb); clear hb hbox hg) | ((with_reducible refine gate_callee (f := 68) rfl ?_); refine goesL_ (some 12) rfl rfl Try.func68 KR rfl #[.pointer (some ⟨g, 0, none⟩), .int .i64 2] rfl AR ?_; (with_reducible refine (spec_l1Below.calls g s0_0 s0_1 s0_2 2 t211 t212 t213 w0 _ ?side1 ?side2 A2.out).mono ?_); (case side1 => exact PI); (case side2 => exact PL); rintro e w7 ⟨rfl, hi, hb, hk⟩; refine ⟨_, rfl, ?_⟩; replace BK210 := kq hk BK210 NB210_0; replace HK := kt HK hk; replace HB := ak hb; replace HI0 := ak (hi); (try clear hb); (try clear hb2); (try clear hk); (try clear hi)) | ((with_reducible refine gate_dst (N := 4) rfl ?_); refine bx_ (N := 4) #[.int .i64 0, .int .i64 0, .int .i64 0] 26 ?_; intro gb214 hg w8 hbox hb; replace HB := bs HB hb; have BK214 := ak hbox; have GW214 := ak (kz hg HK); have GE214 := ak (Nat.le_trans HW0.out (kz hg HK)); replace HK := kt HK (KeepBut.of_below hb g none); have NB210_214 := gm hg BK210; have NB214_210 := gn hg BK210; replace BK210 := kf BK210 hb; have NB0_214 := ak (nh hg (IsS158.lt (show IsS158 w0 _ g s0_0 t212 t213 from PI))); have NB214_0 := ak (ng hg (IsS158.lt (show IsS158 w0 _ g s0_0 t212 t213 from PI))); replace HI0 := ak (IsS158.below PI hb); clear hb hbox hg; have hnb9 := NB214_210.out; have hnc9 := NB210_214.out; have hnb10 := NB214_0.out; have hnc10 := NB0_214.out; obtain ⟨hcz11_0, hcz11_1, hcz11_2, hfz11_0, hfz11_1, hfz11_2⟩ := bc3 BK214) | ((with_reducible refine gate_callee (f := 68) rfl ?_); refine goesL_ (some 15) rfl rfl Try.func68 KR rfl #[.pointer (some ⟨g, 0, none⟩), .int .i64 9] rfl AR ?_; (with_reducible refine (spec_l1Below.calls g s0_0 t212 t213 9 t215 t216 t217 w0 _ ?side1 ?side2 A3.out).mono ?_); (case side1 => exact PI); (case side2 => exact PL); rintro e w12 ⟨rfl, hi, hb, hk⟩; refine ⟨_, rfl, ?_⟩; replace BK210 := kq hk BK210 NB210_0; replace BK214 := kr (cs' := #[.int .i64 1, .int .i64 t211, .int .i64 0]) hk BK214 NB214_0; replace HK := kt HK hk; replace HB := ak hb; replace HI0 := ak (hi); (try clear hb); (try clear hb2); (try clear hk); (try clear hi)) | ((with_reducible refine gate_callee (f := 68) rfl ?_); refine goesL_ (some 17) rfl rfl Try.func68 KR rfl #[.pointer (some ⟨g, 0, none⟩), .int .i64 4] rfl AR ?_; (with_reducible refine (spec_l1Below.calls g s0_0 t216 t217 4 t218 t219 t220 w0 _ ?side1 ?side2 A4.out).mono ?_); (case side1 => exact PI); (case side2 => exact PL); rintro e w13 ⟨rfl, hi, hb, hk⟩; refine ⟨_, rfl, ?_⟩; replace BK210 := kq hk BK210 NB210_0; replace BK214 := kq hk BK214 NB214_0; replace HK := kt HK hk; replace HB := ak hb; replace HI0 := ak (hi); (try clear hb); (try clear hb2); (try clear hk); (try clear hi)) | ((with_reducible refine gate_dst (N := 18) rfl ?_); refine Kd.S_lit k40 _ 40 ?hg (N := 18) ?hd (xs := ([] : List (S40))) (inner := []) (ok := fun _ => True) (okp := fun _ => True) ?hr ?hp (fun _ hk => hk) trivial (Below.refl _ _) (Nat.le_refl _) (by simp) ?_; (case hd => rfl); (case hg => rfl); (case hr => first | (go_simp; done) | (go_simp; rfl)); (case hp => exact (Reps.none _ _)); intro v222 w14 ho15 hb hg_ hnew_; clear hg_ hnew_; (first | rw [← Ny221.out] at ho15 | (simp only [Int.reduceToNat] at ho15; rw [← Ny221.out] at ho15)); have HO223 := ak (Kd.S_lower ho15 (keep_size (w := w) (g := g) (row := none) PH)); replace HI0 := ak (IsS158.below PI hb); replace BK210 := kf BK210 hb; replace BK214 := kf BK214 hb; replace HK := kt HK (KeepBut.of_below hb g none); replace HB := bs HB hb; clear hb ho15) | ((with_reducible refine gate_callee (f := 68) rfl ?_); refine goesL_ (some 20) rfl rfl Try.func68 KR rfl #[.pointer (some ⟨g, 0, none⟩), .int .i64 6] rfl AR ?_; (with_reducible refine (spec_l1Below.calls g s0_0 t219 t220 6 t224 t225 t226 w0 _ ?side1 ?side2 A5.out).mono ?_); (case side1 => exact PI); (case side2 => exact PL); rintro e w16 ⟨rfl, hi, hb, hk⟩; refine ⟨_, rfl, ?_⟩; replace BK210 := kq hk BK210 NB210_0; replace BK214 := kq hk BK214 NB214_0; replace HO223 := Sk (IsS158.apartS (show IsS158 w0 _ g s0_0 t219 t220 from PI) (PS HO223) (by decide)) hk; replace HK := kt HK hk; replace HB := ak hb; replace HI0 := ak (hi); (try clear hb); (try clear hb2); (try clear hk); (try clear hi)))
 go_loopg [7, 8] k (fun kq v7 v8 w' => ∃ (x7_1 : List (S40)) (x8_1 : Int) (x1001_1 : Int) (x1002_1 : Int), v8 = .int .i64 x8_1 ∧ Aside0 (spec_l19Draw.l0 kq t215 t218 x7_1 x8_1 s0_0 x1001_1 x1002_1 1 t211 0 = some (r1, r2, r3, r4, r5, r6)) ∧ Aside0 (kq ≤ k) ∧ Aside0 (Kd.S k40 40 w' w.heap.size (fun _ => True) v7 x7_1) ∧ Aside0 (w'.heap[gb210]? = some (.cells #[.int .i64 0, .int .i64 0, .int .i64 0] 26 (0, 0))) ∧ Aside0 (w'.heap[gb214]? = some (.cells #[.int .i64 1, .int .i64 t211, .int .i64 0] 26 (0, 0))) ∧ Aside0 (IsS158 w0 w' g s0_0 x1001_1 x1002_1) ∧ Aside0 (KeepBut w w' g none) ∧ Aside0 (Below w0.heap.size w0 w'))
 case atStart => exact ⟨(y221), (t224), (t225), (t226), (by first | rfl | (simp; done) | (simp [*]; done)), H', ⟨Nat.le_refl _⟩, ⟨PS HO223⟩, ⟨PK BK210⟩, ⟨PK BK214⟩, ⟨PI⟩, ⟨PH⟩, ⟨PL⟩⟩
 case round =>
  clear H'
  (try clear c1); (try clear p2); (try clear c6); (try clear c9); (try clear c10); (try clear c11); (try clear hcz11_0); (try clear hcz11_1); (try clear hcz11_2); (try clear hfz11_0); (try clear hfz11_1); (try clear hfz11_2)
  obtain ⟨x7_1, x8_1, x1001_1, x1002_1, rfl, HA, HK1, HO_7, BK210, BK214, HI0, HK, HB⟩ := hrel
  cases gk with
  | zero => exact absurd HA.out (by simp [spec_l19Draw.l0])
  | succ k1 =>
   have H := HA.out
   clear HA
   simp only [spec_l19Draw.l0] at H
   by_cases c17 : x8_1 > 0
   ·rw [if_pos c17] at H
    have c17b0 : decide (0 < x8_1) = true := decide_eq_true c17
    clear c17
    replace H := Option.bind_eq_some_iff.mp H
    obtain ⟨⟨t228, t229, t230⟩, A180, H⟩ := H
    replace H : ((spec_l1Once.f s0_0 t229 t230 8).bind fun bt235 => (if bt235.1 = true then ((spec_l5Draw.f k1 s0_0 bt235.2.1 bt235.2.2).bind fun bt238 => (spec_l19Draw.j1 k1 t215 t218 x7_1 x8_1 s0_0 bt238.2.2.2.2.2.1 bt238.2.2.2.2.2.2 1 t211 0 1 t211 t228 bt238.1 bt238.2.1 bt238.2.2.1 bt238.2.2.2.1 bt238.2.2.2.2.1)) else (spec_l19Draw.j1 k1 t215 t218 x7_1 x8_1 s0_0 bt235.2.1 bt235.2.2 1 t211 0 1 t211 t228 2 (([wrap64 (t215 + (wrap64 (t218 * t228)))] : List Int)) 0 0 0))) = some (r1, r2, r3, r4, r5, r6) := H
    have A18 := Aside0.mk A180
    clear A180
    obtain ⟨y231, hy231⟩ : ∃ y_ : List Int, y_ = (([wrap64 (t215 + (wrap64 (t218 * t228)))] : List Int)) := ⟨_, rfl⟩
    replace H : ((spec_l1Once.f s0_0 t229 t230 8).bind fun bt235 => (if bt235.1 = true then ((spec_l5Draw.f k1 s0_0 bt235.2.1 bt235.2.2).bind fun bt238 => (spec_l19Draw.j1 k1 t215 t218 x7_1 x8_1 s0_0 bt238.2.2.2.2.2.1 bt238.2.2.2.2.2.2 1 t211 0 1 t211 t228 bt238.1 bt238.2.1 bt238.2.2.1 bt238.2.2.2.1 bt238.2.2.2.2.1)) else (spec_l19Draw.j1 k1 t215 t218 x7_1 x8_1 s0_0 bt235.2.1 bt235.2.2 1 t211 0 1 t211 t228 2 y231 0 0 0))) = some (r1, r2, r3, r4, r5, r6) := by first | (rw [hy231]; with_reducible exact H) | (have H2_ := (Option.bind_some _ _).symm.trans H; rw [hy231]; with_reducible exact H2_) | (have H2_ := (Option.bind_some _ _).symm.trans H; with_reducible exact H2_) | with_reducible exact H | (rw [hy231]; exact H) | exact H
    have Ny231 := Aside0.mk hy231
    clear hy231
    replace H := Option.bind_eq_some_iff.mp H
    obtain ⟨⟨t235, t236, t237⟩, A190, H⟩ := H
    replace H : (if t235 = true then ((spec_l5Draw.f k1 s0_0 t236 t237).bind fun bt238 => (spec_l19Draw.j1 k1 t215 t218 x7_1 x8_1 s0_0 bt238.2.2.2.2.2.1 bt238.2.2.2.2.2.2 1 t211 0 1 t211 t228 bt238.1 bt238.2.1 bt238.2.2.1 bt238.2.2.2.1 bt238.2.2.2.2.1)) else (spec_l19Draw.j1 k1 t215 t218 x7_1 x8_1 s0_0 t236 t237 1 t211 0 1 t211 t228 2 y231 0 0 0)) = some (r1, r2, r3, r4, r5, r6) := H
    have A19 := Aside0.mk A190
    clear A190
    have HC20 := Aside0.mk H
    clear H
    have hnb21 := NB214_210.out
    have hnc21 := NB210_214.out
    have hnb22 := NB214_0.out
    have hnc22 := NB0_214.out
    obtain ⟨hcz23_0, hcz23_1, hcz23_2, hfz23_0, hfz23_1, hfz23_2⟩ := bc3 BK214
    go_upto_if 38 with (first | ((with_reducible refine gate_dst (N := 9) rfl ?_); refine bx_ (N := 9) #[.int .i64 0, .int .i64 0, .int .i64 0] 26 ?_; intro gb227 hg w24 hbox hb; replace HO_7 := Sb HO_7 hb; replace HB := bs HB hb; have BK227 := ak hbox; have GW227 := ak (kz hg HK); have GE227 := ak (Nat.le_trans HW0.out (kz hg HK)); replace HK := kt HK (KeepBut.of_below hb g none); have NB210_227 := gm hg BK210; have NB227_210 := gn hg BK210; replace BK210 := kf BK210 hb; have NB214_227 := gm hg BK214; have NB227_214 := gn hg BK214; replace BK214 := kf BK214 hb; have NB0_227 := ak (nh hg (IsS158.lt (show IsS158 w0 _ g s0_0 x1001_1 x1002_1 from PI))); have NB227_0 := ak (ng hg (IsS158.lt (show IsS158 w0 _ g s0_0 x1001_1 x1002_1 from PI))); replace HI0 := ak (IsS158.below PI hb); clear hb hbox hg; have hnb25 := NB227_210.out; have hnc25 := NB210_227.out; have hnb26 := NB227_214.out; have hnc26 := NB214_227.out; have hnb27 := NB227_0.out; have hnc27 := NB0_227.out; obtain ⟨hcz28_0, hcz28_1, hcz28_2, hfz28_0, hfz28_1, hfz28_2⟩ := bc3 BK227) | ((with_reducible refine gate_callee (f := 68) rfl ?_); refine goesL_ (some 27) rfl rfl Try.func68 KR rfl #[.pointer (some ⟨g, 0, none⟩), .int .i64 6] rfl AR ?_; (with_reducible refine (spec_l1Below.calls g s0_0 x1001_1 x1002_1 6 t228 t229 t230 w0 _ ?side1 ?side2 A18.out).mono ?_); (case side1 => exact PI); (case side2 => exact PL); rintro e w29 ⟨rfl, hi, hb, hk⟩; refine ⟨_, rfl, ?_⟩; replace HO_7 := Sk (IsS158.apartS (show IsS158 w0 _ g s0_0 x1001_1 x1002_1 from PI) (Se1 HO_7 BK227) (by decide)) hk; replace BK210 := kq hk BK210 NB210_0; replace BK214 := kq hk BK214 NB214_0; replace BK227 := kr (cs' := #[.int .i64 1, .int .i64 t211, .int .i64 0]) hk BK227 NB227_0; replace HK := kt HK hk; replace HB := ak hb; replace HI0 := ak (hi); (try clear hb); (try clear hb2); (try clear hk); (try clear hi); obtain ⟨hcz30_0, hcz30_1, hcz30_2, hfz30_0, hfz30_1, hfz30_2⟩ := bc3 BK227) | ((with_reducible refine gate_dst (N := 35) rfl ?_); refine Kd.R_lit (Kd.int .i64) _ 3 ?hg (N := 35) ?hd (xs := ([wrap64 (t215 + (wrap64 (t218 * t228)))] : List Int)) (inner := [.int .i64 (wrap64 (t215 + (wrap64 (t218 * t228))))]) (ok := fun _ => True) (okp := fun _ => True) ?hr ?hp (fun _ hk => hk) trivial (Below.refl _ _) (Nat.le_refl _) (by simp) ?_; (case hd => rfl); (case hg => rfl); (case hr => first | (go_simp; done) | (go_simp; rfl)); (case hp => exact (Reps.one (show Kd.M (Kd.int .i64) _ _ _ (wrap64 (t215 + (wrap64 (t218 * t228)))) [.int .i64 (wrap64 (t215 + (wrap64 (t218 * t228))))] from rfl) (Reps.none _ _))); intro v232 w31 ho32 hb hg_ hnew_; clear hg_ hnew_; (first | rw [← Ny231.out] at ho32 | (simp only [Int.reduceToNat] at ho32; rw [← Ny231.out] at ho32)); replace HO_7 := ak (Kd.S_elder' (Se1 HO_7 BK227) (Kd.R_base ho32) hb); have HO233 := ak (Kd.R_lower ho32 (keep_size (w := w) (g := g) (row := none) PH)); replace BK210 := kf BK210 hb; replace BK214 := kf BK214 hb; replace HI0 := ak (IsS158.below (show IsS158 w0 (w29.setCell ⟨gb227, 2, none⟩ (.int .i64 t228)) g s0_0 t229 t230 from PI) hb); replace BK227 := kp (cs' := #[.int .i64 1, .int .i64 t211, .int .i64 t228]) BK227 hb; replace HK := kt HK (KeepBut.of_below hb g none); replace HB := bs HB hb; clear hb ho32; obtain ⟨Ao33, co33, eo33⟩ := Kd.R_slice HO233.out; subst eo33) | ((with_reducible refine gate_dst (N := 10) rfl ?_); refine bx_ (N := 10) #[.int .i64 0, .slice none 0 0, .int .i64 0, .int .i64 0, .int .i64 0] 38 ?_; intro gb234 hg w34 hbox hb; replace HO_7 := Sb HO_7 hb; replace HO233 := Rb HO233 hb; replace HB := bs HB hb; have BK234 := ak hbox; have GW234 := ak (kz hg HK); have GE234 := ak (Nat.le_trans HW0.out (kz hg HK)); replace HK := kt HK (KeepBut.of_below hb g none); have NB210_234 := gm hg BK210; have NB234_210 := gn hg BK210; replace BK210 := kf BK210 hb; have NB214_234 := gm hg BK214; have NB234_214 := gn hg BK214; replace BK214 := kf BK214 hb; have NB227_234 := gm hg BK227; have NB234_227 := gn hg BK227; replace BK227 := kf BK227 hb; have NB0_234 := ak (nh hg (IsS158.lt (show IsS158 w0 _ g s0_0 t229 t230 from PI))); have NB234_0 := ak (ng hg (IsS158.lt (show IsS158 w0 _ g s0_0 t229 t230 from PI))); replace HI0 := ak (IsS158.below PI hb); clear hb hbox hg; have hnb35 := NB234_210.out; have hnc35 := NB210_234.out; have hnb36 := NB234_214.out; have hnc36 := NB214_234.out; have hnb37 := NB234_227.out; have hnc37 := NB227_234.out; have hnb38 := NB234_0.out; have hnc38 := NB0_234.out; obtain ⟨hcz39_0, hcz39_1, hcz39_2, hcz39_3, hcz39_4, hfz39_0, hfz39_1, hfz39_2, hfz39_3, hfz39_4⟩ := bc5 BK234) | ((with_reducible refine gate_callee (f := 119) rfl ?_); refine goesL_ (some 38) rfl rfl Try.func119 KR rfl #[.pointer (some ⟨g, 0, none⟩), .int .i64 8] rfl AR ?_; (with_reducible refine (spec_l1Once.calls g s0_0 t229 t230 8 t235 t236 t237 w0 _ ?side1 ?side2 A19.out).mono ?_); (case side1 => exact PI); (case side2 => exact PL); rintro e w40 ⟨rfl, hi, hb, hk⟩; refine ⟨_, rfl, ?_⟩; replace HO_7 := Sk (IsS158.apartS (show IsS158 w0 _ g s0_0 t229 t230 from PI) (Se1 HO_7 BK234) (by decide)) hk; replace BK210 := kq hk BK210 NB210_0; replace BK214 := kq hk BK214 NB214_0; replace BK227 := kq hk BK227 NB227_0; replace HO233 := Rk (IsS158.apart (show IsS158 w0 _ g s0_0 t229 t230 from PI) (Re1 HO233 BK234) (by decide)) hk; replace BK234 := kr (cs' := #[.int .i64 2, .slice Ao33 y231.length co33, .int .i64 0, .int .i64 0, .int .i64 0]) hk BK234 NB234_0; replace HK := kt HK hk; replace HB := ak hb; replace HI0 := ak (hi); (try clear hb); (try clear hb2); (try clear hk); (try clear hi)))
    (try simp only [Act.put, List.setIfInBounds_toArray, List.set_cons_zero, List.set_cons_succ])
    go_cut [] (fun wc => ∃ (kq : Nat) (x1001_19 : Int) (x1002_19 : Int) (x235000_19 : Int) (x235001_19 : List Int) (x235002_19 : Int) (x235003_19 : Int) (x235004_19 : Int) (u235001 : Value), Aside0 (spec_l19Draw.j1 kq t215 t218 x7_1 x8_1 s0_0 x1001_19 x1002_19 1 t211 0 1 t211 t228 x235000_19 x235001_19 x235002_19 x235003_19 x235004_19 = some (r1, r2, r3, r4, r5, r6)) ∧ Aside0 (kq ≤ k1) ∧ Aside0 (Kd.S k40 40 wc w.heap.size (fun k_ => some k_ ≠ (u235001 : Value).ownBlock) u7 x7_1) ∧ Aside0 (Kd.R (Kd.int .i64) 3 wc w.heap.size (fun _ => True) u235001 x235001_19) ∧ Aside0 (wc.heap[gb210]? = some (.cells #[.int .i64 0, .int .i64 0, .int .i64 0] 26 (0, 0))) ∧ Aside0 (wc.heap[gb214]? = some (.cells #[.int .i64 1, .int .i64 t211, .int .i64 0] 26 (0, 0))) ∧ Aside0 (wc.heap[gb227]? = some (.cells #[.int .i64 1, .int .i64 t211, .int .i64 t228] 26 (0, 0))) ∧ Aside0 (wc.heap[gb234]? = some (.cells #[.int .i64 x235000_19, u235001, .int .i64 x235002_19, .int .i64 x235003_19, .int .i64 x235004_19] 38 (0, 0))) ∧ Aside0 (IsS158 w0 wc g s0_0 x1001_19 x1002_19) ∧ Aside0 (KeepBut w wc g none) ∧ Aside0 (Below w0.heap.size w0 wc))
    case first =>
     have H := HC20.out
     clear HC20
     by_cases c41 : t235 = true
     ·subst c41
      have H1 : ((spec_l5Draw.f k1 s0_0 t236 t237).bind fun bt238 => (spec_l19Draw.j1 k1 t215 t218 x7_1 x8_1 s0_0 bt238.2.2.2.2.2.1 bt238.2.2.2.2.2.2 1 t211 0 1 t211 t228 bt238.1 bt238.2.1 bt238.2.2.1 bt238.2.2.2.1 bt238.2.2.2.2.1)) = some (r1, r2, r3, r4, r5, r6) := by rw [if_pos rfl] at H; exact H
      clear H
      have H := H1
      clear H1
      replace H := Option.bind_eq_some_iff.mp H
      obtain ⟨⟨t238, t239, t242, t243, t244, t245, t246⟩, A420, H⟩ := H
      replace H : (spec_l19Draw.j1 k1 t215 t218 x7_1 x8_1 s0_0 t245 t246 1 t211 0 1 t211 t228 t238 t239 t242 t243 t244) = some (r1, r2, r3, r4, r5, r6) := H
      have A42 := Aside0.mk A420
      clear A420
      have H' := Aside0.mk H
      clear H
      go_wp2_with (first | ((with_reducible refine gate_callee (f := 150) rfl ?_); refine goesL_ (some 40) rfl rfl Try.func150 KR rfl #[.pointer (some ⟨g, 0, none⟩)] rfl AR ?_; (with_reducible refine (spec_l5Draw.calls k1 g s0_0 t236 t237 t238 t239 t242 t243 t244 t245 t246 w0 _ ?side1 ?side2 A42.out).mono ?_); (case side1 => exact PI); (case side2 => exact PL); rintro e w43 ⟨v240, rfl, ho0, hi, hb, hk⟩; refine ⟨_, rfl, ?_⟩; replace HO_7 := ak (Kd.S_mono (Kd.S_told (Kd.S_oldK (IsS158.apartS (show IsS158 w0 _ g s0_0 t236 t237 from PI) (PS HO_7) (by decide)) hk) (Kd.R_base ho0)) (fun _ h_ => h_.1)); replace BK210 := kq hk BK210 NB210_0; replace BK214 := kq hk BK214 NB214_0; replace BK227 := kq hk BK227 NB227_0; replace BK234 := kq hk BK234 NB234_0; have HO241 := ak (Kd.R_lower (Kd.R_new' ho0 (Kd.R_lt (PR HO233))) (keep_size (w := w) (g := g) (row := none) PH)); replace HO233 := ak (Kd.R_mono (Kd.R_told (Kd.R_oldK (IsS158.apart (show IsS158 w0 _ g s0_0 t236 t237 from PI) (PR HO233) (by decide)) hk) (Kd.R_base ho0)) (fun _ h_ => h_.1)); replace HK := kt HK hk; replace HB := ak hb; replace HI0 := ak (hi); (try clear hb); (try clear hb2); (try clear hk); (try clear hi); (try clear ho0); have hnb44 := NB234_210.out; have hnc44 := NB210_234.out; have hnb45 := NB234_214.out; have hnc45 := NB214_234.out; have hnb46 := NB234_227.out; have hnc46 := NB227_234.out; have hnb47 := NB234_0.out; have hnc47 := NB0_234.out; obtain ⟨hcz48_0, hcz48_1, hcz48_2, hcz48_3, hcz48_4, hfz48_0, hfz48_1, hfz48_2, hfz48_3, hfz48_4⟩ := bc5 BK234; obtain ⟨Ao49, co49, eo49⟩ := Kd.R_slice HO241.out; subst eo49))
      go_meet
      case rel => exact ⟨_, (t245), (t246), (t238), (t239), (t242), (t243), (t244), (.slice Ao49 t239.length co49), H', ⟨by have := HK1.out; first | omega | exact Nat.le_refl _⟩, ⟨SX (St HO_7.out BK234) (fun _ hk => by first | exact hk.1.2 | simp_all)⟩, ⟨RX (Rt HO241.out BK234) (fun _ hk => trivial)⟩, ⟨PF BK210⟩, ⟨PF BK214⟩, ⟨PF BK227⟩, ⟨PX BK234⟩, ⟨PI⟩, ⟨PH⟩, ⟨PL⟩⟩
     ·replace c41 := Bool.eq_false_iff.mpr c41
      subst c41
      have H1 : (spec_l19Draw.j1 k1 t215 t218 x7_1 x8_1 s0_0 t236 t237 1 t211 0 1 t211 t228 2 y231 0 0 0) = some (r1, r2, r3, r4, r5, r6) := by rw [if_neg (show ¬ (false = true) by decide)] at H; exact H
      clear H
      have H := H1
      clear H1
      have H' := Aside0.mk H
      clear H
      go_wp2
      go_meet
      case rel => exact ⟨_, (t236), (t237), (2), (y231), (0), (0), (0), (.slice Ao33 y231.length co33), H', ⟨by have := HK1.out; first | omega | exact Nat.le_refl _⟩, ⟨SX HO_7.out FK⟩, ⟨PR HO233⟩, ⟨PK BK210⟩, ⟨PK BK214⟩, ⟨PK BK227⟩, ⟨PK BK234⟩, ⟨PI⟩, ⟨PH⟩, ⟨PL⟩⟩
    case rest =>
     clear HC20
     (try clear c1); (try clear c2); (try clear p2); (try clear c3); (try clear c4); (try clear c6); (try clear p6); (try clear c9); (try clear c10); (try clear c11); (try clear c15); (try clear c17); (try clear c17b0); (try clear c21); (try clear c22); (try clear c25); (try clear c26); (try clear c27); (try clear c35); (try clear c36); (try clear c37); (try clear c38); (try clear c41); (try clear c44); (try clear c45); (try clear c46); (try clear c47); (try clear hcz11_0); (try clear hcz11_1); (try clear hcz11_2); (try clear hcz23_0); (try clear hcz23_1); (try clear hcz23_2); (try clear hcz28_0); (try clear hcz28_1); (try clear hcz28_2); (try clear hcz30_0); (try clear hcz30_1); (try clear hcz30_2); (try clear hcz39_0); (try clear hcz39_1); (try clear hcz39_2); (try clear hcz39_3); (try clear hcz39_4); (try clear hcz48_0); (try clear hcz48_1); (try clear hcz48_2); (try clear hcz48_3); (try clear hcz48_4); (try clear hfz11_0); (try clear hfz11_1); (try clear hfz11_2); (try clear hfz23_0); (try clear hfz23_1); (try clear hfz23_2); (try clear hfz28_0); (try clear hfz28_1); (try clear hfz28_2); (try clear hfz30_0); (try clear hfz30_1); (try clear hfz30_2); (try clear hfz39_0); (try clear hfz39_1); (try clear hfz39_2); (try clear hfz39_3); (try clear hfz39_4); (try clear hfz48_0); (try clear hfz48_1); (try clear hfz48_2); (try clear hfz48_3); (try clear hfz48_4); (try clear p2)
     obtain ⟨kq, x1001_19, x1002_19, x235000_19, x235001_19, x235002_19, x235003_19, x235004_19, u235001, HA, HJ19, HO_7, HO_235001, BK210, BK214, BK227, BK234, HI0, HK, HB⟩ := hcut
     cases kq with
     | zero => exact absurd HA.out (by simp [spec_l19Draw.j1])
     | succ kj19 =>
      have H := HA.out
      clear HA
      simp only [spec_l19Draw.j1] at H
      replace H := Option.bind_eq_some_iff.mp H
      obtain ⟨⟨t247, t248, t249⟩, A500, H⟩ := H
      replace H : (if t247 = true then ((spec_l4Draw.f s0_0 t248 t249).bind fun bt250 => (if x7_1.length < 1599289640401 then (spec_l19Draw.l0 kj19 t215 t218 (x7_1 ++ [(⟨(⟨bt250.1, bt250.2.1, bt250.2.2.1⟩ : S26), x8_1, (⟨x235000_19, x235001_19, (⟨x235002_19, x235003_19, x235004_19⟩ : S26)⟩ : S38)⟩ : S40)]) (wrap64 (x8_1 - 1)) s0_0 bt250.2.2.2.1 bt250.2.2.2.2 1 t211 0) else (none))) else (if x7_1.length < 1599289640401 then (spec_l19Draw.l0 kj19 t215 t218 (x7_1 ++ [(⟨(⟨1, t211, t228⟩ : S26), x8_1, (⟨x235000_19, x235001_19, (⟨x235002_19, x235003_19, x235004_19⟩ : S26)⟩ : S38)⟩ : S40)]) (wrap64 (x8_1 - 1)) s0_0 t248 t249 1 t211 0) else (none))) = some (r1, r2, r3, r4, r5, r6) := H
      have A50 := Aside0.mk A500
      clear A500
      by_cases c51 : t247 = true
      ·subst c51
       have H1 : ((spec_l4Draw.f s0_0 t248 t249).bind fun bt250 => (if x7_1.length < 1599289640401 then (spec_l19Draw.l0 kj19 t215 t218 (x7_1 ++ [(⟨(⟨bt250.1, bt250.2.1, bt250.2.2.1⟩ : S26), x8_1, (⟨x235000_19, x235001_19, (⟨x235002_19, x235003_19, x235004_19⟩ : S26)⟩ : S38)⟩ : S40)]) (wrap64 (x8_1 - 1)) s0_0 bt250.2.2.2.1 bt250.2.2.2.2 1 t211 0) else (none))) = some (r1, r2, r3, r4, r5, r6) := by rw [if_pos rfl] at H; exact H
       clear H
       have H := H1
       clear H1
       replace H := Option.bind_eq_some_iff.mp H
       obtain ⟨⟨t250, t251, t252, t253, t254⟩, A520, H⟩ := H
       replace H : (if x7_1.length < 1599289640401 then (spec_l19Draw.l0 kj19 t215 t218 (x7_1 ++ [(⟨(⟨t250, t251, t252⟩ : S26), x8_1, (⟨x235000_19, x235001_19, (⟨x235002_19, x235003_19, x235004_19⟩ : S26)⟩ : S38)⟩ : S40)]) (wrap64 (x8_1 - 1)) s0_0 t253 t254 1 t211 0) else (none)) = some (r1, r2, r3, r4, r5, r6) := H
       have A52 := Aside0.mk A520
       clear A520
       by_cases c53 : x7_1.length < 1599289640401
       ·rw [if_pos c53] at H
        have LMc53 := Aside0.mk c53
        clear c53
        obtain ⟨y255, hy255⟩ : ∃ y_ : List (S40), y_ = (x7_1 ++ [(⟨(⟨t250, t251, t252⟩ : S26), x8_1, (⟨x235000_19, x235001_19, (⟨x235002_19, x235003_19, x235004_19⟩ : S26)⟩ : S38)⟩ : S40)]) := ⟨_, rfl⟩
        replace H : (spec_l19Draw.l0 kj19 t215 t218 y255 (wrap64 (x8_1 - 1)) s0_0 t253 t254 1 t211 0) = some (r1, r2, r3, r4, r5, r6) := by first | (rw [hy255]; with_reducible exact H) | (have H2_ := (Option.bind_some _ _).symm.trans H; rw [hy255]; with_reducible exact H2_) | (have H2_ := (Option.bind_some _ _).symm.trans H; with_reducible exact H2_) | with_reducible exact H | (rw [hy255]; exact H) | exact H
        have Ny255 := Aside0.mk hy255
        clear hy255
        have H' := Aside0.mk H
        clear H
        go_wp2_with (first | ((with_reducible refine gate_callee (f := 119) rfl ?_); refine goesL_ (some 42) rfl rfl Try.func119 KR rfl #[.pointer (some ⟨g, 0, none⟩), .int .i64 6] rfl AR ?_; (with_reducible refine (spec_l1Once.calls g s0_0 x1001_19 x1002_19 6 true t248 t249 w0 _ ?side1 ?side2 A50.out).mono ?_); (case side1 => exact PI); (case side2 => exact PL); rintro e w54 ⟨rfl, hi, hb, hk⟩; refine ⟨_, rfl, ?_⟩; replace HO_7 := Sk (IsS158.apartS (show IsS158 w0 _ g s0_0 x1001_19 x1002_19 from PI) (PS HO_7) (by decide)) hk; replace HO_235001 := Rk (IsS158.apart (show IsS158 w0 _ g s0_0 x1001_19 x1002_19 from PI) (PR HO_235001) (by decide)) hk; replace BK210 := kq hk BK210 NB210_0; replace BK214 := kq hk BK214 NB214_0; replace BK227 := kq hk BK227 NB227_0; replace BK234 := kq hk BK234 NB234_0; replace HK := kt HK hk; replace HB := ak hb; replace HI0 := ak (hi); (try clear hb); (try clear hb2); (try clear hk); (try clear hi)) | ((with_reducible refine gate_callee (f := 128) rfl ?_); refine goesL_ (some 44) rfl rfl Try.func128 KR rfl #[.pointer (some ⟨g, 0, none⟩)] rfl AR ?_; (with_reducible refine (spec_l4Draw.calls g s0_0 t248 t249 t250 t251 t252 t253 t254 w0 _ ?side1 ?side2 A52.out).mono ?_); (case side1 => exact PI); (case side2 => exact PL); rintro e w55 ⟨rfl, hi, hb, hk⟩; refine ⟨_, rfl, ?_⟩; replace HO_7 := Sk (IsS158.apartS (show IsS158 w0 _ g s0_0 t248 t249 from PI) (PS HO_7) (by decide)) hk; replace HO_235001 := Rk (IsS158.apart (show IsS158 w0 _ g s0_0 t248 t249 from PI) (PR HO_235001) (by decide)) hk; replace BK210 := kq hk BK210 NB210_0; replace BK214 := kq hk BK214 NB214_0; replace BK227 := kq hk BK227 NB227_0; replace BK234 := kq hk BK234 NB234_0; replace HK := kt HK hk; replace HB := ak hb; replace HI0 := ak (hi); (try clear hb); (try clear hb2); (try clear hk); (try clear hi); have hnb56 := NB227_210.out; have hnc56 := NB210_227.out; have hnb57 := NB227_214.out; have hnc57 := NB214_227.out; have hnb58 := NB227_234.out; have hnc58 := NB234_227.out; have hnb59 := NB227_0.out; have hnc59 := NB0_227.out; obtain ⟨_, _, _, _, _, _⟩ := bc3 BK227) | ((with_reducible refine gate_store (t := 26) (p := 9) rfl ?_); refine store_event (t := 26) (p := 9) (v := ?vo_w61) (w1 := (((w55.setCell ⟨gb227, 0, none⟩ (.int .i64 t250)).setCell ⟨gb227, 1, none⟩ (.int .i64 t251)).setCell ⟨gb227, 2, none⟩ (.int .i64 t252))) ?hg ?ho ?hn ?hr ?_; (case ho => rfl); (case hg => rfl); (case hn => rfl); (case hr => first | (go_simp; done) | (go_simp; rfl)); intro w61 hw; replace HO_7 : Aside0 (Kd.S k40 40 w61 w.heap.size (fun k_ => some k_ ≠ (u235001 : Value).ownBlock) u7 x7_1) := ⟨(by rw [hw]; exact (Se1 HO_7 BK227))⟩; replace HO_235001 : Aside0 (Kd.R (Kd.int .i64) 3 w61 w.heap.size (fun _ => True) u235001 x235001_19) := ⟨(by rw [hw]; exact (RX (Rt HO_235001.out BK227) (fun _ hk => trivial)))⟩; replace BK210 : Aside0 (w61.heap[gb210]? = some (.cells #[.int .i64 0, .int .i64 0, .int .i64 0] 26 (0, 0))) := ⟨(by rw [hw]; exact (PF BK210))⟩; replace BK214 : Aside0 (w61.heap[gb214]? = some (.cells #[.int .i64 1, .int .i64 t211, .int .i64 0] 26 (0, 0))) := ⟨(by rw [hw]; exact (PF BK214))⟩; replace BK227 : Aside0 (w61.heap[gb227]? = some (.cells #[.int .i64 t250, .int .i64 t251, .int .i64 t252] 26 (0, 0))) := ⟨(by rw [hw]; exact (PX BK227))⟩; replace BK234 : Aside0 (w61.heap[gb234]? = some (.cells #[.int .i64 x235000_19, u235001, .int .i64 x235002_19, .int .i64 x235003_19, .int .i64 x235004_19] 38 (0, 0))) := ⟨(by rw [hw]; exact (PF BK234))⟩; replace HI0 : Aside0 (IsS158 w0 w61 g s0_0 t253 t254) := ⟨(by rw [hw]; exact PI)⟩; replace HK : Aside0 (KeepBut w w61 g none) := ⟨(by rw [hw]; exact PH)⟩; replace HB : Aside0 (Below w0.heap.size w0 w61) := ⟨(by rw [hw]; exact PL)⟩; clear hw; obtain ⟨_, _, _, _, _, _⟩ := bc3 BK227; have hnb63 := NB234_210.out; have hnc63 := NB210_234.out; have hnb64 := NB234_214.out; have hnc64 := NB214_234.out; have hnb65 := NB234_0.out; have hnc65 := NB0_234.out; obtain ⟨_, _, _, _, _, _, _, _, _, _⟩ := bc5 BK234; obtain ⟨Ao67, co67, eo67⟩ := Kd.R_slice HO_235001.out; subst eo67) | ((with_reducible refine gate_builtin (b := .append) (xs := #[.tmp 45, .tmp 50]) rfl ?_); at_builtin; refine Kd.S_append k40 w.heap.size rfl (.tmp 45) (.tmp 50) 24 40 (.agg #[(.int .i64 0), (.int .i64 0), (.int .i64 0), (.int .i64 0), (.int .i64 0), (.slice none 0 0), (.int .i64 0), (.int .i64 0), (.int .i64 0)]) 88 rfl Try.underlying24 info40 rfl (by decide) (by omega) u7 x7_1 (⟨(⟨t250, t251, t252⟩ : S26), x8_1, (⟨x235000_19, x235001_19, (⟨x235002_19, x235003_19, x235004_19⟩ : S26)⟩ : S38)⟩ : S40) [.int .i64 t250, .int .i64 t251, .int .i64 t252, .int .i64 x8_1, .int .i64 x235000_19, .slice Ao67 x235001_19.length co67, .int .i64 x235002_19, .int .i64 x235003_19, .int .i64 x235004_19] (fun _ => True) (fun k_ => some k_ = (.slice Ao67 x235001_19.length co67 : Value).ownBlock) rfl rfl ?aP (fun k_ hk_ => ((Kd.R_mono (ok' := fun k_ => ((fun _ => True)) k_ ∧ some k_ ≠ (u7 : Value).ownBlock) (Kd.R_apart' (HO_235001.out) (Kd.S_typed HO_7.out) (by decide)) (fun k_ hk => ⟨trivial, hk.2⟩))).1 k_ hk_.symm) ?aF ?aO (Below.refl _ _) ?aS ?aL ?_; (case aP => exact k40_mkM _ _ _ (⟨(⟨t250, t251, t252⟩ : S26), x8_1, (⟨x235000_19, x235001_19, (⟨x235002_19, x235003_19, x235004_19⟩ : S26)⟩ : S38)⟩ : S40) (Kd.R_mono (Kd.R_tight rfl (Kd.R_mono (ok' := fun k_ => ((fun _ => True)) k_ ∧ some k_ ≠ (u7 : Value).ownBlock) (Kd.R_apart' (HO_235001.out) (Kd.S_typed HO_7.out) (by decide)) (fun k_ hk => ⟨trivial, hk.2⟩))) (fun _ h_ => h_))); (case aF => exact (fun _ _ => trivial)); (case aO => exact (SX HO_7.out (fun k_ hk => ⟨trivial, fun e_ => hk e_⟩))); (case aS => exact (keep_size (w := w) (g := g) (row := none) PH)); (case aL => have := LMc53.out; omega); intro v256 w68 ho hb hg hat; rw [← Ny255.out] at ho; replace BK210 := ak (blk_grown (g := gb210) (o := .cells #[.int .i64 0, .int .i64 0, .int .i64 0] 26 (0, 0)) (PK BK210) hg (Kd.S_ne HO_7.out BK210.out (by decide))); replace BK214 := ak (blk_grown (g := gb214) (o := .cells #[.int .i64 1, .int .i64 t211, .int .i64 0] 26 (0, 0)) (PK BK214) hg (Kd.S_ne HO_7.out BK214.out (by decide))); replace BK227 := ak (blk_grown (g := gb227) (o := .cells #[.int .i64 t250, .int .i64 t251, .int .i64 t252] 26 (0, 0)) (PK BK227) hg (Kd.S_ne HO_7.out BK227.out (by decide))); replace BK234 := ak (blk_grown (g := gb234) (o := .cells #[.int .i64 x235000_19, .slice Ao67 x235001_19.length co67, .int .i64 x235002_19, .int .i64 x235003_19, .int .i64 x235004_19] 38 (0, 0)) (PK BK234) hg (Kd.S_ne HO_7.out BK234.out (by decide))); replace HI0 := ak (IsS158.grown PI hg (IsS158.own_neS HI0.out HO_7.out (by decide))); replace HB := ak (below_weaken PL HL.out hb); replace HK := ak (KeepBut.trans PH (KeepBut.of_grown hg g) (Kd.S_base2 HO_7.out)); have HO257 := ak (ho); clear HO_7 HO_235001; clear ho hb hg hat))
        go_roundg kj19
        case measure => have := HK1.out; have := HJ19.out; omega
        case rel => exact ⟨(y255), (wrap64 (x8_1 - 1)), (t253), (t254), (by first | rfl | (simp; done) | (simp [*]; done)), H', ⟨by have := HK1.out; have := HJ19.out; omega⟩, ⟨PS HO257⟩, ⟨PK BK210⟩, ⟨PK BK214⟩, ⟨PI⟩, ⟨PH⟩, ⟨PL⟩⟩
       ·rw [if_neg c53] at H
        exact absurd H (by simp)
      ·replace c51 := Bool.eq_false_iff.mpr c51
       subst c51
       have H1 : (if x7_1.length < 1599289640401 then (spec_l19Draw.l0 kj19 t215 t218 (x7_1 ++ [(⟨(⟨1, t211, t228⟩ : S26), x8_1, (⟨x235000_19, x235001_19, (⟨x235002_19, x235003_19, x235004_19⟩ : S26)⟩ : S38)⟩ : S40)]) (wrap64 (x8_1 - 1)) s0_0 t248 t249 1 t211 0) else (none)) = some (r1, r2, r3, r4, r5, r6) := by rw [if_neg (show ¬ (false = true) by decide)] at H; exact H
       clear H
       have H := H1
       clear H1
       by_cases c69 : x7_1.length < 1599289640401
       ·rw [if_pos c69] at H
        have LMc69 := Aside0.mk c69
        clear c69
        obtain ⟨y258, hy258⟩ : ∃ y_ : List (S40), y_ = (x7_1 ++ [(⟨(⟨1, t211, t228⟩ : S26), x8_1, (⟨x235000_19, x235001_19, (⟨x235002_19, x235003_19, x235004_19⟩ : S26)⟩ : S38)⟩ : S40)]) := ⟨_, rfl⟩
        replace H : (spec_l19Draw.l0 kj19 t215 t218 y258 (wrap64 (x8_1 - 1)) s0_0 t248 t249 1 t211 0) = some (r1, r2, r3, r4, r5, r6) := by first | (rw [hy258]; with_reducible exact H) | (have H2_ := (Option.bind_some _ _).symm.trans H; rw [hy258]; with_reducible exact H2_) | (have H2_ := (Option.bind_some _ _).symm.trans H; with_reducible exact H2_) | with_reducible exact H | (rw [hy258]; exact H) | exact H
        have Ny258 := Aside0.mk hy258
        clear hy258
        have H' := Aside0.mk H
        clear H
        go_wp2_with (first | ((with_reducible refine gate_callee (f := 119) rfl ?_); refine goesL_ (some 42) rfl rfl Try.func119 KR rfl #[.pointer (some ⟨g, 0, none⟩), .int .i64 6] rfl AR ?_; (with_reducible refine (spec_l1Once.calls g s0_0 x1001_19 x1002_19 6 false t248 t249 w0 _ ?side1 ?side2 A50.out).mono ?_); (case side1 => exact PI); (case side2 => exact PL); rintro e w70 ⟨rfl, hi, hb, hk⟩; refine ⟨_, rfl, ?_⟩; replace HO_7 := Sk (IsS158.apartS (show IsS158 w0 _ g s0_0 x1001_19 x1002_19 from PI) (PS HO_7) (by decide)) hk; replace HO_235001 := Rk (IsS158.apart (show IsS158 w0 _ g s0_0 x1001_19 x1002_19 from PI) (PR HO_235001) (by decide)) hk; replace BK210 := kq hk BK210 NB210_0; replace BK214 := kq hk BK214 NB214_0; replace BK227 := kq hk BK227 NB227_0; replace BK234 := kq hk BK234 NB234_0; replace HK := kt HK hk; replace HB := ak hb; replace HI0 := ak (hi); (try clear hb); (try clear hb2); (try clear hk); (try clear hi); have hnb71 := NB227_210.out; have hnc71 := NB210_227.out; have hnb72 := NB227_214.out; have hnc72 := NB214_227.out; have hnb73 := NB227_234.out; have hnc73 := NB234_227.out; have hnb74 := NB227_0.out; have hnc74 := NB0_227.out; obtain ⟨_, _, _, _, _, _⟩ := bc3 BK227; have hnb76 := NB234_210.out; have hnc76 := NB210_234.out; have hnb77 := NB234_214.out; have hnc77 := NB214_234.out; have hnb78 := NB234_0.out; have hnc78 := NB0_234.out; obtain ⟨_, _, _, _, _, _, _, _, _, _⟩ := bc5 BK234; obtain ⟨Ao80, co80, eo80⟩ := Kd.R_slice HO_235001.out; subst eo80) | ((with_reducible refine gate_builtin (b := .append) (xs := #[.tmp 45, .tmp 50]) rfl ?_); at_builtin; refine Kd.S_append k40 w.heap.size rfl (.tmp 45) (.tmp 50) 24 40 (.agg #[(.int .i64 0), (.int .i64 0), (.int .i64 0), (.int .i64 0), (.int .i64 0), (.slice none 0 0), (.int .i64 0), (.int .i64 0), (.int .i64 0)]) 88 rfl Try.underlying24 info40 rfl (by decide) (by omega) u7 x7_1 (⟨(⟨1, t211, t228⟩ : S26), x8_1, (⟨x235000_19, x235001_19, (⟨x235002_19, x235003_19, x235004_19⟩ : S26)⟩ : S38)⟩ : S40) [.int .i64 1, .int .i64 t211, .int .i64 t228, .int .i64 x8_1, .int .i64 x235000_19, .slice Ao80 x235001_19.length co80, .int .i64 x235002_19, .int .i64 x235003_19, .int .i64 x235004_19] (fun _ => True) (fun k_ => some k_ = (.slice Ao80 x235001_19.length co80 : Value).ownBlock) rfl rfl ?aP (fun k_ hk_ => ((Kd.R_mono (ok' := fun k_ => ((fun _ => True)) k_ ∧ some k_ ≠ (u7 : Value).ownBlock) (Kd.R_apart' (HO_235001.out) (Kd.S_typed HO_7.out) (by decide)) (fun k_ hk => ⟨trivial, hk.2⟩))).1 k_ hk_.symm) ?aF ?aO (Below.refl _ _) ?aS ?aL ?_; (case aP => exact k40_mkM _ _ _ (⟨(⟨1, t211, t228⟩ : S26), x8_1, (⟨x235000_19, x235001_19, (⟨x235002_19, x235003_19, x235004_19⟩ : S26)⟩ : S38)⟩ : S40) (Kd.R_mono (Kd.R_tight rfl (Kd.R_mono (ok' := fun k_ => ((fun _ => True)) k_ ∧ some k_ ≠ (u7 : Value).ownBlock) (Kd.R_apart' (HO_235001.out) (Kd.S_typed HO_7.out) (by decide)) (fun k_ hk => ⟨trivial, hk.2⟩))) (fun _ h_ => h_))); (case aF => exact (fun _ _ => trivial)); (case aO => exact (SX HO_7.out (fun k_ hk => ⟨trivial, fun e_ => hk e_⟩))); (case aS => exact (keep_size (w := w) (g := g) (row := none) PH)); (case aL => have := LMc69.out; omega); intro v259 w81 ho hb hg hat; rw [← Ny258.out] at ho; replace BK210 := ak (blk_grown (g := gb210) (o := .cells #[.int .i64 0, .int .i64 0, .int .i64 0] 26 (0, 0)) (PK BK210) hg (Kd.S_ne HO_7.out BK210.out (by decide))); replace BK214 := ak (blk_grown (g := gb214) (o := .cells #[.int .i64 1, .int .i64 t211, .int .i64 0] 26 (0, 0)) (PK BK214) hg (Kd.S_ne HO_7.out BK214.out (by decide))); replace BK227 := ak (blk_grown (g := gb227) (o := .cells #[.int .i64 1, .int .i64 t211, .int .i64 t228] 26 (0, 0)) (PK BK227) hg (Kd.S_ne HO_7.out BK227.out (by decide))); replace BK234 := ak (blk_grown (g := gb234) (o := .cells #[.int .i64 x235000_19, .slice Ao80 x235001_19.length co80, .int .i64 x235002_19, .int .i64 x235003_19, .int .i64 x235004_19] 38 (0, 0)) (PK BK234) hg (Kd.S_ne HO_7.out BK234.out (by decide))); replace HI0 := ak (IsS158.grown PI hg (IsS158.own_neS HI0.out HO_7.out (by decide))); replace HB := ak (below_weaken PL HL.out hb); replace HK := ak (KeepBut.trans PH (KeepBut.of_grown hg g) (Kd.S_base2 HO_7.out)); have HO260 := ak (ho); clear HO_7 HO_235001; clear ho hb hg hat))
        go_roundg kj19
        case measure => have := HK1.out; have := HJ19.out; omega
        case rel => exact ⟨(y258), (wrap64 (x8_1 - 1)), (t248), (t249), (by first | rfl | (simp; done) | (simp [*]; done)), H', ⟨by have := HK1.out; have := HJ19.out; omega⟩, ⟨PS HO260⟩, ⟨PK BK210⟩, ⟨PK BK214⟩, ⟨PI⟩, ⟨PH⟩, ⟨PL⟩⟩
       ·rw [if_neg c69] at H
        exact absurd H (by simp)
   ·rw [if_neg c17] at H
    have c17b0 : decide (0 < x8_1) = false := decide_eq_false c17
    clear c17
    simp only [Option.some.injEq, Prod.mk.injEq] at H
    obtain ⟨rfl, rfl, rfl, rfl, rfl, rfl⟩ := H
    try go_wp2
    replace HO_7 := ak (Kd.S_drew HO_7.out)
    replace BK210 := ak (blk_drew BK210.out)
    replace BK214 := ak (blk_drew BK214.out)
    replace HI0 := ak (IsS158.drew HI0.out)
    replace HK := ak (keep_drew HK.out)
    replace HB := ak (below_drew1 HB.out)
    refine start_ (n := 4) (S := fun w' => w'.cell? ⟨gb214, 0, none⟩ = some (.int .i64 1) ∧ w'.cell? ⟨gb214, 1, none⟩ = some (.int .i64 t211) ∧ w'.cell? ⟨gb214, 2, none⟩ = some (.int .i64 0)) (ds := []) #[false, false, false, false] KR rfl rfl ⟨(blk_cell BK214.out 0).trans rfl, (blk_cell BK214.out 1).trans rfl, (blk_cell BK214.out 2).trans rfl⟩ (fun hHeld => ?_)
    generalize wr.drew = w82 at HO_7 BK210 BK214 HI0 HK HB hHeld ⊢
    refine pure_ (i := 0) (N := some 52) (v := ?_) (a' := ?_) #[true, false, false, false] rfl rfl KR (fun _ _ _ h => h) (Or.inl ⟨by rfl, ?_⟩) ?_ ?_
    rotate_left
    ·intro w'
     go_simp
     with_reducible rfl
    rotate_left
    ·simp only [Act.put, List.setIfInBounds_toArray, List.set_cons_zero, List.set_cons_succ, i64_w, i32_w]
     rfl
    refine pure_ (i := 2) (N := some 2) (v := ?_) (a' := ?_) #[true, false, true, false] rfl rfl KR (fun _ _ _ h => h) (Or.inl ⟨by rfl, ?_⟩) ?_ ?_
    rotate_left
    ·intro w'
     go_simp
     with_reducible rfl
    rotate_left
    ·simp only [Act.put, List.setIfInBounds_toArray, List.set_cons_zero, List.set_cons_succ, i64_w, i32_w]
     rfl
    refine take_ (i := 1) (N := some 53) (v := ?_) (a' := ?_) #[true, true, true, false] rfl rfl KR (fun _ _ _ h => h) (Or.inl ⟨by rfl, ?_⟩) hHeld ?_ ?_
    rotate_left
    ·rintro w' ⟨s0, s1, s2⟩
     go_simp
     with_reducible rfl
    rotate_left
    ·simp only [Act.put, List.setIfInBounds_toArray, List.set_cons_zero, List.set_cons_succ, i64_w, i32_w]
     rfl
    refine one_ (i := 3) (N := none) #[true, true, true, true] rfl rfl KR (by decide) (fun K hK => ?_)
    have hs83 : w82.cell? ⟨gb210, 0, none⟩ = some (.int .i64 0) := (blk_cell BK210.out 0).trans rfl
    have hfs83 := blk_frozen BK210.out 0
    have hns83_1 := NB214_210.out
    have hms83_1 := NB210_214.out
    have hs84 : w82.cell? ⟨gb210, 1, none⟩ = some (.int .i64 0) := (blk_cell BK210.out 1).trans rfl
    have hfs84 := blk_frozen BK210.out 1
    have hns84_1 := NB214_210.out
    have hms84_1 := NB210_214.out
    have hs85 : w82.cell? ⟨gb210, 2, none⟩ = some (.int .i64 0) := (blk_cell BK210.out 2).trans rfl
    have hfs85 := blk_frozen BK210.out 2
    have hns85_1 := NB214_210.out
    have hms85_1 := NB210_214.out
    refine skip_ (w1 := ?_) (by rfl) rfl ?_ ?_
    rotate_left
    ·go_simp
     rfl
    refine hK.out _ _ ⟨((cell_far (p := ⟨gb210, _, none⟩) NB214_210.out _).trans (((cell_far (p := ⟨gb210, _, none⟩) NB214_210.out _).trans (((cell_far (p := ⟨gb210, _, none⟩) NB214_210.out _).trans (hHeld.1)))))), ((cell_far (p := ⟨gb210, _, none⟩) NB214_210.out _).trans (((cell_far (p := ⟨gb210, _, none⟩) NB214_210.out _).trans (((cell_far (p := ⟨gb210, _, none⟩) NB214_210.out _).trans (hHeld.2.1)))))), ((cell_far (p := ⟨gb210, _, none⟩) NB214_210.out _).trans (((cell_far (p := ⟨gb210, _, none⟩) NB214_210.out _).trans (((cell_far (p := ⟨gb210, _, none⟩) NB214_210.out _).trans (hHeld.2.2))))))⟩ (fun hHeld => ?_)
    clear hK K
    refine done_ KR ?_
    try go_wp2
    refine bodyPost_ret (results_tc rfl _ _ gb210 26 #[.int .i64 1, .int .i64 t211, .int .i64 0] (0, 0) _ rfl (PX BK210) Try.underlying26 rfl KR) rfl ?_
    exact ⟨_, RT, SX (St HO_7.out BK210) (fun _ hk => trivial), PI, PL, PH⟩

/-! ### spec_l1Int: function 67 -/
def spec_l1Int.f (s0_0 : List Int) (s0_1 : Int) (s0_2 : Int) (l1 : List Int) : Option (Int × Int × Int) := (spec_l1Below.f s0_0 s0_1 s0_2 (l1.length : Int)).bind fun bt261 => (if 0 ≤ bt261.1 then (if bt261.1 < (l1.length : Int) then (some (rd l1 bt261.1, bt261.2.1, bt261.2.2)) else (none)) else (none))
set_option maxHeartbeats 8000000 in
set_option maxRecDepth 100000 in
theorem spec_l1Int.calls (g : Nat) (s0_0 : List Int) (s0_1 : Int) (s0_2 : Int) (A1 : Option Addr) (c1 : Nat) (l1 : List Int) (r1 : Int) (r2 : Int) (r3 : Int) (w0 w : World) (hI : IsS158 w0 w g s0_0 s0_1 s0_2) (hB : Below w0.heap.size w0 w) (hr1 : Kd.C (Kd.int .i64) w A1 l1.length l1) (hc1 : l1.length ≤ c1) (hf1 : ∀ ad, A1 = some ad → 0 < l1.length → ad.block ≠ g) (h : spec_l1Int.f s0_0 s0_1 s0_2 l1 = some (r1, r2, r3)) :
  Calls Try.prog 67 #[.pointer (some ⟨g, 0, none⟩), .slice A1 l1.length c1] w fun e w' => e = .returned (.int .i64 r1) ∧ IsS158 w0 w' g s0_0 r2 r3 ∧ Below w0.heap.size w0 w' ∧ KeepBut w w' g none := by
 have HR1 := Aside0.mk hr1
 have HC1 := Aside0.mk hc1
 clear hr1 hc1
 have HI0 := Aside0.mk hI
 have HK := ak (KeepBut.refl w g none)
 have HL := Aside0.mk hB.size
 clear hI
 have HW0 := Aside0.mk hB.size
 have HB := Aside0.mk hB
 clear hB
 have H : ((spec_l1Below.f s0_0 s0_1 s0_2 (l1.length : Int)).bind fun bt261 => (if 0 ≤ bt261.1 then (if bt261.1 < (l1.length : Int) then (some (rd l1 bt261.1, bt261.2.1, bt261.2.2)) else (none)) else (none))) = some (r1, r2, r3) := h
 clear h
 replace H := Option.bind_eq_some_iff.mp H
 obtain ⟨⟨t261, t262, t263⟩, A30, H⟩ := H
 replace H : (if 0 ≤ t261 then (if t261 < (l1.length : Int) then (some (rd l1 t261, t262, t263)) else (none)) else (none)) = some (r1, r2, r3) := H
 have A3 := Aside0.mk A30
 clear A30
 by_cases c4 : 0 ≤ t261
 ·rw [if_pos c4] at H
  have c4b0 : decide (0 ≤ t261) = true := decide_eq_true c4
  clear c4
  by_cases c5 : t261 < (l1.length : Int)
  ·rw [if_pos c5] at H
   have c5b0 : decide (t261 < (l1.length : Int)) = true := decide_eq_true c5
   clear c5
   simp only [Option.some.injEq, Prod.mk.injEq] at H
   obtain ⟨rfl, rfl, rfl⟩ := H
   go_enter Try.func67, Try.ntmps67
   go_wp2_with (first | ((with_reducible refine gate_callee (f := 68) rfl ?_); refine goesL_ (some 9) rfl rfl Try.func68 KR rfl #[.pointer (some ⟨g, 0, none⟩), .int .i64 (l1.length : Int)] rfl AR ?_; (with_reducible refine (spec_l1Below.calls g s0_0 s0_1 s0_2 (l1.length : Int) t261 t262 t263 w0 _ ?side1 ?side2 A3.out).mono ?_); (case side1 => exact PI); (case side2 => exact PL); rintro e w6 ⟨rfl, hi, hb, hk⟩; refine ⟨_, rfl, ?_⟩; replace HK := kt HK hk; replace HB := ak hb; replace HI0 := ak (hi); (try clear hb); (try clear hb2); (try clear hk); (try clear hi); have p264 : 0 ≤ (t261 : Int) := of_decide_eq_true (by first | (with_reducible assumption) | assumption); have q264 : t261 < (l1.length : Int) := of_decide_eq_true (by first | (with_reducible assumption) | assumption); obtain ⟨ad264, e264, hx264_0⟩ := Kd.at_int HR1.out t261 p264 q264; cases e264; replace hx264_0 := keep_cell HK.out hx264_0 (by first | (rw [add_block]; exact hf1 _ rfl (by omega)) | exact hf1 _ rfl (by omega) | exact hf1 ad264 rfl (by omega)); replace p264 := eq_true p264; replace q264 := eq_true q264))
   go_ret
   exact ⟨RT, PI, PL, PH⟩
  ·rw [if_neg c5] at H
   exact absurd H (by simp)
 ·rw [if_neg c4] at H
  exact absurd H (by simp)

/-! ### spec_l4Raw: function 123 -/
def spec_l4Raw.f (s0_0 : List Int) (s0_1 : Int) (s0_2 : Int) : Option (Int × Int × Int) := (spec_l1Int.f s0_0 s0_1 s0_2 (([(-1), 0, 9, 10, 99, 100, 9223372036854775807, (-9223372036854775808)] : List Int))).bind fun bt268 => (some (bt268.1, bt268.2.1, bt268.2.2))
set_option maxHeartbeats 8000000 in
set_option maxRecDepth 100000 in
theorem spec_l4Raw.calls (g : Nat) (s0_0 : List Int) (s0_1 : Int) (s0_2 : Int) (r1 : Int) (r2 : Int) (r3 : Int) (w0 w : World) (hI : IsS158 w0 w g s0_0 s0_1 s0_2) (hB : Below w0.heap.size w0 w) (h : spec_l4Raw.f s0_0 s0_1 s0_2 = some (r1, r2, r3)) :
  Calls Try.prog 123 #[.pointer (some ⟨g, 0, none⟩)] w fun e w' => e = .returned (.int .i64 r1) ∧ IsS158 w0 w' g s0_0 r2 r3 ∧ Below w0.heap.size w0 w' ∧ KeepBut w w' g none := by
 have HI0 := Aside0.mk hI
 have HK := ak (KeepBut.refl w g none)
 have HL := Aside0.mk hB.size
 clear hI
 have HW0 := Aside0.mk hB.size
 have HB := Aside0.mk hB
 clear hB
 have H : ((spec_l1Int.f s0_0 s0_1 s0_2 (([(-1), 0, 9, 10, 99, 100, 9223372036854775807, (-9223372036854775808)] : List Int))).bind fun bt268 => (some (bt268.1, bt268.2.1, bt268.2.2))) = some (r1, r2, r3) := h
 clear h
 obtain ⟨y265, hy265⟩ : ∃ y_ : List Int, y_ = (([(-1), 0, 9, 10, 99, 100, 9223372036854775807, (-9223372036854775808)] : List Int)) := ⟨_, rfl⟩
 replace H : ((spec_l1Int.f s0_0 s0_1 s0_2 y265).bind fun bt268 => (some (bt268.1, bt268.2.1, bt268.2.2))) = some (r1, r2, r3) := by first | (rw [hy265]; with_reducible exact H) | (have H2_ := (Option.bind_some _ _).symm.trans H; rw [hy265]; with_reducible exact H2_) | (have H2_ := (Option.bind_some _ _).symm.trans H; with_reducible exact H2_) | with_reducible exact H | (rw [hy265]; exact H) | exact H
 have Ny265 := Aside0.mk hy265
 clear hy265
 replace H := Option.bind_eq_some_iff.mp H
 obtain ⟨⟨t268, t269, t270⟩, A20, H⟩ := H
 replace H : (some (t268, t269, t270)) = some (r1, r2, r3) := H
 have A2 := Aside0.mk A20
 clear A20
 simp only [Option.some.injEq, Prod.mk.injEq] at H
 obtain ⟨rfl, rfl, rfl⟩ := H
 go_enter Try.func123, Try.ntmps123
 go_wp2_with (first | ((with_reducible refine gate_dst (N := 4) rfl ?_); refine Kd.R_lit (Kd.int .i64) _ 3 ?hg (N := 4) ?hd (xs := ([(-1), 0, 9, 10, 99, 100, 9223372036854775807, (-9223372036854775808)] : List Int)) (inner := [.int .i64 (-1), .int .i64 0, .int .i64 9, .int .i64 10, .int .i64 99, .int .i64 100, .int .i64 9223372036854775807, .int .i64 (-9223372036854775808)]) (ok := fun _ => True) (okp := fun _ => True) ?hr ?hp (fun _ hk => hk) trivial (Below.refl _ _) (Nat.le_refl _) (by simp) ?_; (case hd => rfl); (case hg => rfl); (case hr => first | (go_simp; done) | (go_simp; rfl)); (case hp => exact (Reps.one (show Kd.M (Kd.int .i64) _ _ _ (-1) [.int .i64 (-1)] from rfl) (Reps.one (show Kd.M (Kd.int .i64) _ _ _ 0 [.int .i64 0] from rfl) (Reps.one (show Kd.M (Kd.int .i64) _ _ _ 9 [.int .i64 9] from rfl) (Reps.one (show Kd.M (Kd.int .i64) _ _ _ 10 [.int .i64 10] from rfl) (Reps.one (show Kd.M (Kd.int .i64) _ _ _ 99 [.int .i64 99] from rfl) (Reps.one (show Kd.M (Kd.int .i64) _ _ _ 100 [.int .i64 100] from rfl) (Reps.one (show Kd.M (Kd.int .i64) _ _ _ 9223372036854775807 [.int .i64 9223372036854775807] from rfl) (Reps.one (show Kd.M (Kd.int .i64) _ _ _ (-9223372036854775808) [.int .i64 (-9223372036854775808)] from rfl) (Reps.none _ _)))))))))); intro v266 w3 ho4 hb hg_ hnew_; clear hg_ hnew_; (first | rw [← Ny265.out] at ho4 | (simp only [Int.reduceToNat] at ho4; rw [← Ny265.out] at ho4)); have HO267 := ak (Kd.R_lower ho4 (keep_size (w := w) (g := g) (row := none) PH)); replace HI0 := ak (IsS158.below PI hb); replace HK := kt HK (KeepBut.of_below hb g none); replace HB := bs HB hb; clear hb ho4; obtain ⟨Ao5, co5, eo5⟩ := Kd.R_slice HO267.out; subst eo5) | ((with_reducible refine gate_callee (f := 67) rfl ?_); refine goesL_ (some 5) rfl rfl Try.func67 KR rfl #[.pointer (some ⟨g, 0, none⟩), .slice Ao5 y265.length co5] rfl AR ?_; (with_reducible refine (spec_l1Int.calls g s0_0 s0_1 s0_2 _ _ y265 t268 t269 t270 w0 _ ?side1 ?side2 ?side3 ?side4 ?side5 A2.out).mono ?_); (case side1 => exact PI); (case side2 => exact PL); (case side3 => exact CR ((Kd.R_reads' HO267.out).2.2)); (case side4 => exact (Kd.R_reads' HO267.out).2.1); (case side5 => exact far_slice (IsS158.own_ne HI0.out HO267.out (by decide))); rintro e w6 ⟨rfl, hi, hb, hk⟩; refine ⟨_, rfl, ?_⟩; replace HO267 := Rk (IsS158.apart (show IsS158 w0 _ g s0_0 s0_1 s0_2 from PI) (PR HO267) (by decide)) hk; replace HK := kt HK hk; replace HB := ak hb; replace HI0 := ak (hi); (try clear hb); (try clear hb2); (try clear hk); (try clear hi)))
 go_ret
 exact ⟨RT, PI, PL, PH⟩

/-! ### spec_l4Any: function 121 -/
def spec_l4Any.f (s0_0 : List Int) (s0_1 : Int) (s0_2 : Int) : Option (Int × Int × Int × Int × Int) := (spec_l4Draw.f s0_0 s0_1 s0_2).bind fun bt272 => ((spec_l1Below.f s0_0 bt272.2.2.2.1 bt272.2.2.2.2 9).bind fun bt278 => (if bt278.1 = 0 then ((spec_l4Raw.f s0_0 bt278.2.1 bt278.2.2).bind fun bt281 => (some (bt281.1, bt272.2.1, bt272.2.2.1, bt281.2.1, bt281.2.2))) else (if bt278.1 = 1 then ((spec_l4Raw.f s0_0 bt278.2.1 bt278.2.2).bind fun bt284 => (some (bt272.1, bt284.1, bt272.2.2.1, bt284.2.1, bt284.2.2))) else (if bt278.1 = 2 then ((spec_l4Raw.f s0_0 bt278.2.1 bt278.2.2).bind fun bt287 => (some (bt272.1, bt272.2.1, bt287.1, bt287.2.1, bt287.2.2))) else (some (bt272.1, bt272.2.1, bt272.2.2.1, bt278.2.1, bt278.2.2))))))
set_option maxHeartbeats 8000000 in
set_option maxRecDepth 100000 in
theorem spec_l4Any.calls (g : Nat) (s0_0 : List Int) (s0_1 : Int) (s0_2 : Int) (r1 : Int) (r2 : Int) (r3 : Int) (r4 : Int) (r5 : Int) (w0 w : World) (hI : IsS158 w0 w g s0_0 s0_1 s0_2) (hB : Below w0.heap.size w0 w) (h : spec_l4Any.f s0_0 s0_1 s0_2 = some (r1, r2, r3, r4, r5)) :
  Calls Try.prog 121 #[.pointer (some ⟨g, 0, none⟩)] w fun e w' => e = .returned (.agg #[.int .i64 r1, .int .i64 r2, .int .i64 r3]) ∧ IsS158 w0 w' g s0_0 r4 r5 ∧ Below w0.heap.size w0 w' ∧ KeepBut w w' g none := by
 have hu26 := Try.underlying26
 have HI0 := Aside0.mk hI
 have HK := ak (KeepBut.refl w g none)
 have HL := Aside0.mk hB.size
 clear hI
 have HW0 := Aside0.mk hB.size
 have HB := Aside0.mk hB
 clear hB
 have H : ((spec_l4Draw.f s0_0 s0_1 s0_2).bind fun bt272 => ((spec_l1Below.f s0_0 bt272.2.2.2.1 bt272.2.2.2.2 9).bind fun bt278 => (if bt278.1 = 0 then ((spec_l4Raw.f s0_0 bt278.2.1 bt278.2.2).bind fun bt281 => (some (bt281.1, bt272.2.1, bt272.2.2.1, bt281.2.1, bt281.2.2))) else (if bt278.1 = 1 then ((spec_l4Raw.f s0_0 bt278.2.1 bt278.2.2).bind fun bt284 => (some (bt272.1, bt284.1, bt272.2.2.1, bt284.2.1, bt284.2.2))) else (if bt278.1 = 2 then ((spec_l4Raw.f s0_0 bt278.2.1 bt278.2.2).bind fun bt287 => (some (bt272.1, bt272.2.1, bt287.1, bt287.2.1, bt287.2.2))) else (some (bt272.1, bt272.2.1, bt272.2.2.1, bt278.2.1, bt278.2.2))))))) = some (r1, r2, r3, r4, r5) := h
 clear h
 replace H := Option.bind_eq_some_iff.mp H
 obtain ⟨⟨t272, t273, t274, t275, t276⟩, A20, H⟩ := H
 replace H : ((spec_l1Below.f s0_0 t275 t276 9).bind fun bt278 => (if bt278.1 = 0 then ((spec_l4Raw.f s0_0 bt278.2.1 bt278.2.2).bind fun bt281 => (some (bt281.1, t273, t274, bt281.2.1, bt281.2.2))) else (if bt278.1 = 1 then ((spec_l4Raw.f s0_0 bt278.2.1 bt278.2.2).bind fun bt284 => (some (t272, bt284.1, t274, bt284.2.1, bt284.2.2))) else (if bt278.1 = 2 then ((spec_l4Raw.f s0_0 bt278.2.1 bt278.2.2).bind fun bt287 => (some (t272, t273, bt287.1, bt287.2.1, bt287.2.2))) else (some (t272, t273, t274, bt278.2.1, bt278.2.2)))))) = some (r1, r2, r3, r4, r5) := H
 have A2 := Aside0.mk A20
 clear A20
 replace H := Option.bind_eq_some_iff.mp H
 obtain ⟨⟨t278, t279, t280⟩, A30, H⟩ := H
 replace H : (if t278 = 0 then ((spec_l4Raw.f s0_0 t279 t280).bind fun bt281 => (some (bt281.1, t273, t274, bt281.2.1, bt281.2.2))) else (if t278 = 1 then ((spec_l4Raw.f s0_0 t279 t280).bind fun bt284 => (some (t272, bt284.1, t274, bt284.2.1, bt284.2.2))) else (if t278 = 2 then ((spec_l4Raw.f s0_0 t279 t280).bind fun bt287 => (some (t272, t273, bt287.1, bt287.2.1, bt287.2.2))) else (some (t272, t273, t274, t279, t280))))) = some (r1, r2, r3, r4, r5) := H
 have A3 := Aside0.mk A30
 clear A30
 by_cases c4 : t278 = 0
 ·rw [if_pos c4] at H
  have c4b0 : (t278 == 0) = true := beq_iff_eq.mpr c4
  have c4b1 : (t278 != 0) = false := bne_eq_false_iff_eq.mpr c4
  clear c4
  replace H := Option.bind_eq_some_iff.mp H
  obtain ⟨⟨t281, t282, t283⟩, A50, H⟩ := H
  replace H : (some (t281, t273, t274, t282, t283)) = some (r1, r2, r3, r4, r5) := H
  have A5 := Aside0.mk A50
  clear A50
  simp only [Option.some.injEq, Prod.mk.injEq] at H
  obtain ⟨rfl, rfl, rfl, rfl, rfl⟩ := H
  go_enter Try.func121, Try.ntmps121
  go_wp2_with (first | ((with_reducible refine gate_dst (N := 2) rfl ?_); refine bx_ (N := 2) #[.int .i64 0, .int .i64 0, .int .i64 0] 26 ?_; intro gb271 hg w6 hbox hb; replace HB := bs HB hb; have BK271 := ak hbox; have GW271 := ak (kz hg HK); have GE271 := ak (Nat.le_trans HW0.out (kz hg HK)); replace HK := kt HK (KeepBut.of_below hb g none); have NB0_271 := ak (nh hg (IsS158.lt (show IsS158 w0 _ g s0_0 s0_1 s0_2 from PI))); have NB271_0 := ak (ng hg (IsS158.lt (show IsS158 w0 _ g s0_0 s0_1 s0_2 from PI))); replace HI0 := ak (IsS158.below PI hb); clear hb hbox hg) | ((with_reducible refine gate_callee (f := 128) rfl ?_); refine goesL_ (some 5) rfl rfl Try.func128 KR rfl #[.pointer (some ⟨g, 0, none⟩)] rfl AR ?_; (with_reducible refine (spec_l4Draw.calls g s0_0 s0_1 s0_2 t272 t273 t274 t275 t276 w0 _ ?side1 ?side2 A2.out).mono ?_); (case side1 => exact PI); (case side2 => exact PL); rintro e w7 ⟨rfl, hi, hb, hk⟩; refine ⟨_, rfl, ?_⟩; replace BK271 := kq hk BK271 NB271_0; replace HK := kt HK hk; replace HB := ak hb; replace HI0 := ak (hi); (try clear hb); (try clear hb2); (try clear hk); (try clear hi)) | ((with_reducible refine gate_dst (N := 3) rfl ?_); refine bx_ (N := 3) #[.int .i64 0, .int .i64 0, .int .i64 0] 26 ?_; intro gb277 hg w8 hbox hb; replace HB := bs HB hb; have BK277 := ak hbox; have GW277 := ak (kz hg HK); have GE277 := ak (Nat.le_trans HW0.out (kz hg HK)); replace HK := kt HK (KeepBut.of_below hb g none); have NB271_277 := gm hg BK271; have NB277_271 := gn hg BK271; replace BK271 := kf BK271 hb; have NB0_277 := ak (nh hg (IsS158.lt (show IsS158 w0 _ g s0_0 t275 t276 from PI))); have NB277_0 := ak (ng hg (IsS158.lt (show IsS158 w0 _ g s0_0 t275 t276 from PI))); replace HI0 := ak (IsS158.below PI hb); clear hb hbox hg; have hnb9 := NB277_271.out; have hnc9 := NB271_277.out; have hnb10 := NB277_0.out; have hnc10 := NB0_277.out; obtain ⟨hcz11_0, hcz11_1, hcz11_2, hfz11_0, hfz11_1, hfz11_2⟩ := bc3 BK277) | ((with_reducible refine gate_callee (f := 68) rfl ?_); refine goesL_ (some 7) rfl rfl Try.func68 KR rfl #[.pointer (some ⟨g, 0, none⟩), .int .i64 9] rfl AR ?_; (with_reducible refine (spec_l1Below.calls g s0_0 t275 t276 9 t278 t279 t280 w0 _ ?side1 ?side2 A3.out).mono ?_); (case side1 => exact PI); (case side2 => exact PL); rintro e w12 ⟨rfl, hi, hb, hk⟩; refine ⟨_, rfl, ?_⟩; replace BK271 := kq hk BK271 NB271_0; replace BK277 := kr (cs' := #[.int .i64 t272, .int .i64 t273, .int .i64 t274]) hk BK277 NB277_0; replace HK := kt HK hk; replace HB := ak hb; replace HI0 := ak (hi); (try clear hb); (try clear hb2); (try clear hk); (try clear hi)) | ((with_reducible refine gate_callee (f := 123) rfl ?_); refine goesL_ (some 11) rfl rfl Try.func123 KR rfl #[.pointer (some ⟨g, 0, none⟩)] rfl AR ?_; (with_reducible refine (spec_l4Raw.calls g s0_0 t279 t280 t281 t282 t283 w0 _ ?side1 ?side2 A5.out).mono ?_); (case side1 => exact PI); (case side2 => exact PL); rintro e w13 ⟨rfl, hi, hb, hk⟩; refine ⟨_, rfl, ?_⟩; replace BK271 := kq hk BK271 NB271_0; replace BK277 := kq hk BK277 NB277_0; replace HK := kt HK hk; replace HB := ak hb; replace HI0 := ak (hi); (try clear hb); (try clear hb2); (try clear hk); (try clear hi); obtain ⟨_, _, _, _, _, _⟩ := bc3 BK277; have hnb15 := NB271_0.out; have hnc15 := NB0_271.out; obtain ⟨_, _, _, _, _, _⟩ := bc3 BK271))
  refine bodyPost_ret (results_cell_row rfl _ _ gb271 26 #[.int .i64 t281, .int .i64 t273, .int .i64 t274] (0, 0) _ rfl (PX BK271) Try.underlying26 rfl KR) rfl ?_
  exact ⟨RT, PI, PL, PH⟩
 ·rw [if_neg c4] at H
  have c4b0 : (t278 == 0) = false := beq_eq_false_iff_ne.mpr c4
  have c4b1 : (t278 != 0) = true := bne_iff_ne.mpr c4
  by_cases c17 : t278 = 1
  ·rw [if_pos c17] at H
   have c17b0 : (t278 == 1) = true := beq_iff_eq.mpr c17
   have c17b1 : (t278 != 1) = false := bne_eq_false_iff_eq.mpr c17
   clear c17
   replace H := Option.bind_eq_some_iff.mp H
   obtain ⟨⟨t284, t285, t286⟩, A180, H⟩ := H
   replace H : (some (t272, t284, t274, t285, t286)) = some (r1, r2, r3, r4, r5) := H
   have A18 := Aside0.mk A180
   clear A180
   simp only [Option.some.injEq, Prod.mk.injEq] at H
   obtain ⟨rfl, rfl, rfl, rfl, rfl⟩ := H
   go_enter Try.func121, Try.ntmps121
   go_wp2_with (first | ((with_reducible refine gate_dst (N := 2) rfl ?_); refine bx_ (N := 2) #[.int .i64 0, .int .i64 0, .int .i64 0] 26 ?_; intro gb271 hg w19 hbox hb; replace HB := bs HB hb; have BK271 := ak hbox; have GW271 := ak (kz hg HK); have GE271 := ak (Nat.le_trans HW0.out (kz hg HK)); replace HK := kt HK (KeepBut.of_below hb g none); have NB0_271 := ak (nh hg (IsS158.lt (show IsS158 w0 _ g s0_0 s0_1 s0_2 from PI))); have NB271_0 := ak (ng hg (IsS158.lt (show IsS158 w0 _ g s0_0 s0_1 s0_2 from PI))); replace HI0 := ak (IsS158.below PI hb); clear hb hbox hg) | ((with_reducible refine gate_callee (f := 128) rfl ?_); refine goesL_ (some 5) rfl rfl Try.func128 KR rfl #[.pointer (some ⟨g, 0, none⟩)] rfl AR ?_; (with_reducible refine (spec_l4Draw.calls g s0_0 s0_1 s0_2 t272 t273 t274 t275 t276 w0 _ ?side1 ?side2 A2.out).mono ?_); (case side1 => exact PI); (case side2 => exact PL); rintro e w20 ⟨rfl, hi, hb, hk⟩; refine ⟨_, rfl, ?_⟩; replace BK271 := kq hk BK271 NB271_0; replace HK := kt HK hk; replace HB := ak hb; replace HI0 := ak (hi); (try clear hb); (try clear hb2); (try clear hk); (try clear hi)) | ((with_reducible refine gate_dst (N := 3) rfl ?_); refine bx_ (N := 3) #[.int .i64 0, .int .i64 0, .int .i64 0] 26 ?_; intro gb277 hg w21 hbox hb; replace HB := bs HB hb; have BK277 := ak hbox; have GW277 := ak (kz hg HK); have GE277 := ak (Nat.le_trans HW0.out (kz hg HK)); replace HK := kt HK (KeepBut.of_below hb g none); have NB271_277 := gm hg BK271; have NB277_271 := gn hg BK271; replace BK271 := kf BK271 hb; have NB0_277 := ak (nh hg (IsS158.lt (show IsS158 w0 _ g s0_0 t275 t276 from PI))); have NB277_0 := ak (ng hg (IsS158.lt (show IsS158 w0 _ g s0_0 t275 t276 from PI))); replace HI0 := ak (IsS158.below PI hb); clear hb hbox hg; have hnb22 := NB277_271.out; have hnc22 := NB271_277.out; have hnb23 := NB277_0.out; have hnc23 := NB0_277.out; obtain ⟨_, _, _, _, _, _⟩ := bc3 BK277) | ((with_reducible refine gate_callee (f := 68) rfl ?_); refine goesL_ (some 7) rfl rfl Try.func68 KR rfl #[.pointer (some ⟨g, 0, none⟩), .int .i64 9] rfl AR ?_; (with_reducible refine (spec_l1Below.calls g s0_0 t275 t276 9 t278 t279 t280 w0 _ ?side1 ?side2 A3.out).mono ?_); (case side1 => exact PI); (case side2 => exact PL); rintro e w25 ⟨rfl, hi, hb, hk⟩; refine ⟨_, rfl, ?_⟩; replace BK271 := kq hk BK271 NB271_0; replace BK277 := kr (cs' := #[.int .i64 t272, .int .i64 t273, .int .i64 t274]) hk BK277 NB277_0; replace HK := kt HK hk; replace HB := ak hb; replace HI0 := ak (hi); (try clear hb); (try clear hb2); (try clear hk); (try clear hi)) | ((with_reducible refine gate_callee (f := 123) rfl ?_); refine goesL_ (some 16) rfl rfl Try.func123 KR rfl #[.pointer (some ⟨g, 0, none⟩)] rfl AR ?_; (with_reducible refine (spec_l4Raw.calls g s0_0 t279 t280 t284 t285 t286 w0 _ ?side1 ?side2 A18.out).mono ?_); (case side1 => exact PI); (case side2 => exact PL); rintro e w26 ⟨rfl, hi, hb, hk⟩; refine ⟨_, rfl, ?_⟩; replace BK271 := kq hk BK271 NB271_0; replace BK277 := kq hk BK277 NB277_0; replace HK := kt HK hk; replace HB := ak hb; replace HI0 := ak (hi); (try clear hb); (try clear hb2); (try clear hk); (try clear hi); obtain ⟨_, _, _, _, _, _⟩ := bc3 BK277; have hnb28 := NB271_0.out; have hnc28 := NB0_271.out; obtain ⟨_, _, _, _, _, _⟩ := bc3 BK271))
   refine bodyPost_ret (results_cell_row rfl _ _ gb271 26 #[.int .i64 t272, .int .i64 t284, .int .i64 t274] (0, 0) _ rfl (PX BK271) Try.underlying26 rfl KR) rfl ?_
   exact ⟨RT, PI, PL, PH⟩
  ·rw [if_neg c17] at H
   have c17b0 : (t278 == 1) = false := beq_eq_false_iff_ne.mpr c17
   have c17b1 : (t278 != 1) = true := bne_iff_ne.mpr c17
   by_cases c30 : t278 = 2
   ·rw [if_pos c30] at H
    have c30b0 : (t278 == 2) = true := beq_iff_eq.mpr c30
    have c30b1 : (t278 != 2) = false := bne_eq_false_iff_eq.mpr c30
    clear c30
    replace H := Option.bind_eq_some_iff.mp H
    obtain ⟨⟨t287, t288, t289⟩, A310, H⟩ := H
    replace H : (some (t272, t273, t287, t288, t289)) = some (r1, r2, r3, r4, r5) := H
    have A31 := Aside0.mk A310
    clear A310
    simp only [Option.some.injEq, Prod.mk.injEq] at H
    obtain ⟨rfl, rfl, rfl, rfl, rfl⟩ := H
    go_enter Try.func121, Try.ntmps121
    go_wp2_with (first | ((with_reducible refine gate_dst (N := 2) rfl ?_); refine bx_ (N := 2) #[.int .i64 0, .int .i64 0, .int .i64 0] 26 ?_; intro gb271 hg w32 hbox hb; replace HB := bs HB hb; have BK271 := ak hbox; have GW271 := ak (kz hg HK); have GE271 := ak (Nat.le_trans HW0.out (kz hg HK)); replace HK := kt HK (KeepBut.of_below hb g none); have NB0_271 := ak (nh hg (IsS158.lt (show IsS158 w0 _ g s0_0 s0_1 s0_2 from PI))); have NB271_0 := ak (ng hg (IsS158.lt (show IsS158 w0 _ g s0_0 s0_1 s0_2 from PI))); replace HI0 := ak (IsS158.below PI hb); clear hb hbox hg) | ((with_reducible refine gate_callee (f := 128) rfl ?_); refine goesL_ (some 5) rfl rfl Try.func128 KR rfl #[.pointer (some ⟨g, 0, none⟩)] rfl AR ?_; (with_reducible refine (spec_l4Draw.calls g s0_0 s0_1 s0_2 t272 t273 t274 t275 t276 w0 _ ?side1 ?side2 A2.out).mono ?_); (case side1 => exact PI); (case side2 => exact PL); rintro e w33 ⟨rfl, hi, hb, hk⟩; refine ⟨_, rfl, ?_⟩; replace BK271 := kq hk BK271 NB271_0; replace HK := kt HK hk; replace HB := ak hb; replace HI0 := ak (hi); (try clear hb); (try clear hb2); (try clear hk); (try clear hi)) | ((with_reducible refine gate_dst (N := 3) rfl ?_); refine bx_ (N := 3) #[.int .i64 0, .int .i64 0, .int .i64 0] 26 ?_; intro gb277 hg w34 hbox hb; replace HB := bs HB hb; have BK277 := ak hbox; have GW277 := ak (kz hg HK); have GE277 := ak (Nat.le_trans HW0.out (kz hg HK)); replace HK := kt HK (KeepBut.of_below hb g none); have NB271_277 := gm hg BK271; have NB277_271 := gn hg BK271; replace BK271 := kf BK271 hb; have NB0_277 := ak (nh hg (IsS158.lt (show IsS158 w0 _ g s0_0 t275 t276 from PI))); have NB277_0 := ak (ng hg (IsS158.lt (show IsS158 w0 _ g s0_0 t275 t276 from PI))); replace HI0 := ak (IsS158.below PI hb); clear hb hbox hg; have hnb35 := NB277_271.out; have hnc35 := NB271_277.out; have hnb36 := NB277_0.out; have hnc36 := NB0_277.out; obtain ⟨_, _, _, _, _, _⟩ := bc3 BK277) | ((with_reducible refine gate_callee (f := 68) rfl ?_); refine goesL_ (some 7) rfl rfl Try.func68 KR rfl #[.pointer (some ⟨g, 0, none⟩), .int .i64 9] rfl AR ?_; (with_reducible refine (spec_l1Below.calls g s0_0 t275 t276 9 t278 t279 t280 w0 _ ?side1 ?side2 A3.out).mono ?_); (case side1 => exact PI); (case side2 => exact PL); rintro e w38 ⟨rfl, hi, hb, hk⟩; refine ⟨_, rfl, ?_⟩; replace BK271 := kq hk BK271 NB271_0; replace BK277 := kr (cs' := #[.int .i64 t272, .int .i64 t273, .int .i64 t274]) hk BK277 NB277_0; replace HK := kt HK hk; replace HB := ak hb; replace HI0 := ak (hi); (try clear hb); (try clear hb2); (try clear hk); (try clear hi)) | ((with_reducible refine gate_callee (f := 123) rfl ?_); refine goesL_ (some 21) rfl rfl Try.func123 KR rfl #[.pointer (some ⟨g, 0, none⟩)] rfl AR ?_; (with_reducible refine (spec_l4Raw.calls g s0_0 t279 t280 t287 t288 t289 w0 _ ?side1 ?side2 A31.out).mono ?_); (case side1 => exact PI); (case side2 => exact PL); rintro e w39 ⟨rfl, hi, hb, hk⟩; refine ⟨_, rfl, ?_⟩; replace BK271 := kq hk BK271 NB271_0; replace BK277 := kq hk BK277 NB277_0; replace HK := kt HK hk; replace HB := ak hb; replace HI0 := ak (hi); (try clear hb); (try clear hb2); (try clear hk); (try clear hi); obtain ⟨_, _, _, _, _, _⟩ := bc3 BK277; have hnb41 := NB271_0.out; have hnc41 := NB0_271.out; obtain ⟨_, _, _, _, _, _⟩ := bc3 BK271))
    refine bodyPost_ret (results_cell_row rfl _ _ gb271 26 #[.int .i64 t272, .int .i64 t273, .int .i64 t287] (0, 0) _ rfl (PX BK271) Try.underlying26 rfl KR) rfl ?_
    exact ⟨RT, PI, PL, PH⟩
   ·rw [if_neg c30] at H
    have c30b0 : (t278 == 2) = false := beq_eq_false_iff_ne.mpr c30
    have c30b1 : (t278 != 2) = true := bne_iff_ne.mpr c30
    simp only [Option.some.injEq, Prod.mk.injEq] at H
    obtain ⟨rfl, rfl, rfl, rfl, rfl⟩ := H
    go_enter Try.func121, Try.ntmps121
    go_wp2_with (first | ((with_reducible refine gate_dst (N := 2) rfl ?_); refine bx_ (N := 2) #[.int .i64 0, .int .i64 0, .int .i64 0] 26 ?_; intro gb271 hg w43 hbox hb; replace HB := bs HB hb; have BK271 := ak hbox; have GW271 := ak (kz hg HK); have GE271 := ak (Nat.le_trans HW0.out (kz hg HK)); replace HK := kt HK (KeepBut.of_below hb g none); have NB0_271 := ak (nh hg (IsS158.lt (show IsS158 w0 _ g s0_0 s0_1 s0_2 from PI))); have NB271_0 := ak (ng hg (IsS158.lt (show IsS158 w0 _ g s0_0 s0_1 s0_2 from PI))); replace HI0 := ak (IsS158.below PI hb); clear hb hbox hg) | ((with_reducible refine gate_callee (f := 128) rfl ?_); refine goesL_ (some 5) rfl rfl Try.func128 KR rfl #[.pointer (some ⟨g, 0, none⟩)] rfl AR ?_; (with_reducible refine (spec_l4Draw.calls g s0_0 s0_1 s0_2 t272 t273 t274 t275 t276 w0 _ ?side1 ?side2 A2.out).mono ?_); (case side1 => exact PI); (case side2 => exact PL); rintro e w44 ⟨rfl, hi, hb, hk⟩; refine ⟨_, rfl, ?_⟩; replace BK271 := kq hk BK271 NB271_0; replace HK := kt HK hk; replace HB := ak hb; replace HI0 := ak (hi); (try clear hb); (try clear hb2); (try clear hk); (try clear hi)) | ((with_reducible refine gate_dst (N := 3) rfl ?_); refine bx_ (N := 3) #[.int .i64 0, .int .i64 0, .int .i64 0] 26 ?_; intro gb277 hg w45 hbox hb; replace HB := bs HB hb; have BK277 := ak hbox; have GW277 := ak (kz hg HK); have GE277 := ak (Nat.le_trans HW0.out (kz hg HK)); replace HK := kt HK (KeepBut.of_below hb g none); have NB271_277 := gm hg BK271; have NB277_271 := gn hg BK271; replace BK271 := kf BK271 hb; have NB0_277 := ak (nh hg (IsS158.lt (show IsS158 w0 _ g s0_0 t275 t276 from PI))); have NB277_0 := ak (ng hg (IsS158.lt (show IsS158 w0 _ g s0_0 t275 t276 from PI))); replace HI0 := ak (IsS158.below PI hb); clear hb hbox hg; have hnb46 := NB277_271.out; have hnc46 := NB271_277.out; have hnb47 := NB277_0.out; have hnc47 := NB0_277.out; obtain ⟨hcz48_0, hcz48_1, hcz48_2, hfz48_0, hfz48_1, hfz48_2⟩ := bc3 BK277) | ((with_reducible refine gate_callee (f := 68) rfl ?_); refine goesL_ (some 7) rfl rfl Try.func68 KR rfl #[.pointer (some ⟨g, 0, none⟩), .int .i64 9] rfl AR ?_; (with_reducible refine (spec_l1Below.calls g s0_0 t275 t276 9 t278 t279 t280 w0 _ ?side1 ?side2 A3.out).mono ?_); (case side1 => exact PI); (case side2 => exact PL); rintro e w49 ⟨rfl, hi, hb, hk⟩; refine ⟨_, rfl, ?_⟩; replace BK271 := kq hk BK271 NB271_0; replace BK277 := kr (cs' := #[.int .i64 t272, .int .i64 t273, .int .i64 t274]) hk BK277 NB277_0; replace HK := kt HK hk; replace HB := ak hb; replace HI0 := ak (hi); (try clear hb); (try clear hb2); (try clear hk); (try clear hi); obtain ⟨_, _, _, _, _, _⟩ := bc3 BK277; have hnb51 := NB271_0.out; have hnc51 := NB0_271.out; obtain ⟨_, _, _, _, _, _⟩ := bc3 BK271))
    refine bodyPost_ret (results_cell_row rfl _ _ gb271 26 #[.int .i64 t272, .int .i64 t273, .int .i64 t274] (0, 0) _ rfl (PX BK271) Try.underlying26 rfl KR) rfl ?_
    exact ⟨RT, PI, PL, PH⟩

end Go.Proofs.Ytgcamebeonodeaa.MFnForms
