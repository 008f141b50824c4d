-- Written by a program of this session out of the translation's own print. Not trusted: Lean checks it.
import Derived.Test.YtmhonflpbokkeaaShr2
import Derived.Test.YtmhonflpbokkeaaMFnExactTraceReplayx0
namespace Go.Proofs.Ytmhonflpbokkeaa.MFnExactTraceReplay
open Go.RowKit Go.Proofs.YtmhonflpbokkeaaW.PrintWords Go.Proofs.YtmhonflpbokkeaaW.PrintLast Go.Proofs.YtmhonflpbokkeaaW.PrintMore
attribute [local go_sem] max2_int min2_int max_two min_two max_three min_three max_four min_four   -- for this text's walks alone
set_option linter.unusedVariables false
set_option maxHeartbeats 8000000
set_option maxRecDepth 100000
set_option linter.unusedSimpArgs false

theorem eqA89 (d : Nat) (w : World) (x0 y0 : Int) (x1 y1 : Int) (x2 y2 : Int) :
    (Op.equalIn (d + 2) 89 (.agg #[.int .i64 x0, .int .i64 x1, .int .i64 x2]) (.agg #[.int .i64 y0, .int .i64 y1, .int .i64 y2])).run Try.prog w = .ok (x0 == y0 && (x1 == y1 && (x2 == y2))) w := by
  refine eqA_of Try.underlying89 KR ?_; refine eqf_cons (by rfl) (by go_simp; rfl) (by go_simp; rfl) (by go_simp) ?_; refine eqf_cons (by rfl) (by go_simp; rfl) (by go_simp; rfl) (by go_simp) ?_; exact eqf_last (by rfl) (by go_simp; rfl) (by go_simp; rfl) (by go_simp)

/-! ### laws_szOpS: function 8 -/
def laws_szOpS.f (l0 : List (S105)) (a1 : Int) : Option (Int) := if (wrap64 (a1 - (l0.length : Int))) < 0 then (some (-1)) else (some (wrap64 (a1 - (l0.length : Int))))
theorem laws_szOpS.calls (A0 : Option Addr) (c0 : Nat) (l0 : List (S105)) (a1 : Int) (r : Int) (w : World) (hr0 : Kd.C k105 w A0 l0.length l0) (hc0 : l0.length ≤ c0) (h : laws_szOpS.f l0 a1 = some r) :
  Calls Try.prog 8 #[.slice A0 l0.length c0, .int .i64 a1] w fun e w' => e = .returned (.int .i64 r) ∧ Drawn0 w w' := by
 have HR0 := ak hr0; have HC0 := ak hc0; clear hr0 hc0; have H := h; clear h; unfold laws_szOpS.f at H
 by_cases c3 : (wrap64 (a1 - (l0.length : Int))) < 0
 ·rw [if_pos c3] at H; have c3b0 : decide ((wrap64 (a1 - (l0.length : Int))) < 0) = true := decide_eq_true c3; clear c3; obtain rfl := Option.some.inj H; go_enter Try.func8, Try.ntmps8; go_wp2
  go_ret
  exact ⟨by first | rfl | (simp; done) | (simp [*]; done), by repeat (first | exact Drawn0.refl _ | apply Drawn0.step)⟩
 ·rw [if_neg c3] at H; have c3b0 : decide ((wrap64 (a1 - (l0.length : Int))) < 0) = false := decide_eq_false c3; clear c3; obtain rfl := Option.some.inj H; go_enter Try.func8, Try.ntmps8; go_wp2
  go_ret
  exact ⟨by first | rfl | (simp; done) | (simp [*]; done), by repeat (first | exact Drawn0.refl _ | apply Drawn0.step)⟩

/-! ### laws_szEntryS: function 9 -/
def laws_szEntryS.f (l0 : List (S111)) (a1 : Int) : Option (Int) := if (wrap64 (a1 - (l0.length : Int))) < 0 then (some (-1)) else (some (wrap64 (a1 - (l0.length : Int))))
theorem laws_szEntryS.calls (A0 : Option Addr) (c0 : Nat) (l0 : List (S111)) (a1 : Int) (r : Int) (w : World) (hr0 : Kd.C k111 w A0 l0.length l0) (hc0 : l0.length ≤ c0) (h : laws_szEntryS.f l0 a1 = some r) :
  Calls Try.prog 9 #[.slice A0 l0.length c0, .int .i64 a1] w fun e w' => e = .returned (.int .i64 r) ∧ Drawn0 w w' := by
 have HR0 := ak hr0; have HC0 := ak hc0; clear hr0 hc0; have H := h; clear h; unfold laws_szEntryS.f at H
 by_cases c3 : (wrap64 (a1 - (l0.length : Int))) < 0
 ·rw [if_pos c3] at H; have c3b0 : decide ((wrap64 (a1 - (l0.length : Int))) < 0) = true := decide_eq_true c3; clear c3; obtain rfl := Option.some.inj H; go_enter Try.func9, Try.ntmps9; go_wp2
  go_ret
  exact ⟨by first | rfl | (simp; done) | (simp [*]; done), by repeat (first | exact Drawn0.refl _ | apply Drawn0.step)⟩
 ·rw [if_neg c3] at H; have c3b0 : decide ((wrap64 (a1 - (l0.length : Int))) < 0) = false := decide_eq_false c3; clear c3; obtain rfl := Option.some.inj H; go_enter Try.func9, Try.ntmps9; go_wp2
  go_ret
  exact ⟨by first | rfl | (simp; done) | (simp [*]; done), by repeat (first | exact Drawn0.refl _ | apply Drawn0.step)⟩

/-! ### spec_l11Zeros: function 83 -/
def spec_l11Zeros.l0 : Nat → Int → List Int → Int → Option (List Int)
  | 0, _, _, _ => none
  | k + 1, x0, x3, x4 => if x4 < x0 then (if x3.length < 17592186044416 then (spec_l11Zeros.l0 k x0 (x3 ++ [0]) (wrap64 (x4 + 1))) else (none)) else (some x3)
def spec_l11Zeros.f (k : Nat) (a0 : Int) : Option (List Int) := spec_l11Zeros.l0 k a0 (([] : List Int)) 0
theorem spec_l11Zeros.calls (k : Nat) (a0 : Int) (r : List Int) (w : World) (h : spec_l11Zeros.f k a0 = some r) :
  Calls Try.prog 83 #[.int .i64 a0] w fun e w' => ∃ v0_ : Value, e = .returned (v0_) ∧ Kd.R (Kd.int .i64) 3 w' w.heap.size (fun _ => True) v0_ r ∧ Below w.heap.size w w' := by
 have HB := ak (Below.refl w.heap.size w); have H := h; clear h; unfold spec_l11Zeros.f at H; obtain ⟨y101, hy101⟩ : ∃ y_ : List Int, y_ = (([] : List Int)) := ⟨_, rfl⟩
 replace H : (spec_l11Zeros.l0 k a0 y101 0) = some r := by first | (rw [hy101]; with_reducible exact H) | (have H2_ := (Option.bind_some _ _).symm.trans H; rw [hy101]; with_reducible exact H2_) | exact H
 have Ny101 := ak hy101; clear hy101; have H' := ak H; clear H; go_enter Try.func83, Try.ntmps83; go_wp2_with (first | ((with_reducible refine gate_dst (N := 5) rfl ?_); refine Kd.R_lit (Kd.int .i64) _ 3 ?hg (N := 5) ?hd (xs := ([] : List Int)) (inner := []) (ok := fun _ => True) (okp := fun _ => True) ?hr ?hp (fun _ hk => hk) trivial (Below.refl _ _) (Nat.le_refl _) (by simp) ?_; (case hd => rfl); (case hg => rfl); (case hr => first | (go_simp; done) | (go_simp; rfl)); (case hp => exact (Reps.none _ _)); intro v102 w2 ho3 hb hg_ hnew_; clear hg_ hnew_; (first | rw [← Ny101.out] at ho3 | (simp only [Int.reduceToNat] at ho3; rw [← Ny101.out] at ho3)); have HO103 := Rn0 ho3 HB; replace HB := bs HB hb; clear hb ho3))
 go_loopg [3, 4] k (fun kq v3 v4 w' => ∃ (x3_1 : List Int) (x4_1 : Int), v4 = .int .i64 x4_1 ∧ Aside0 (spec_l11Zeros.l0 kq a0 x3_1 x4_1 = some r) ∧ Aside0 (kq ≤ k) ∧ Aside0 (Kd.R (Kd.int .i64) 3 w' w.heap.size (fun _ => True) v3 x3_1) ∧ Aside0 (Below w.heap.size w w'))
 case atStart => exact ⟨(y101), (0), (by first | rfl | (simp; done) | (simp [*]; done)), H', ⟨Nat.le_refl _⟩, ⟨PR HO103⟩, ⟨PB⟩⟩
 case round =>
  clear H'
  try clear p2
  obtain ⟨x3_1, x4_1, rfl, HA, HK1, HO_3, HB⟩ := hrel
  cases gk with
  | zero => exact absurd HA.out (by simp [spec_l11Zeros.l0])
  | succ k1 =>
   have H := HA.out; clear HA; simp only [spec_l11Zeros.l0] at H
   by_cases c4 : x4_1 < a0
   ·rw [if_pos c4] at H; have c4b0 : decide (x4_1 < a0) = true := decide_eq_true c4; clear c4
    by_cases c5 : x3_1.length < 17592186044416
    ·rw [if_pos c5] at H; have LMc5 := ak c5; clear c5; obtain ⟨y104, hy104⟩ : ∃ y_ : List Int, y_ = (x3_1 ++ [0]) := ⟨_, rfl⟩
     replace H : (spec_l11Zeros.l0 k1 a0 y104 (wrap64 (x4_1 + 1))) = some r := by first | (rw [hy104]; with_reducible exact H) | (have H2_ := (Option.bind_some _ _).symm.trans H; rw [hy104]; with_reducible exact H2_) | exact H
     have Ny104 := ak hy104; clear hy104; have H' := ak H; clear H; go_wp2_with (first | ((with_reducible refine gate_builtin (b := .append) (xs := #[.tmp 11, .tmp 12]) rfl ?_); at_builtin; refine Kd.R_append (Kd.int .i64) (w0 := w) w.heap.size rfl (.tmp 11) (.tmp 12) 39 3 (.int .i64 0) 8 rfl Try.underlying39 info3 rfl (by decide) (by omega) u3 x3_1 0 [.int .i64 0] (fun _ => True) (fun _ => False) rfl rfl ?aP (fun _ hk => hk.elim) ?aF ?aO ?aB ?aS ?aL ?_; (case aP => exact rfl); (case aB => exact PB); (case aF => exact (fun _ _ => trivial)); (case aO => exact (PR HO_3)); (case aS => exact (below_size PB)); (case aL => have := LMc5.out; omega); intro v105 w6 ho hb hg hat; rw [← Ny104.out] at ho; replace HB := ak hb; have HO106 := ak (ho); clear HO_3; clear ho hb hg hat))
     go_roundg k1
     case measure => have := HK1.out; omega
     case rel => exact ⟨(y104), (wrap64 (x4_1 + 1)), (by first | rfl | (simp; done) | (simp [*]; done)), H', ⟨by have := HK1.out; omega⟩, ⟨PR HO106⟩, ⟨PB⟩⟩
    ·rw [if_neg c5] at H; exact absurd H (by simp)
   ·rw [if_neg c4] at H; have c4b0 : decide (x4_1 < a0) = false := decide_eq_false c4; clear c4; obtain rfl := Option.some.inj H; go_wp2
    go_ret
    exact ⟨_, RT, by (with_reducible repeat (first | apply Kd.R_alloc | apply Kd.R_drewN | apply Kd.R_drew)); exact HO_3.out, PB⟩

/-! ### spec_StartState: function 79 -/
def spec_StartState.f (k : Nat)  : Option (Int × List Int × List Int × List Int) := (spec_l11Zeros.f k 4).bind fun t108 => ((spec_l11Zeros.f k 3).bind fun t111 => ((spec_l11Zeros.f k 4).bind fun t114 => (some (0, t108, t111, t114))))
theorem spec_StartState.calls (k : Nat)  (r1 : Int) (r2 : List Int) (r3 : List Int) (r4 : List Int) (w : World) (h : spec_StartState.f k  = some (r1, r2, r3, r4)) :
  Calls Try.prog 79 #[] w fun e w' => ∃ v1_ v2_ v3_ : Value, e = .returned (.agg #[.int .i64 r1, v1_, v2_, v3_]) ∧ Kd.R (Kd.int .i64) 3 w' w.heap.size (fun k_ => some k_ ≠ (v2_ : Value).ownBlock ∧ some k_ ≠ (v3_ : Value).ownBlock) v1_ r2 ∧ Kd.R (Kd.int .i64) 3 w' w.heap.size (fun k_ => some k_ ≠ (v1_ : Value).ownBlock ∧ some k_ ≠ (v3_ : Value).ownBlock) v2_ r3 ∧ Kd.R (Kd.int .i64) 3 w' w.heap.size (fun k_ => some k_ ≠ (v1_ : Value).ownBlock ∧ some k_ ≠ (v2_ : Value).ownBlock) v3_ r4 ∧ Below w.heap.size w w' := by
 have hu41 := Try.underlying41; have HB := ak (Below.refl w.heap.size w); have H := h; clear h; unfold spec_StartState.f at H; replace H := Option.bind_eq_some_iff.mp H; obtain ⟨t108, A10, H⟩ := H; (try dsimp only at H); have A1 := ak A10; clear A10; replace H := Option.bind_eq_some_iff.mp H; obtain ⟨t111, A20, H⟩ := H; (try dsimp only at H); have A2 := ak A20; clear A20; replace H := Option.bind_eq_some_iff.mp H; obtain ⟨t114, A30, H⟩ := H; (try dsimp only at H); have A3 := ak A30; clear A30; simp only [Option.some.injEq, Prod.mk.injEq] at H; obtain ⟨rfl, rfl, rfl, rfl⟩ := H; go_enter Try.func79, Try.ntmps79; go_wp2_with (first | ((with_reducible refine gate_dst (N := 0) rfl ?_); refine bx_ (N := 0) #[.int .i64 0, .slice none 0 0, .slice none 0 0, .slice none 0 0] 41 ?_; intro gb107 hg w4 hbox hb; have BK107 := ak hbox; have GW107 := gy hg HB; have GE107 := gy hg HB; replace HB := bs HB hb; clear hb hbox hg) | ((with_reducible refine gate_callee (f := 83) rfl ?_); refine goesL_ (some 1) rfl rfl Try.func83 KR rfl #[.int .i64 4] rfl AR ?_; (with_reducible refine (spec_l11Zeros.calls k 4 t108 _ A1.out).mono ?_); rintro e w5 ⟨v109, rfl, ho0, hb⟩; refine ⟨_, rfl, ?_⟩; have HO110 := Rn0 ho0 HB; replace BK107 := kf BK107 hb; replace HB := bs HB hb; clear hb ho0) | ((with_reducible refine gate_callee (f := 83) rfl ?_); refine goesL_ (some 2) rfl rfl Try.func83 KR rfl #[.int .i64 3] rfl AR ?_; (with_reducible refine (spec_l11Zeros.calls k 3 t111 _ A2.out).mono ?_); rintro e w6 ⟨v112, rfl, ho0, hb⟩; refine ⟨_, rfl, ?_⟩; have HO113 := Rn1 ho0 HB HO110; replace HO110 := ak (Kd.R_elder' (PR HO110) (Kd.R_base ho0) hb); replace BK107 := kf BK107 hb; replace HB := bs HB hb; clear hb ho0) | ((with_reducible refine gate_callee (f := 83) rfl ?_); refine goesL_ (some 3) rfl rfl Try.func83 KR rfl #[.int .i64 4] rfl AR ?_; (with_reducible refine (spec_l11Zeros.calls k 4 t114 _ A3.out).mono ?_); rintro e w7 ⟨v115, rfl, ho0, hb⟩; refine ⟨_, rfl, ?_⟩; have HO116 := Rn2 ho0 HB HO110 HO113; replace HO110 := ak (Kd.R_elder' (PR HO110) (Kd.R_base ho0) hb); replace HO113 := ak (Kd.R_elder' (PR HO113) (Kd.R_base ho0) hb); replace BK107 := kf BK107 hb; replace HB := bs HB hb; clear hb ho0; obtain ⟨Ao8, co8, rfl⟩ := Kd.R_slice HO116.out; obtain ⟨Ao9, co9, rfl⟩ := Kd.R_slice HO113.out; obtain ⟨Ao10, co10, rfl⟩ := Kd.R_slice HO110.out; obtain ⟨hcz11_0, hcz11_1, hcz11_2, hcz11_3, hfz11_0, hfz11_1, hfz11_2, hfz11_3⟩ := bc4 BK107)); refine bodyPost_ret (results_cell_row rfl _ _ gb107 41 #[.int .i64 0, .slice Ao10 t108.length co10, .slice Ao9 t111.length co9, .slice Ao8 t114.length co8] (0, 0) _ rfl (PX BK107) Try.underlying41 rfl KR) rfl ?_; exact ⟨_, _, _, RT, RX (Rt HO110.out BK107) (fun _ hk => by first | exact ⟨hk.1.1.2, hk.1.2⟩ | simp_all), RX (Rt HO113.out BK107) (fun _ hk => by first | exact ⟨hk.1.1.2, hk.1.2⟩ | simp_all), RX (Rt HO116.out BK107) (fun _ hk => by first | exact ⟨hk.1.1.2, hk.1.2⟩ | simp_all), PB⟩

/-! ### spec_l1In: function 82 -/
def spec_l1In.f (a0 : Int) (a1 : Int) (a2 : Int) : Option (Bool) := if a0 ≥ a1 then (some (decide (a0 ≤ a2))) else (some false)
theorem spec_l1In.calls (a0 : Int) (a1 : Int) (a2 : Int) (r : Bool) (w : World) (h : spec_l1In.f a0 a1 a2 = some r) :
  Calls Try.prog 82 #[.int .i64 a0, .int .i64 a1, .int .i64 a2] w fun e w' => e = .returned (.bool r) ∧ Drawn0 w w' := by
 have H := h; clear h; unfold spec_l1In.f at H
 by_cases c4 : a0 ≥ a1
 ·rw [if_pos c4] at H; have c4b0 : decide (a1 ≤ a0) = true := decide_eq_true c4; clear c4; obtain rfl := Option.some.inj H; go_enter Try.func82, Try.ntmps82; go_wp2
  go_ret
  exact ⟨by first | rfl | (simp; done) | (simp [*]; done), by repeat (first | exact Drawn0.refl _ | apply Drawn0.step)⟩
 ·rw [if_neg c4] at H; have c4b0 : decide (a1 ≤ a0) = false := decide_eq_false c4; clear c4; obtain rfl := Option.some.inj H; go_enter Try.func82, Try.ntmps82; go_wp2
  go_ret
  exact ⟨by first | rfl | (simp; done) | (simp [*]; done), by repeat (first | exact Drawn0.refl _ | apply Drawn0.step)⟩

/-! ### spec_l10Ok: function 136 -/
def spec_l10Ok.j0 : Nat → Int → Int → Bool → Int → Int → Int → Int → Option (Bool)
  | 0, _, _, _, _, _, _, _ => none
  | k + 1, x3, x10, x21, x118000, x118001, x118002, x118003 => if x21 = true then (if x118002 = 0 then (some (x118003 == 0)) else (some false)) else (if x10 = 5 then ((spec_l1In.f x118002 0 x3).bind fun t121 => (if t121 = true then ((spec_l1In.f x118003 0 x3).bind fun t122 => (some t122)) else (some false))) else (if x10 = 6 then ((spec_l1In.f x118002 0 3).bind fun t123 => (if t123 = true then (some (x118003 == 0)) else (some false))) else (if x10 = 7 then ((spec_l1In.f x118002 1 3).bind fun t124 => (if t124 = true then (some (x118003 == 0)) else (some false))) else (if x10 = 8 then ((spec_l1In.f x118002 0 2).bind fun t125 => (if t125 = true then (some (x118003 == 0)) else (some false))) else (if x10 = 9 then ((spec_l1In.f x118002 0 2).bind fun t126 => (if t126 = true then (some (x118003 == 0)) else (some false))) else (some false))))))
def spec_l10Ok.f (k : Nat) (a0_0 : Int) (a0_1 : Int) (a0_2 : Int) (a0_3 : Int) : Option (Bool) := (spec_l1In.f a0_1 0 3).bind fun t118 => (if t118 = true then (if a0_0 = 1 then ((spec_l1In.f a0_2 1 9).bind fun t119 => (if t119 = true then ((spec_l1In.f a0_3 0 99).bind fun t120 => (some t120)) else (some false))) else (if a0_0 = 2 then (spec_l10Ok.j0 k 3 a0_0 (a0_0 == 2) a0_0 a0_1 a0_2 a0_3) else (if a0_0 = 3 then (spec_l10Ok.j0 k 3 a0_0 (a0_0 == 3) a0_0 a0_1 a0_2 a0_3) else (spec_l10Ok.j0 k 3 a0_0 (a0_0 == 4) a0_0 a0_1 a0_2 a0_3)))) else (some false))
theorem spec_l10Ok.calls (k : Nat) (a0_0 : Int) (a0_1 : Int) (a0_2 : Int) (a0_3 : Int) (r : Bool) (w : World) (h : spec_l10Ok.f k a0_0 a0_1 a0_2 a0_3 = some r) :
  Calls Try.prog 136 #[.agg #[.int .i64 a0_0, .int .i64 a0_1, .int .i64 a0_2, .int .i64 a0_3]] w fun e w' => e = .returned (.bool r) ∧ Below w.heap.size w w' := by
 have hu103 := Try.underlying103; have HB := ak (Below.refl w.heap.size w); have H := h; clear h; unfold spec_l10Ok.f at H; replace H := Option.bind_eq_some_iff.mp H; obtain ⟨t118, A20, H⟩ := H; (try dsimp only at H); have A2 := ak A20; clear A20
 by_cases c3 : t118 = true
 ·subst c3; rw [if_pos rfl] at H
  by_cases c4 : a0_0 = 1
  ·rw [if_pos c4] at H; have c4b0 : (a0_0 == 1) = true := beq_iff_eq.mpr c4; have c4b1 : (a0_0 != 1) = false := bne_eq_false_iff_eq.mpr c4; clear c4; replace H := Option.bind_eq_some_iff.mp H; obtain ⟨t119, A50, H⟩ := H; (try dsimp only at H); have A5 := ak A50; clear A50
   by_cases c6 : t119 = true
   ·subst c6; rw [if_pos rfl] at H; replace H := Option.bind_eq_some_iff.mp H; obtain ⟨t120, A70, H⟩ := H; (try dsimp only at H); have A7 := ak A70; clear A70; obtain rfl := Option.some.inj H; go_enter Try.func136, Try.ntmps136; go_wp2_with (first | ((with_reducible refine gate_dst (N := 1) rfl ?_); refine bx_ (N := 1) #[.int .i64 a0_0, .int .i64 a0_1, .int .i64 a0_2, .int .i64 a0_3] 103 ?_; intro gb117 hg w8 hbox hb; have BK117 := ak hbox; have GW117 := gy hg HB; have GE117 := gy hg HB; replace HB := bs HB hb; clear hb hbox hg; obtain ⟨hcz9_0, hcz9_1, hcz9_2, hcz9_3, hfz9_0, hfz9_1, hfz9_2, hfz9_3⟩ := bc4 BK117) | ((with_reducible refine gate_callee (f := 82) rfl ?_); refine goesL_ (some 7) rfl rfl Try.func82 KR rfl #[.int .i64 a0_1, .int .i64 0, .int .i64 3] rfl AR ?_; (with_reducible refine (spec_l1In.calls a0_1 0 3 true _ A2.out).mono ?_); rintro e w' ⟨rfl, ⟨nd, rfl⟩⟩; refine ⟨_, rfl, ?_⟩) | ((with_reducible refine gate_callee (f := 82) rfl ?_); refine goesL_ (some 15) rfl rfl Try.func82 KR rfl #[.int .i64 a0_2, .int .i64 1, .int .i64 9] rfl AR ?_; (with_reducible refine (spec_l1In.calls a0_2 1 9 true _ A5.out).mono ?_); rintro e w' ⟨rfl, ⟨nd, rfl⟩⟩; refine ⟨_, rfl, ?_⟩) | (go_at_call 82; (with_reducible refine (spec_l1In.calls a0_3 0 99 t120 _ A7.out).mono ?_); rintro e w' ⟨rfl, ⟨nd, rfl⟩⟩))
    go_ret
    exact ⟨RT, PB⟩
   ·replace c6 := Bool.eq_false_iff.mpr c6; subst c6; rw [if_neg (show ¬ (false = true) by decide)] at H; obtain rfl := Option.some.inj H; go_enter Try.func136, Try.ntmps136; go_wp2_with (first | ((with_reducible refine gate_dst (N := 1) rfl ?_); refine bx_ (N := 1) #[.int .i64 a0_0, .int .i64 a0_1, .int .i64 a0_2, .int .i64 a0_3] 103 ?_; intro gb117 hg w10 hbox hb; have BK117 := ak hbox; have GW117 := gy hg HB; have GE117 := gy hg HB; replace HB := bs HB hb; clear hb hbox hg; obtain ⟨hcz11_0, hcz11_1, hcz11_2, hcz11_3, hfz11_0, hfz11_1, hfz11_2, hfz11_3⟩ := bc4 BK117) | ((with_reducible refine gate_callee (f := 82) rfl ?_); refine goesL_ (some 7) rfl rfl Try.func82 KR rfl #[.int .i64 a0_1, .int .i64 0, .int .i64 3] rfl AR ?_; (with_reducible refine (spec_l1In.calls a0_1 0 3 true _ A2.out).mono ?_); rintro e w' ⟨rfl, ⟨nd, rfl⟩⟩; refine ⟨_, rfl, ?_⟩) | ((with_reducible refine gate_callee (f := 82) rfl ?_); refine goesL_ (some 15) rfl rfl Try.func82 KR rfl #[.int .i64 a0_2, .int .i64 1, .int .i64 9] rfl AR ?_; (with_reducible refine (spec_l1In.calls a0_2 1 9 false _ A5.out).mono ?_); rintro e w' ⟨rfl, ⟨nd, rfl⟩⟩; refine ⟨_, rfl, ?_⟩))
    go_ret
    exact ⟨RT, PB⟩
  ·rw [if_neg c4] at H; have c4b0 : (a0_0 == 1) = false := beq_eq_false_iff_ne.mpr c4; have c4b1 : (a0_0 != 1) = true := bne_iff_ne.mpr c4; have HC12 := ak H; clear H; go_enter Try.func136, Try.ntmps136
   go_upto_if 21 with (first | ((with_reducible refine gate_dst (N := 1) rfl ?_); refine bx_ (N := 1) #[.int .i64 a0_0, .int .i64 a0_1, .int .i64 a0_2, .int .i64 a0_3] 103 ?_; intro gb117 hg w13 hbox hb; have BK117 := ak hbox; have GW117 := gy hg HB; have GE117 := gy hg HB; replace HB := bs HB hb; clear hb hbox hg; obtain ⟨hcz14_0, hcz14_1, hcz14_2, hcz14_3, hfz14_0, hfz14_1, hfz14_2, hfz14_3⟩ := bc4 BK117) | ((with_reducible refine gate_callee (f := 82) rfl ?_); refine goesL_ (some 7) rfl rfl Try.func82 KR rfl #[.int .i64 a0_1, .int .i64 0, .int .i64 3] rfl AR ?_; (with_reducible refine (spec_l1In.calls a0_1 0 3 true _ A2.out).mono ?_); rintro e w' ⟨rfl, ⟨nd, rfl⟩⟩; refine ⟨_, rfl, ?_⟩))
   (try simp only [Act.put, List.setIfInBounds_toArray, List.set_cons_zero, List.set_cons_succ])
   go_cut [21] (fun v21 wc => ∃ (kq : Nat) (x21_11 : Bool), v21 = .bool x21_11 ∧ Aside0 (spec_l10Ok.j0 kq 3 a0_0 x21_11 a0_0 a0_1 a0_2 a0_3 = some r) ∧ Aside0 (kq ≤ k) ∧ Aside0 (wc.heap[gb117]? = some (.cells #[.int .i64 a0_0, .int .i64 a0_1, .int .i64 a0_2, .int .i64 a0_3] 103 (0, 0))) ∧ Aside0 (Below w.heap.size w wc))
   case first =>
    have H := HC12.out; clear HC12
    by_cases c15 : a0_0 = 2
    ·rw [if_pos c15] at H; have c15b0 : (a0_0 == 2) = true := beq_iff_eq.mpr c15; have c15b1 : (a0_0 != 2) = false := bne_eq_false_iff_eq.mpr c15; clear c15; (first | rw [c15b0] | (simp only [i64_w, i32_w]; rw [c15b0]) | skip); have H' := ak H; clear H; go_wp2
     go_meet
     case rel => exact ⟨_, ((a0_0 == 2)), (by first | rfl | (simp; done) | (simp [*]; done)), H', ⟨by first | omega | exact Nat.le_refl _⟩, ⟨PK BK117⟩, ⟨PB⟩⟩
    ·rw [if_neg c15] at H; have c15b0 : (a0_0 == 2) = false := beq_eq_false_iff_ne.mpr c15; have c15b1 : (a0_0 != 2) = true := bne_iff_ne.mpr c15; (first | rw [c15b0] | (simp only [i64_w, i32_w]; rw [c15b0]) | skip)
     by_cases c16 : a0_0 = 3
     ·rw [if_pos c16] at H; have c16b0 : (a0_0 == 3) = true := beq_iff_eq.mpr c16; have c16b1 : (a0_0 != 3) = false := bne_eq_false_iff_eq.mpr c16; clear c16; have H' := ak H; clear H; go_wp2
      go_meet
      case rel => exact ⟨_, ((a0_0 == 3)), (by first | rfl | (simp; done) | (simp [*]; done)), H', ⟨by first | omega | exact Nat.le_refl _⟩, ⟨PK BK117⟩, ⟨PB⟩⟩
     ·rw [if_neg c16] at H; have c16b0 : (a0_0 == 3) = false := beq_eq_false_iff_ne.mpr c16; have c16b1 : (a0_0 != 3) = true := bne_iff_ne.mpr c16; have H' := ak H; clear H; go_wp2
      go_meet
      case rel => exact ⟨_, ((a0_0 == 4)), (by first | rfl | (simp; done) | (simp [*]; done)), H', ⟨by first | omega | exact Nat.le_refl _⟩, ⟨PK BK117⟩, ⟨PB⟩⟩
   case rest =>
    clear HC12; (try clear c1); (try clear p2); (try clear c3); (try clear c4); (try clear c4b0); (try clear c4b1); (try clear c6); (try clear c8); (try clear c13); (try clear c15); (try clear c15b0); (try clear c15b1); (try clear c16); (try clear c16b0); (try clear c16b1); (try clear hcz11_0); (try clear hcz11_1); (try clear hcz11_2); (try clear hcz11_3); (try clear hcz14_0); (try clear hcz14_1); (try clear hcz14_2); (try clear hcz14_3); (try clear hcz9_0); (try clear hcz9_1); (try clear hcz9_2); (try clear hcz9_3); (try clear hfz11_0); (try clear hfz11_1); (try clear hfz11_2); (try clear hfz11_3); (try clear hfz14_0); (try clear hfz14_1); (try clear hfz14_2); (try clear hfz14_3); (try clear hfz9_0); (try clear hfz9_1); (try clear hfz9_2); (try clear hfz9_3); obtain ⟨kq, x21_11, rfl, HA, HJ11, BK117, HB⟩ := hcut
    cases kq with
    | zero => exact absurd HA.out (by simp [spec_l10Ok.j0])
    | succ kj11 =>
     have H := HA.out; clear HA; simp only [spec_l10Ok.j0] at H
     by_cases c17 : x21_11 = true
     ·subst c17; rw [if_pos rfl] at H
      by_cases c18 : a0_2 = 0
      ·rw [if_pos c18] at H; have c18b0 : (a0_2 == 0) = true := beq_iff_eq.mpr c18; have c18b1 : (a0_2 != 0) = false := bne_eq_false_iff_eq.mpr c18; clear c18; obtain rfl := Option.some.inj H; obtain ⟨_, _, _, _, _, _, _, _⟩ := bc4 BK117; go_wp2
       go_ret
       exact ⟨RT, PB⟩
      ·rw [if_neg c18] at H; have c18b0 : (a0_2 == 0) = false := beq_eq_false_iff_ne.mpr c18; have c18b1 : (a0_2 != 0) = true := bne_iff_ne.mpr c18; obtain rfl := Option.some.inj H; obtain ⟨_, _, _, _, _, _, _, _⟩ := bc4 BK117; go_wp2
       go_ret
       exact ⟨RT, PB⟩
     ·replace c17 := Bool.eq_false_iff.mpr c17; subst c17; rw [if_neg (show ¬ (false = true) by decide)] at H
      by_cases c21 : a0_0 = 5
      ·rw [if_pos c21] at H; have c21b0 : (a0_0 == 5) = true := beq_iff_eq.mpr c21; have c21b1 : (a0_0 != 5) = false := bne_eq_false_iff_eq.mpr c21; clear c21; replace H := Option.bind_eq_some_iff.mp H; obtain ⟨t121, A220, H⟩ := H; (try dsimp only at H); have A22 := ak A220; clear A220
       by_cases c23 : t121 = true
       ·subst c23; rw [if_pos rfl] at H; replace H := Option.bind_eq_some_iff.mp H; obtain ⟨t122, A240, H⟩ := H; (try dsimp only at H); have A24 := ak A240; clear A240; obtain rfl := Option.some.inj H; obtain ⟨_, _, _, _, _, _, _, _⟩ := bc4 BK117; go_wp2_with (first | ((with_reducible refine gate_callee (f := 82) rfl ?_); refine goesL_ (some 38) rfl rfl Try.func82 KR rfl #[.int .i64 a0_2, .int .i64 0, .int .i64 3] rfl AR ?_; (with_reducible refine (spec_l1In.calls a0_2 0 3 true _ A22.out).mono ?_); rintro e w' ⟨rfl, ⟨nd, rfl⟩⟩; refine ⟨_, rfl, ?_⟩) | (go_at_call 82; (with_reducible refine (spec_l1In.calls a0_3 0 3 t122 _ A24.out).mono ?_); rintro e w' ⟨rfl, ⟨nd, rfl⟩⟩))
        go_ret
        exact ⟨RT, PB⟩
       ·replace c23 := Bool.eq_false_iff.mpr c23; subst c23; rw [if_neg (show ¬ (false = true) by decide)] at H; obtain rfl := Option.some.inj H; obtain ⟨_, _, _, _, _, _, _, _⟩ := bc4 BK117; go_wp2_with (first | ((with_reducible refine gate_callee (f := 82) rfl ?_); refine goesL_ (some 38) rfl rfl Try.func82 KR rfl #[.int .i64 a0_2, .int .i64 0, .int .i64 3] rfl AR ?_; (with_reducible refine (spec_l1In.calls a0_2 0 3 false _ A22.out).mono ?_); rintro e w' ⟨rfl, ⟨nd, rfl⟩⟩; refine ⟨_, rfl, ?_⟩))
        go_ret
        exact ⟨RT, PB⟩
      ·rw [if_neg c21] at H; have c21b0 : (a0_0 == 5) = false := beq_eq_false_iff_ne.mpr c21; have c21b1 : (a0_0 != 5) = true := bne_iff_ne.mpr c21
       by_cases c27 : a0_0 = 6
       ·rw [if_pos c27] at H; have c27b0 : (a0_0 == 6) = true := beq_iff_eq.mpr c27; have c27b1 : (a0_0 != 6) = false := bne_eq_false_iff_eq.mpr c27; clear c27; replace H := Option.bind_eq_some_iff.mp H; obtain ⟨t123, A280, H⟩ := H; (try dsimp only at H); have A28 := ak A280; clear A280
        by_cases c29 : t123 = true
        ·subst c29; rw [if_pos rfl] at H; obtain rfl := Option.some.inj H; obtain ⟨_, _, _, _, _, _, _, _⟩ := bc4 BK117; go_wp2_with (first | ((with_reducible refine gate_callee (f := 82) rfl ?_); refine goesL_ (some 49) rfl rfl Try.func82 KR rfl #[.int .i64 a0_2, .int .i64 0, .int .i64 3] rfl AR ?_; (with_reducible refine (spec_l1In.calls a0_2 0 3 true _ A28.out).mono ?_); rintro e w' ⟨rfl, ⟨nd, rfl⟩⟩; refine ⟨_, rfl, ?_⟩))
         go_ret
         exact ⟨RT, PB⟩
        ·replace c29 := Bool.eq_false_iff.mpr c29; subst c29; rw [if_neg (show ¬ (false = true) by decide)] at H; obtain rfl := Option.some.inj H; obtain ⟨_, _, _, _, _, _, _, _⟩ := bc4 BK117; go_wp2_with (first | ((with_reducible refine gate_callee (f := 82) rfl ?_); refine goesL_ (some 49) rfl rfl Try.func82 KR rfl #[.int .i64 a0_2, .int .i64 0, .int .i64 3] rfl AR ?_; (with_reducible refine (spec_l1In.calls a0_2 0 3 false _ A28.out).mono ?_); rintro e w' ⟨rfl, ⟨nd, rfl⟩⟩; refine ⟨_, rfl, ?_⟩))
         go_ret
         exact ⟨RT, PB⟩
       ·rw [if_neg c27] at H; have c27b0 : (a0_0 == 6) = false := beq_eq_false_iff_ne.mpr c27; have c27b1 : (a0_0 != 6) = true := bne_iff_ne.mpr c27
        by_cases c32 : a0_0 = 7
        ·rw [if_pos c32] at H; have c32b0 : (a0_0 == 7) = true := beq_iff_eq.mpr c32; have c32b1 : (a0_0 != 7) = false := bne_eq_false_iff_eq.mpr c32; clear c32; replace H := Option.bind_eq_some_iff.mp H; obtain ⟨t124, A330, H⟩ := H; (try dsimp only at H); have A33 := ak A330; clear A330
         by_cases c34 : t124 = true
         ·subst c34; rw [if_pos rfl] at H; obtain rfl := Option.some.inj H; obtain ⟨_, _, _, _, _, _, _, _⟩ := bc4 BK117; go_wp2_with (first | ((with_reducible refine gate_callee (f := 82) rfl ?_); refine goesL_ (some 59) rfl rfl Try.func82 KR rfl #[.int .i64 a0_2, .int .i64 1, .int .i64 3] rfl AR ?_; (with_reducible refine (spec_l1In.calls a0_2 1 3 true _ A33.out).mono ?_); rintro e w' ⟨rfl, ⟨nd, rfl⟩⟩; refine ⟨_, rfl, ?_⟩))
          go_ret
          exact ⟨RT, PB⟩
         ·replace c34 := Bool.eq_false_iff.mpr c34; subst c34; rw [if_neg (show ¬ (false = true) by decide)] at H; obtain rfl := Option.some.inj H; obtain ⟨_, _, _, _, _, _, _, _⟩ := bc4 BK117; go_wp2_with (first | ((with_reducible refine gate_callee (f := 82) rfl ?_); refine goesL_ (some 59) rfl rfl Try.func82 KR rfl #[.int .i64 a0_2, .int .i64 1, .int .i64 3] rfl AR ?_; (with_reducible refine (spec_l1In.calls a0_2 1 3 false _ A33.out).mono ?_); rintro e w' ⟨rfl, ⟨nd, rfl⟩⟩; refine ⟨_, rfl, ?_⟩))
          go_ret
          exact ⟨RT, PB⟩
        ·rw [if_neg c32] at H; have c32b0 : (a0_0 == 7) = false := beq_eq_false_iff_ne.mpr c32; have c32b1 : (a0_0 != 7) = true := bne_iff_ne.mpr c32
         by_cases c37 : a0_0 = 8
         ·rw [if_pos c37] at H; have c37b0 : (a0_0 == 8) = true := beq_iff_eq.mpr c37; have c37b1 : (a0_0 != 8) = false := bne_eq_false_iff_eq.mpr c37; clear c37; replace H := Option.bind_eq_some_iff.mp H; obtain ⟨t125, A380, H⟩ := H; (try dsimp only at H); have A38 := ak A380; clear A380
          by_cases c39 : t125 = true
          ·subst c39; rw [if_pos rfl] at H; obtain rfl := Option.some.inj H; obtain ⟨_, _, _, _, _, _, _, _⟩ := bc4 BK117; go_wp2_with (first | ((with_reducible refine gate_callee (f := 82) rfl ?_); refine goesL_ (some 70) rfl rfl Try.func82 KR rfl #[.int .i64 a0_2, .int .i64 0, .int .i64 2] rfl AR ?_; (with_reducible refine (spec_l1In.calls a0_2 0 2 true _ A38.out).mono ?_); rintro e w' ⟨rfl, ⟨nd, rfl⟩⟩; refine ⟨_, rfl, ?_⟩))
           go_ret
           exact ⟨RT, PB⟩
          ·replace c39 := Bool.eq_false_iff.mpr c39; subst c39; rw [if_neg (show ¬ (false = true) by decide)] at H; obtain rfl := Option.some.inj H; obtain ⟨_, _, _, _, _, _, _, _⟩ := bc4 BK117; go_wp2_with (first | ((with_reducible refine gate_callee (f := 82) rfl ?_); refine goesL_ (some 70) rfl rfl Try.func82 KR rfl #[.int .i64 a0_2, .int .i64 0, .int .i64 2] rfl AR ?_; (with_reducible refine (spec_l1In.calls a0_2 0 2 false _ A38.out).mono ?_); rintro e w' ⟨rfl, ⟨nd, rfl⟩⟩; refine ⟨_, rfl, ?_⟩))
           go_ret
           exact ⟨RT, PB⟩
         ·rw [if_neg c37] at H; have c37b0 : (a0_0 == 8) = false := beq_eq_false_iff_ne.mpr c37; have c37b1 : (a0_0 != 8) = true := bne_iff_ne.mpr c37
          by_cases c42 : a0_0 = 9
          ·rw [if_pos c42] at H; have c42b0 : (a0_0 == 9) = true := beq_iff_eq.mpr c42; have c42b1 : (a0_0 != 9) = false := bne_eq_false_iff_eq.mpr c42; clear c42; replace H := Option.bind_eq_some_iff.mp H; obtain ⟨t126, A430, H⟩ := H; (try dsimp only at H); have A43 := ak A430; clear A430
           by_cases c44 : t126 = true
           ·subst c44; rw [if_pos rfl] at H; obtain rfl := Option.some.inj H; obtain ⟨_, _, _, _, _, _, _, _⟩ := bc4 BK117; go_wp2_with (first | ((with_reducible refine gate_callee (f := 82) rfl ?_); refine goesL_ (some 70) rfl rfl Try.func82 KR rfl #[.int .i64 a0_2, .int .i64 0, .int .i64 2] rfl AR ?_; (with_reducible refine (spec_l1In.calls a0_2 0 2 true _ A43.out).mono ?_); rintro e w' ⟨rfl, ⟨nd, rfl⟩⟩; refine ⟨_, rfl, ?_⟩))
            go_ret
            exact ⟨RT, PB⟩
           ·replace c44 := Bool.eq_false_iff.mpr c44; subst c44; rw [if_neg (show ¬ (false = true) by decide)] at H; obtain rfl := Option.some.inj H; obtain ⟨_, _, _, _, _, _, _, _⟩ := bc4 BK117; go_wp2_with (first | ((with_reducible refine gate_callee (f := 82) rfl ?_); refine goesL_ (some 70) rfl rfl Try.func82 KR rfl #[.int .i64 a0_2, .int .i64 0, .int .i64 2] rfl AR ?_; (with_reducible refine (spec_l1In.calls a0_2 0 2 false _ A43.out).mono ?_); rintro e w' ⟨rfl, ⟨nd, rfl⟩⟩; refine ⟨_, rfl, ?_⟩))
            go_ret
            exact ⟨RT, PB⟩
          ·rw [if_neg c42] at H; have c42b0 : (a0_0 == 9) = false := beq_eq_false_iff_ne.mpr c42; have c42b1 : (a0_0 != 9) = true := bne_iff_ne.mpr c42; obtain rfl := Option.some.inj H; go_wp2
           go_ret
           exact ⟨RT, PB⟩
 ·replace c3 := Bool.eq_false_iff.mpr c3; subst c3; rw [if_neg (show ¬ (false = true) by decide)] at H; obtain rfl := Option.some.inj H; go_enter Try.func136, Try.ntmps136; go_wp2_with (first | ((with_reducible refine gate_dst (N := 1) rfl ?_); refine bx_ (N := 1) #[.int .i64 a0_0, .int .i64 a0_1, .int .i64 a0_2, .int .i64 a0_3] 103 ?_; intro gb117 hg w47 hbox hb; have BK117 := ak hbox; have GW117 := gy hg HB; have GE117 := gy hg HB; replace HB := bs HB hb; clear hb hbox hg; obtain ⟨_, _, _, _, _, _, _, _⟩ := bc4 BK117) | ((with_reducible refine gate_callee (f := 82) rfl ?_); refine goesL_ (some 7) rfl rfl Try.func82 KR rfl #[.int .i64 a0_1, .int .i64 0, .int .i64 3] rfl AR ?_; (with_reducible refine (spec_l1In.calls a0_1 0 3 false _ A2.out).mono ?_); rintro e w' ⟨rfl, ⟨nd, rfl⟩⟩; refine ⟨_, rfl, ?_⟩))
  go_ret
  exact ⟨RT, PB⟩

/-! ### spec_IsScript: function 80 -/
def spec_IsScript.l0 : Nat → List (S103) → Int → Option (Bool)
  | 0, _, _ => none
  | k + 1, x0, x3 => if x3 < (x0.length : Int) then (if 0 ≤ x3 then ((spec_l10Ok.f k ((rd_T103 x0 x3).f0) ((rd_T103 x0 x3).f1) ((rd_T103 x0 x3).f2) ((rd_T103 x0 x3).f3)).bind fun t128 => (if t128 = true then (spec_IsScript.l0 k x0 (wrap64 (x3 + 1))) else (some false))) else (none)) else (some (decide ((x0.length : Int) ≤ 16)))
def spec_IsScript.f (k : Nat) (l0 : List (S103)) : Option (Bool) := spec_IsScript.l0 k l0 0
theorem spec_IsScript.calls (k : Nat) (A0 : Option Addr) (c0 : Nat) (l0 : List (S103)) (r : Bool) (w : World) (hr0 : Kd.C k103 w A0 l0.length l0) (hc0 : l0.length ≤ c0) (h : spec_IsScript.f k l0 = some r) :
  Calls Try.prog 80 #[.slice A0 l0.length c0] w fun e w' => e = .returned (.bool r) ∧ Below w.heap.size w w' := by
 have hu103 := Try.underlying103; have HR0 := ak hr0; have HC0 := ak hc0; clear hr0 hc0; have HB := ak (Below.refl w.heap.size w); have H := h; clear h; unfold spec_IsScript.f at H; have H' := ak H; clear H; go_enter Try.func80, Try.ntmps80; go_wp2
 go_loopg [3] k (fun kq v3 w' => ∃ (x3_1 : Int), v3 = .int .i64 x3_1 ∧ Aside0 (spec_IsScript.l0 kq l0 x3_1 = some r) ∧ Aside0 (kq ≤ k) ∧ Aside0 (Below w.heap.size w w'))
 case atStart => exact ⟨(0), (by first | rfl | (simp; done) | (simp [*]; done)), H', ⟨Nat.le_refl _⟩, ⟨PB⟩⟩
 case round =>
  clear H'; obtain ⟨x3_1, rfl, HA, HK1, HB⟩ := hrel
  cases gk with
  | zero => exact absurd HA.out (by simp [spec_IsScript.l0])
  | succ k1 =>
   have H := HA.out; clear HA; simp only [spec_IsScript.l0] at H
   by_cases c2 : x3_1 < (l0.length : Int)
   ·rw [if_pos c2] at H; have c2b0 : decide (x3_1 < (l0.length : Int)) = true := decide_eq_true c2; clear c2
    by_cases c3 : 0 ≤ x3_1
    ·rw [if_pos c3] at H; have c3b0 : decide (0 ≤ x3_1) = true := decide_eq_true c3; clear c3; replace H := Option.bind_eq_some_iff.mp H; obtain ⟨t128, A40, H⟩ := H; (try dsimp only at H); have A4 := ak A40; clear A40
     by_cases c5 : t128 = true
     ·subst c5; rw [if_pos rfl] at H; have H' := ak H; clear H; have p127 : 0 ≤ (x3_1 : Int) := od; have q127 : x3_1 < (l0.length : Int) := od; obtain ⟨ad127, e127, hx127_0, hx127_1, hx127_2, hx127_3⟩ := at_T103 HR0.out x3_1 p127 q127; cases e127; replace hx127_0 := hx_ HB hx127_0; replace hx127_1 := hx_ HB hx127_1; replace hx127_2 := hx_ HB hx127_2; replace hx127_3 := hx_ HB hx127_3; replace p127 := eq_true p127; replace q127 := eq_true q127; go_wp2_with (first | ((with_reducible refine gate_callee (f := 136) rfl ?_); refine goesL_ (some 14) rfl rfl Try.func136 KR rfl #[.agg #[.int .i64 ((rd_T103 l0 x3_1).f0), .int .i64 ((rd_T103 l0 x3_1).f1), .int .i64 ((rd_T103 l0 x3_1).f2), .int .i64 ((rd_T103 l0 x3_1).f3)]] rfl AR ?_; (with_reducible refine (spec_l10Ok.calls k1 ((rd_T103 l0 x3_1).f0) ((rd_T103 l0 x3_1).f1) ((rd_T103 l0 x3_1).f2) ((rd_T103 l0 x3_1).f3) true _ A4.out).mono ?_); rintro e w6 ⟨rfl, hb⟩; refine ⟨_, rfl, ?_⟩; replace HB := bs HB hb; clear hb))
      go_roundg k1
      case measure => have := HK1.out; omega
      case rel => exact ⟨(wrap64 (x3_1 + 1)), (by first | rfl | (simp; done) | (simp [*]; done)), H', ⟨by have := HK1.out; omega⟩, ⟨PB⟩⟩
     ·replace c5 := Bool.eq_false_iff.mpr c5; subst c5; rw [if_neg (show ¬ (false = true) by decide)] at H; obtain rfl := Option.some.inj H; have p127 : 0 ≤ (x3_1 : Int) := od; have q127 : x3_1 < (l0.length : Int) := od; obtain ⟨ad127, e127, hx127_0, hx127_1, hx127_2, hx127_3⟩ := at_T103 HR0.out x3_1 p127 q127; cases e127; replace hx127_0 := hx_ HB hx127_0; replace hx127_1 := hx_ HB hx127_1; replace hx127_2 := hx_ HB hx127_2; replace hx127_3 := hx_ HB hx127_3; replace p127 := eq_true p127; replace q127 := eq_true q127; go_wp2_with (first | ((with_reducible refine gate_callee (f := 136) rfl ?_); refine goesL_ (some 14) rfl rfl Try.func136 KR rfl #[.agg #[.int .i64 ((rd_T103 l0 x3_1).f0), .int .i64 ((rd_T103 l0 x3_1).f1), .int .i64 ((rd_T103 l0 x3_1).f2), .int .i64 ((rd_T103 l0 x3_1).f3)]] rfl AR ?_; (with_reducible refine (spec_l10Ok.calls k1 ((rd_T103 l0 x3_1).f0) ((rd_T103 l0 x3_1).f1) ((rd_T103 l0 x3_1).f2) ((rd_T103 l0 x3_1).f3) false _ A4.out).mono ?_); rintro e w7 ⟨rfl, hb⟩; refine ⟨_, rfl, ?_⟩; replace HB := bs HB hb; clear hb))
      go_ret
      exact ⟨RT, PB⟩
    ·rw [if_neg c3] at H; exact absurd H (by simp)
   ·rw [if_neg c2] at H; have c2b0 : decide (x3_1 < (l0.length : Int)) = false := decide_eq_false c2; clear c2; obtain rfl := Option.some.inj H; go_wp2
    go_ret
    exact ⟨RT, PB⟩

/-! ### spec_IsDone: function 84 -/
def spec_IsDone.f (l0 : List (S103)) (a1_0 : Int) (l1_1 : List Int) (l1_2 : List Int) (l1_3 : List Int) : Option (Bool) := some (decide (a1_0 ≥ (l0.length : Int)))
theorem spec_IsDone.calls (A0 : Option Addr) (c0 : Nat) (l0 : List (S103)) (a1_0 : Int) (A1_1 : Option Addr) (c1_1 : Nat) (l1_1 : List Int) (A1_2 : Option Addr) (c1_2 : Nat) (l1_2 : List Int) (A1_3 : Option Addr) (c1_3 : Nat) (l1_3 : List Int) (r : Bool) (w : World) (hr0 : Kd.C k103 w A0 l0.length l0) (hc0 : l0.length ≤ c0) (hr1_1 : Kd.C (Kd.int .i64) w A1_1 l1_1.length l1_1) (hc1_1 : l1_1.length ≤ c1_1) (hr1_2 : Kd.C (Kd.int .i64) w A1_2 l1_2.length l1_2) (hc1_2 : l1_2.length ≤ c1_2) (hr1_3 : Kd.C (Kd.int .i64) w A1_3 l1_3.length l1_3) (hc1_3 : l1_3.length ≤ c1_3) (h : spec_IsDone.f l0 a1_0 l1_1 l1_2 l1_3 = some r) :
  Calls Try.prog 84 #[.slice A0 l0.length c0, .agg #[.int .i64 a1_0, .slice A1_1 l1_1.length c1_1, .slice A1_2 l1_2.length c1_2, .slice A1_3 l1_3.length c1_3]] w fun e w' => e = .returned (.bool r) ∧ Below w.heap.size w w' := by
 have hu41 := Try.underlying41; have HR0 := ak hr0; have HC0 := ak hc0; clear hr0 hc0; have HR1_1 := ak hr1_1; have HC1_1 := ak hc1_1; clear hr1_1 hc1_1; have HR1_2 := ak hr1_2; have HC1_2 := ak hc1_2; clear hr1_2 hc1_2; have HR1_3 := ak hr1_3; have HC1_3 := ak hc1_3; clear hr1_3 hc1_3; have HB := ak (Below.refl w.heap.size w); have H := h; clear h; unfold spec_IsDone.f at H; obtain rfl := Option.some.inj H; go_enter Try.func84, Try.ntmps84; go_wp2_with (first | ((with_reducible refine gate_dst (N := 3) rfl ?_); refine bx_ (N := 3) #[.int .i64 a1_0, .slice A1_1 l1_1.length c1_1, .slice A1_2 l1_2.length c1_2, .slice A1_3 l1_3.length c1_3] 41 ?_; intro gb129 hg w3 hbox hb; have BK129 := ak hbox; have GW129 := gy hg HB; have GE129 := gy hg HB; replace HB := bs HB hb; clear hb hbox hg; obtain ⟨_, _, _, _, _, _, _, _⟩ := bc4 BK129))
 go_ret
 exact ⟨RT, PB⟩

/-! ### spec_l11All: function 169 -/
def spec_l11All.l0 : Nat → List Int → Int → Int → Option (Bool)
  | 0, _, _, _ => none
  | k + 1, x0, x1, x5 => if x5 < (x0.length : Int) then (if 0 ≤ x5 then ((spec_l1In.f (rd x0 x5) 0 999).bind fun t131 => (if t131 = true then (spec_l11All.l0 k x0 x1 (wrap64 (x5 + 1))) else (some false))) else (none)) else (some ((x0.length : Int) == x1))
def spec_l11All.f (k : Nat) (l0 : List Int) (a1 : Int) : Option (Bool) := spec_l11All.l0 k l0 a1 0
theorem spec_l11All.calls (k : Nat) (A0 : Option Addr) (c0 : Nat) (l0 : List Int) (a1 : Int) (r : Bool) (w : World) (hr0 : Kd.C (Kd.int .i64) w A0 l0.length l0) (hc0 : l0.length ≤ c0) (h : spec_l11All.f k l0 a1 = some r) :
  Calls Try.prog 169 #[.slice A0 l0.length c0, .int .i64 a1] w fun e w' => e = .returned (.bool r) ∧ Drawn0 w w' := by
 have HR0 := ak hr0; have HC0 := ak hc0; clear hr0 hc0; have H := h; clear h; unfold spec_l11All.f at H; have H' := ak H; clear H; go_enter Try.func169, Try.ntmps169; go_wp2
 go_loopg [5] k (fun kq v5 w' => ∃ (x5_1 : Int), v5 = .int .i64 x5_1 ∧ Aside0 (spec_l11All.l0 kq l0 a1 x5_1 = some r) ∧ Aside0 (kq ≤ k) ∧ Drawn0 w w')
 case atStart => exact ⟨(0), (by first | rfl | (simp; done) | (simp [*]; done)), H', ⟨Nat.le_refl _⟩, by repeat (first | exact Drawn0.refl _ | apply Drawn0.step)⟩
 case round =>
  clear H'; (try clear c1); (try clear p2); obtain ⟨x5_1, rfl, HA, HK1, ⟨m1, rfl⟩⟩ := hrel
  cases gk with
  | zero => exact absurd HA.out (by simp [spec_l11All.l0])
  | succ k1 =>
   have H := HA.out; clear HA; simp only [spec_l11All.l0] at H
   by_cases c3 : x5_1 < (l0.length : Int)
   ·rw [if_pos c3] at H; have c3b0 : decide (x5_1 < (l0.length : Int)) = true := decide_eq_true c3; clear c3
    by_cases c4 : 0 ≤ x5_1
    ·rw [if_pos c4] at H; have c4b0 : decide (0 ≤ x5_1) = true := decide_eq_true c4; clear c4; replace H := Option.bind_eq_some_iff.mp H; obtain ⟨t131, A50, H⟩ := H; (try dsimp only at H); have A5 := ak A50; clear A50
     by_cases c6 : t131 = true
     ·subst c6; rw [if_pos rfl] at H; have H' := ak H; clear H; have p130 : 0 ≤ (x5_1 : Int) := od; have q130 : x5_1 < (l0.length : Int) := od; obtain ⟨ad130, e130, hx130_0⟩ := Kd.at_int HR0.out x5_1 p130 q130; cases e130; replace p130 := eq_true p130; replace q130 := eq_true q130; go_wp2_with (first | ((with_reducible refine gate_callee (f := 82) rfl ?_); refine goesL_ (some 16) rfl rfl Try.func82 KR rfl #[.int .i64 (rd l0 x5_1), .int .i64 0, .int .i64 999] rfl AR ?_; (with_reducible refine (spec_l1In.calls (rd l0 x5_1) 0 999 true _ A5.out).mono ?_); rintro e w' ⟨rfl, ⟨nd, rfl⟩⟩; refine ⟨_, rfl, ?_⟩))
      go_roundg k1
      case measure => have := HK1.out; omega
      case rel => exact ⟨(wrap64 (x5_1 + 1)), (by first | rfl | (simp; done) | (simp [*]; done)), H', ⟨by have := HK1.out; omega⟩, by repeat (first | exact Drawn0.refl _ | apply Drawn0.step)⟩
     ·replace c6 := Bool.eq_false_iff.mpr c6; subst c6; rw [if_neg (show ¬ (false = true) by decide)] at H; obtain rfl := Option.some.inj H; have p130 : 0 ≤ (x5_1 : Int) := od; have q130 : x5_1 < (l0.length : Int) := od; obtain ⟨ad130, e130, hx130_0⟩ := Kd.at_int HR0.out x5_1 p130 q130; cases e130; replace p130 := eq_true p130; replace q130 := eq_true q130; go_wp2_with (first | ((with_reducible refine gate_callee (f := 82) rfl ?_); refine goesL_ (some 16) rfl rfl Try.func82 KR rfl #[.int .i64 (rd l0 x5_1), .int .i64 0, .int .i64 999] rfl AR ?_; (with_reducible refine (spec_l1In.calls (rd l0 x5_1) 0 999 false _ A5.out).mono ?_); rintro e w' ⟨rfl, ⟨nd, rfl⟩⟩; refine ⟨_, rfl, ?_⟩))
      go_ret
      exact ⟨by first | rfl | (simp; done) | (simp [*]; done), by repeat (first | exact Drawn0.refl _ | apply Drawn0.step)⟩
    ·rw [if_neg c4] at H; exact absurd H (by simp)
   ·rw [if_neg c3] at H; have c3b0 : decide (x5_1 < (l0.length : Int)) = false := decide_eq_false c3; clear c3; obtain rfl := Option.some.inj H; go_wp2
    go_ret
    exact ⟨by first | rfl | (simp; done) | (simp [*]; done), by repeat (first | exact Drawn0.refl _ | apply Drawn0.step)⟩

/-! ### spec_IsState: function 177 -/
def spec_IsState.f (k : Nat) (a0_0 : Int) (l0_1 : List Int) (l0_2 : List Int) (l0_3 : List Int) : Option (Bool) := (spec_l1In.f a0_0 0 19).bind fun t133 => (if t133 = true then ((spec_l11All.f k l0_1 4).bind fun t134 => (if t134 = true then ((spec_l11All.f k l0_2 3).bind fun t135 => (if t135 = true then ((spec_l11All.f k l0_3 4).bind fun t136 => (some t136)) else (some false))) else (some false))) else (some false))
theorem spec_IsState.calls (k : Nat) (a0_0 : Int) (A0_1 : Option Addr) (c0_1 : Nat) (l0_1 : List Int) (A0_2 : Option Addr) (c0_2 : Nat) (l0_2 : List Int) (A0_3 : Option Addr) (c0_3 : Nat) (l0_3 : List Int) (r : Bool) (w : World) (hr0_1 : Kd.C (Kd.int .i64) w A0_1 l0_1.length l0_1) (hc0_1 : l0_1.length ≤ c0_1) (hr0_2 : Kd.C (Kd.int .i64) w A0_2 l0_2.length l0_2) (hc0_2 : l0_2.length ≤ c0_2) (hr0_3 : Kd.C (Kd.int .i64) w A0_3 l0_3.length l0_3) (hc0_3 : l0_3.length ≤ c0_3) (h : spec_IsState.f k a0_0 l0_1 l0_2 l0_3 = some r) :
  Calls Try.prog 177 #[.agg #[.int .i64 a0_0, .slice A0_1 l0_1.length c0_1, .slice A0_2 l0_2.length c0_2, .slice A0_3 l0_3.length c0_3]] w fun e w' => e = .returned (.bool r) ∧ Below w.heap.size w w' := by
 have hu41 := Try.underlying41; have HR0_1 := ak hr0_1; have HC0_1 := ak hc0_1; clear hr0_1 hc0_1; have HR0_2 := ak hr0_2; have HC0_2 := ak hc0_2; clear hr0_2 hc0_2; have HR0_3 := ak hr0_3; have HC0_3 := ak hc0_3; clear hr0_3 hc0_3; have HB := ak (Below.refl w.heap.size w); have H := h; clear h; unfold spec_IsState.f at H; replace H := Option.bind_eq_some_iff.mp H; obtain ⟨t133, A20, H⟩ := H; (try dsimp only at H); have A2 := ak A20; clear A20
 by_cases c3 : t133 = true
 ·subst c3; rw [if_pos rfl] at H; replace H := Option.bind_eq_some_iff.mp H; obtain ⟨t134, A40, H⟩ := H; (try dsimp only at H); have A4 := ak A40; clear A40
  by_cases c5 : t134 = true
  ·subst c5; rw [if_pos rfl] at H; replace H := Option.bind_eq_some_iff.mp H; obtain ⟨t135, A60, H⟩ := H; (try dsimp only at H); have A6 := ak A60; clear A60
   by_cases c7 : t135 = true
   ·subst c7; rw [if_pos rfl] at H; replace H := Option.bind_eq_some_iff.mp H; obtain ⟨t136, A80, H⟩ := H; (try dsimp only at H); have A8 := ak A80; clear A80; obtain rfl := Option.some.inj H; go_enter Try.func177, Try.ntmps177; go_wp2_with (first | ((with_reducible refine gate_dst (N := 1) rfl ?_); refine bx_ (N := 1) #[.int .i64 a0_0, .slice A0_1 l0_1.length c0_1, .slice A0_2 l0_2.length c0_2, .slice A0_3 l0_3.length c0_3] 41 ?_; intro gb132 hg w9 hbox hb; have BK132 := ak hbox; have GW132 := gy hg HB; have GE132 := gy hg HB; replace HB := bs HB hb; clear hb hbox hg; obtain ⟨_, _, _, _, _, _, _, _⟩ := bc4 BK132) | ((with_reducible refine gate_callee (f := 82) rfl ?_); refine goesL_ (some 5) rfl rfl Try.func82 KR rfl #[.int .i64 a0_0, .int .i64 0, .int .i64 19] rfl AR ?_; (with_reducible refine (spec_l1In.calls a0_0 0 19 true _ A2.out).mono ?_); rintro e w' ⟨rfl, ⟨nd, rfl⟩⟩; refine ⟨_, rfl, ?_⟩) | (go_at_call 169; (with_reducible refine (spec_l11All.calls k _ _ l0_1 4 true _ ?side1 ?side2 A4.out).mono ?_); (case side1 => repeat (first | exact (Kd.C_below HR0_1.out PB) | (with_reducible refine Kd.C_alloc ?_ _) | (with_reducible refine Kd.C_drewN ?_ _) | (with_reducible refine Kd.C_drew ?_))); (case side2 => exact HC0_1.out); rintro e w' ⟨rfl, ⟨nd, rfl⟩⟩) | (go_at_call 169; (with_reducible refine (spec_l11All.calls k _ _ l0_2 3 true _ ?side1 ?side2 A6.out).mono ?_); (case side1 => repeat (first | exact (Kd.C_below HR0_2.out PB) | (with_reducible refine Kd.C_alloc ?_ _) | (with_reducible refine Kd.C_drewN ?_ _) | (with_reducible refine Kd.C_drew ?_))); (case side2 => exact HC0_2.out); rintro e w' ⟨rfl, ⟨nd, rfl⟩⟩) | (go_at_call 169; (with_reducible refine (spec_l11All.calls k _ _ l0_3 4 t136 _ ?side1 ?side2 A8.out).mono ?_); (case side1 => repeat (first | exact (Kd.C_below HR0_3.out PB) | (with_reducible refine Kd.C_alloc ?_ _) | (with_reducible refine Kd.C_drewN ?_ _) | (with_reducible refine Kd.C_drew ?_))); (case side2 => exact HC0_3.out); rintro e w' ⟨rfl, ⟨nd, rfl⟩⟩))
    go_ret
    exact ⟨RT, PB⟩
   ·replace c7 := Bool.eq_false_iff.mpr c7; subst c7; rw [if_neg (show ¬ (false = true) by decide)] at H; obtain rfl := Option.some.inj H; go_enter Try.func177, Try.ntmps177; go_wp2_with (first | ((with_reducible refine gate_dst (N := 1) rfl ?_); refine bx_ (N := 1) #[.int .i64 a0_0, .slice A0_1 l0_1.length c0_1, .slice A0_2 l0_2.length c0_2, .slice A0_3 l0_3.length c0_3] 41 ?_; intro gb132 hg w11 hbox hb; have BK132 := ak hbox; have GW132 := gy hg HB; have GE132 := gy hg HB; replace HB := bs HB hb; clear hb hbox hg; obtain ⟨_, _, _, _, _, _, _, _⟩ := bc4 BK132) | ((with_reducible refine gate_callee (f := 82) rfl ?_); refine goesL_ (some 5) rfl rfl Try.func82 KR rfl #[.int .i64 a0_0, .int .i64 0, .int .i64 19] rfl AR ?_; (with_reducible refine (spec_l1In.calls a0_0 0 19 true _ A2.out).mono ?_); rintro e w' ⟨rfl, ⟨nd, rfl⟩⟩; refine ⟨_, rfl, ?_⟩) | (go_at_call 169; (with_reducible refine (spec_l11All.calls k _ _ l0_1 4 true _ ?side1 ?side2 A4.out).mono ?_); (case side1 => repeat (first | exact (Kd.C_below HR0_1.out PB) | (with_reducible refine Kd.C_alloc ?_ _) | (with_reducible refine Kd.C_drewN ?_ _) | (with_reducible refine Kd.C_drew ?_))); (case side2 => exact HC0_1.out); rintro e w' ⟨rfl, ⟨nd, rfl⟩⟩) | (go_at_call 169; (with_reducible refine (spec_l11All.calls k _ _ l0_2 3 false _ ?side1 ?side2 A6.out).mono ?_); (case side1 => repeat (first | exact (Kd.C_below HR0_2.out PB) | (with_reducible refine Kd.C_alloc ?_ _) | (with_reducible refine Kd.C_drewN ?_ _) | (with_reducible refine Kd.C_drew ?_))); (case side2 => exact HC0_2.out); rintro e w' ⟨rfl, ⟨nd, rfl⟩⟩))
    go_ret
    exact ⟨RT, PB⟩
  ·replace c5 := Bool.eq_false_iff.mpr c5; subst c5; rw [if_neg (show ¬ (false = true) by decide)] at H; obtain rfl := Option.some.inj H; go_enter Try.func177, Try.ntmps177; go_wp2_with (first | ((with_reducible refine gate_dst (N := 1) rfl ?_); refine bx_ (N := 1) #[.int .i64 a0_0, .slice A0_1 l0_1.length c0_1, .slice A0_2 l0_2.length c0_2, .slice A0_3 l0_3.length c0_3] 41 ?_; intro gb132 hg w13 hbox hb; have BK132 := ak hbox; have GW132 := gy hg HB; have GE132 := gy hg HB; replace HB := bs HB hb; clear hb hbox hg; obtain ⟨hcz14_0, hcz14_1, hcz14_2, hcz14_3, hfz14_0, hfz14_1, hfz14_2, hfz14_3⟩ := bc4 BK132) | ((with_reducible refine gate_callee (f := 82) rfl ?_); refine goesL_ (some 5) rfl rfl Try.func82 KR rfl #[.int .i64 a0_0, .int .i64 0, .int .i64 19] rfl AR ?_; (with_reducible refine (spec_l1In.calls a0_0 0 19 true _ A2.out).mono ?_); rintro e w' ⟨rfl, ⟨nd, rfl⟩⟩; refine ⟨_, rfl, ?_⟩) | (go_at_call 169; (with_reducible refine (spec_l11All.calls k _ _ l0_1 4 false _ ?side1 ?side2 A4.out).mono ?_); (case side1 => repeat (first | exact (Kd.C_below HR0_1.out PB) | (with_reducible refine Kd.C_alloc ?_ _) | (with_reducible refine Kd.C_drewN ?_ _) | (with_reducible refine Kd.C_drew ?_))); (case side2 => exact HC0_1.out); rintro e w' ⟨rfl, ⟨nd, rfl⟩⟩))
   go_ret
   exact ⟨RT, PB⟩
 ·replace c3 := Bool.eq_false_iff.mpr c3; subst c3; rw [if_neg (show ¬ (false = true) by decide)] at H; obtain rfl := Option.some.inj H; go_enter Try.func177, Try.ntmps177; go_wp2_with (first | ((with_reducible refine gate_dst (N := 1) rfl ?_); refine bx_ (N := 1) #[.int .i64 a0_0, .slice A0_1 l0_1.length c0_1, .slice A0_2 l0_2.length c0_2, .slice A0_3 l0_3.length c0_3] 41 ?_; intro gb132 hg w15 hbox hb; have BK132 := ak hbox; have GW132 := gy hg HB; have GE132 := gy hg HB; replace HB := bs HB hb; clear hb hbox hg; obtain ⟨_, _, _, _, _, _, _, _⟩ := bc4 BK132) | ((with_reducible refine gate_callee (f := 82) rfl ?_); refine goesL_ (some 5) rfl rfl Try.func82 KR rfl #[.int .i64 a0_0, .int .i64 0, .int .i64 19] rfl AR ?_; (with_reducible refine (spec_l1In.calls a0_0 0 19 false _ A2.out).mono ?_); rintro e w' ⟨rfl, ⟨nd, rfl⟩⟩; refine ⟨_, rfl, ?_⟩))
  go_ret
  exact ⟨RT, PB⟩

end Go.Proofs.Ytmhonflpbokkeaa.MFnExactTraceReplay
