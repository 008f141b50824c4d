/- The contract of the law of TraceReplay, by intervals of blocks. By an AI agent. -/
import Derived.Test.YtmhonflpbokkeaaItv
import Derived.Test.YtmhonflpbokkeaaMFnExactTraceReplayx1
import Derived.Test.YtmhonflpbokkeaaMFnExactTraceReplayx16
import Derived.Test.YtmhonflpbokkeaaMFnExactTraceReplayx17
import Derived.Test.YtmhonflpbokkeaaMFnExactTraceReplayx18
import Derived.Test.YtmhonflpbokkeaaMFnExactTraceReplayx8
namespace Go.Proofs.Ytmhonflpbokkeaa.MFnExactTraceReplay
open Go.RowKit Go.Proofs.YtmhonflpbokkeaaW.PrintWords Go.Proofs.YtmhonflpbokkeaaW.PrintLast Go.Proofs.YtmhonflpbokkeaaW.PrintMore
set_option linter.unusedVariables false
set_option linter.unusedSimpArgs false
def laws_FnExactTraceReplay.f (k : Nat) (l0 : List (S105)) (l1 : List (S111)) : Option Bool :=
  (laws_szOpS.f l0 1048576).bind fun t1 => if t1 < 0 then some true else
  (laws_szEntryS.f l1 t1).bind fun t2 => if t2 < 0 then some true else
  (laws_toOpS.f k l0).bind fun x => (laws_toEntryS.f k l1).bind fun y =>
  (spec_TraceReplay.f k x y).bind fun u => (impl_TraceReplay.f k x y).bind fun g =>
  (laws_eqStateS.f k g u).bind fun q1 => if q1 = true then
  (laws_eqOpS.f k x x).bind fun q2 => if q2 = true then (laws_eqEntryS.f k y y).bind fun q3 => if q3 = true then
  (laws_markOpS.f k x 1).bind fun m1 => (laws_markEntryS.f k y m1.1).bind fun m2 => if m2.1 < 0 then some false else
  (laws_markStateS.f k g 1).bind fun m3 => (laws_heldStateS.f k m3.2 1).bind fun h => if h < 0 then some false else if h = m3.1 then some true else some false
  else some false else some false else some false
set_option maxHeartbeats 64000000 in
set_option maxRecDepth 100000 in
theorem laws_FnExactTraceReplay.calls (k : Nat) (A0 : Option Addr) (c0 : Nat) (l0 : List (S105)) (A1 : Option Addr) (c1 : Nat) (l1 : List (S111)) (r : Bool) (w : World) (hr0 : Kd.C k105 w A0 l0.length l0) (hc0 : l0.length ≤ c0) (hr1 : Kd.C k111 w A1 l1.length l1) (hc1 : l1.length ≤ c1) (hT_ : r = true) (h : laws_FnExactTraceReplay.f k l0 l1 = some r) :
    Calls Try.prog 3 #[.slice A0 l0.length c0, .slice A1 l1.length c1] w fun e w' => e = .returned (.bool r) ∧ Below w.heap.size w w' := by
  have HR0 := Aside0.mk hr0
  have HC0 := Aside0.mk hc0
  have HR1 := Aside0.mk hr1
  have HC1 := Aside0.mk hc1
  clear hr0 hc0 hr1 hc1
  have HB := ak (Below.refl w.heap.size w)
  have HZ := ak (Nat.le_refl w.heap.size)
  have HW := ak (Nat.le_refl w.heap.size)
  unfold laws_FnExactTraceReplay.f at h
  obtain ⟨t1, E10, h1_⟩ := Option.bind_eq_some_iff.mp h
  have E1 := ak E10
  clear E10 h
  have h := h1_
  clear h1_
  by_cases c1 : t1 < 0
  · rw [if_pos c1] at h
    have c1b : decide (t1 < 0) = true := decide_eq_true c1
    clear c1
    obtain rfl := Option.some.inj h
    clear h
    go_enter Try.func3, Try.ntmps3
    go_wp2_with (first | ((with_reducible refine gate_callee (f := 8) rfl ?_); refine goesL_ (some 16) rfl rfl Try.func8 KR rfl #[.slice A0 l0.length c0, .int .i64 1048576] rfl AR ?_; (with_reducible refine (laws_szOpS.calls _ _ l0 1048576 t1 _ ?side1 ?side2 E1.out).mono ?_); (case side1 => exact CR (Kd.C_below HR0.out HB.out)); (case side2 => exact HC0.out); rintro e w101 ⟨rfl, hb⟩; refine ⟨_, rfl, ?_⟩; replace hb := hb.below; replace HZ := izb HZ hb; replace HB := bs HB hb; clear hb))
    go_ret
    exact ⟨RT, PB⟩
  rw [if_neg c1] at h
  have c1b : decide (t1 < 0) = false := decide_eq_false c1
  clear c1
  obtain ⟨t2, E20, h1_⟩ := Option.bind_eq_some_iff.mp h
  have E2 := ak E20
  clear E20 h
  have h := h1_
  clear h1_
  by_cases c2 : t2 < 0
  · rw [if_pos c2] at h
    have c2b : decide (t2 < 0) = true := decide_eq_true c2
    clear c2
    obtain rfl := Option.some.inj h
    clear h
    go_enter Try.func3, Try.ntmps3
    go_wp2_with (first | ((with_reducible refine gate_callee (f := 8) rfl ?_); refine goesL_ (some 16) rfl rfl Try.func8 KR rfl #[.slice A0 l0.length c0, .int .i64 1048576] rfl AR ?_; (with_reducible refine (laws_szOpS.calls _ _ l0 1048576 t1 _ ?side1 ?side2 E1.out).mono ?_); (case side1 => exact CR (Kd.C_below HR0.out HB.out)); (case side2 => exact HC0.out); rintro e w101 ⟨rfl, hb⟩; refine ⟨_, rfl, ?_⟩; replace hb := hb.below; replace HZ := izb HZ hb; replace HB := bs HB hb; clear hb) | ((with_reducible refine gate_callee (f := 9) rfl ?_); refine goesL_ (some 21) rfl rfl Try.func9 KR rfl #[.slice A1 l1.length c1, .int .i64 t1] rfl AR ?_; (with_reducible refine (laws_szEntryS.calls _ _ l1 t1 t2 _ ?side1 ?side2 E2.out).mono ?_); (case side1 => exact CR (Kd.C_below HR1.out HB.out)); (case side2 => exact HC1.out); rintro e w102 ⟨rfl, hb⟩; refine ⟨_, rfl, ?_⟩; replace hb := hb.below; replace HZ := izb HZ hb; replace HB := bs HB hb; clear hb))
    go_ret
    exact ⟨RT, PB⟩
  rw [if_neg c2] at h
  have c2b : decide (t2 < 0) = false := decide_eq_false c2
  clear c2
  obtain ⟨x, E30, h1_⟩ := Option.bind_eq_some_iff.mp h
  have E3 := ak E30
  clear E30 h
  have h := h1_
  clear h1_
  obtain ⟨y, E40, h1_⟩ := Option.bind_eq_some_iff.mp h
  have E4 := ak E40
  clear E40 h
  have h := h1_
  clear h1_
  obtain ⟨u, E50, h1_⟩ := Option.bind_eq_some_iff.mp h
  have E5 := ak E50
  clear E50 h
  have h := h1_
  clear h1_
  obtain ⟨g, E60, h1_⟩ := Option.bind_eq_some_iff.mp h
  have E6 := ak E60
  clear E60 h
  have h := h1_
  clear h1_
  obtain ⟨q1, E70, h1_⟩ := Option.bind_eq_some_iff.mp h
  have E7 := ak E70
  clear E70 h
  have h := h1_
  clear h1_
  obtain ⟨hq_, h1_⟩ := itT h hT_
  clear h
  have h := h1_
  clear h1_
  subst hq_
  obtain ⟨q2, E80, h1_⟩ := Option.bind_eq_some_iff.mp h
  have E8 := ak E80
  clear E80 h
  have h := h1_
  clear h1_
  obtain ⟨hq_, h1_⟩ := itT h hT_
  clear h
  have h := h1_
  clear h1_
  subst hq_
  obtain ⟨q3, E90, h1_⟩ := Option.bind_eq_some_iff.mp h
  have E9 := ak E90
  clear E90 h
  have h := h1_
  clear h1_
  obtain ⟨hq_, h1_⟩ := itT h hT_
  clear h
  have h := h1_
  clear h1_
  subst hq_
  obtain ⟨⟨m1, x_⟩, E100, h1_⟩ := Option.bind_eq_some_iff.mp h
  have E10 := ak E100
  clear E100 h
  have h := h1_
  clear h1_
  obtain ⟨⟨m2, y_⟩, E110, h1_⟩ := Option.bind_eq_some_iff.mp h
  have E11 := ak E110
  clear E110 h
  have h := h1_
  clear h1_
  dsimp only at h E11
  obtain ⟨hq_, h1_⟩ := itF h hT_
  clear h
  have h := h1_
  clear h1_
  have c3b : decide (m2 < 0) = false := decide_eq_false hq_
  clear hq_
  obtain ⟨⟨m3, g_⟩, E120, h1_⟩ := Option.bind_eq_some_iff.mp h
  have E12 := ak E120
  clear E120 h
  have h := h1_
  clear h1_
  dsimp only at h
  obtain ⟨h_, E130, h1_⟩ := Option.bind_eq_some_iff.mp h
  have E13 := ak E130
  clear E130 h
  have h := h1_
  clear h1_
  obtain ⟨hq_, h1_⟩ := itF h hT_
  clear h
  have h := h1_
  clear h1_
  have c4b : decide (h_ < 0) = false := decide_eq_false hq_
  clear hq_
  obtain ⟨hq_, h1_⟩ := itT h hT_
  clear h
  have h := h1_
  clear h1_
  subst hq_
  clear h
  try subst hT_
  have z3 : (h_ != h_) = false := bne_self_eq_false h_
  have z4 : (h_ == h_) = true := beq_self_eq_true h_
  go_enter Try.func3, Try.ntmps3
  go_wp2_with (first | ((with_reducible refine gate_callee (f := 8) rfl ?_); refine goesL_ (some 16) rfl rfl Try.func8 KR rfl #[.slice A0 l0.length c0, .int .i64 1048576] rfl AR ?_; (with_reducible refine (laws_szOpS.calls _ _ l0 1048576 t1 _ ?side1 ?side2 E1.out).mono ?_); (case side1 => exact CR (Kd.C_below HR0.out HB.out)); (case side2 => exact HC0.out); rintro e w101 ⟨rfl, hb⟩; refine ⟨_, rfl, ?_⟩; replace hb := hb.below; replace HZ := izb HZ hb; replace HB := bs HB hb; clear hb) | ((with_reducible refine gate_callee (f := 9) rfl ?_); refine goesL_ (some 21) rfl rfl Try.func9 KR rfl #[.slice A1 l1.length c1, .int .i64 t1] rfl AR ?_; (with_reducible refine (laws_szEntryS.calls _ _ l1 t1 t2 _ ?side1 ?side2 E2.out).mono ?_); (case side1 => exact CR (Kd.C_below HR1.out HB.out)); (case side2 => exact HC1.out); rintro e w102 ⟨rfl, hb⟩; refine ⟨_, rfl, ?_⟩; replace hb := hb.below; replace HZ := izb HZ hb; replace HB := bs HB hb; clear hb) | ((with_reducible refine gate_callee (f := 11) rfl ?_); refine goesL_ (some 25) rfl rfl Try.func11 KR rfl #[.slice A0 l0.length c0] rfl AR ?_; (with_reducible refine (laws_toOpS.calls k _ _ l0 x _ ?side1 ?side2 E3.out).mono ?_); (case side1 => exact CR (Kd.C_below HR0.out HB.out)); (case side2 => exact HC0.out); rintro e w104 ⟨v3, rfl, ho0, hb⟩; refine ⟨_, rfl, ?_⟩; obtain ⟨n5, hn5⟩ : ∃ n_, n_ = w104.heap.size := ⟨_, rfl⟩; have HX3 := iR ho0 HZ HW hn5; have On5 := ino HZ hb hn5; replace HZ := ak (Nat.le_of_eq hn5); have HWN_ := ak (Nat.le_trans HW.out On5.out); clear HW; have HW := HWN_; clear HWN_; replace HB := bs HB hb; clear hb ho0 hn5; obtain ⟨Ao3, co3, eo3⟩ := Kd.R_slice HX3.out; subst eo3) | ((with_reducible refine gate_callee (f := 12) rfl ?_); refine goesL_ (some 27) rfl rfl Try.func12 KR rfl #[.slice A1 l1.length c1] rfl AR ?_; (with_reducible refine (laws_toEntryS.calls k _ _ l1 y _ ?side1 ?side2 E4.out).mono ?_); (case side1 => exact CR (Kd.C_below HR1.out HB.out)); (case side2 => exact HC1.out); rintro e w107 ⟨v6, rfl, ho0, hb⟩; refine ⟨_, rfl, ?_⟩; obtain ⟨n8, hn8⟩ : ∃ n_, n_ = w107.heap.size := ⟨_, rfl⟩; have HX6 := iR ho0 HZ HW hn8; have On8 := ino HZ hb hn8; replace HX3 := Rb HX3 hb; replace HZ := ak (Nat.le_of_eq hn8); have HWN_ := ak (Nat.le_trans HW.out On8.out); clear HW; have HW := HWN_; clear HWN_; replace HB := bs HB hb; clear hb ho0 hn8; obtain ⟨Ao6, co6, eo6⟩ := Kd.R_slice HX6.out; subst eo6) | ((with_reducible refine gate_callee (f := 10) rfl ?_); refine goesL_ (some 28) rfl rfl Try.func10 KR rfl #[.slice Ao3 (x).length co3, .slice Ao6 (y).length co6] rfl AR ?_; (with_reducible refine (spec_TraceReplay.calls k _ _ x _ _ y u _ ?side1 ?side2 ?side3 ?side4 E5.out).mono ?_); (case side1 => exact CR ((Kd.R_reads' HX3.out).2.2)); (case side2 => exact (Kd.R_reads' HX3.out).2.1); (case side3 => exact CR ((Kd.R_reads' HX6.out).2.2)); (case side4 => exact (Kd.R_reads' HX6.out).2.1); rintro e w110 ⟨v9, rfl, ho0, hb⟩; refine ⟨_, rfl, ?_⟩; obtain ⟨n11, hn11⟩ : ∃ n_, n_ = w110.heap.size := ⟨_, rfl⟩; have HX9 := iS ho0 HZ HW hn11; have On11 := ino HZ hb hn11; replace HX3 := Rb HX3 hb; replace HX6 := Rb HX6 hb; replace HZ := ak (Nat.le_of_eq hn11); have HWN_ := ak (Nat.le_trans HW.out On11.out); clear HW; have HW := HWN_; clear HWN_; replace HB := bs HB hb; clear hb ho0 hn11; obtain ⟨Ao9, co9, eo9⟩ := Kd.S_slice HX9.out; subst eo9) | ((with_reducible refine gate_callee (f := 11) rfl ?_); refine goesL_ (some 30) rfl rfl Try.func11 KR rfl #[.slice A0 l0.length c0] rfl AR ?_; (with_reducible refine (laws_toOpS.calls k _ _ l0 x _ ?side1 ?side2 E3.out).mono ?_); (case side1 => exact CR (Kd.C_below HR0.out HB.out)); (case side2 => exact HC0.out); rintro e w113 ⟨v12, rfl, ho0, hb⟩; refine ⟨_, rfl, ?_⟩; obtain ⟨n14, hn14⟩ : ∃ n_, n_ = w113.heap.size := ⟨_, rfl⟩; have HX12 := iR ho0 HZ HW hn14; have On14 := ino HZ hb hn14; replace HX3 := Rb HX3 hb; replace HX6 := Rb HX6 hb; replace HX9 := Sb HX9 hb; replace HZ := ak (Nat.le_of_eq hn14); have HWN_ := ak (Nat.le_trans HW.out On14.out); clear HW; have HW := HWN_; clear HWN_; replace HB := bs HB hb; clear hb ho0 hn14; obtain ⟨Ao12, co12, eo12⟩ := Kd.R_slice HX12.out; subst eo12) | ((with_reducible refine gate_callee (f := 12) rfl ?_); refine goesL_ (some 32) rfl rfl Try.func12 KR rfl #[.slice A1 l1.length c1] rfl AR ?_; (with_reducible refine (laws_toEntryS.calls k _ _ l1 y _ ?side1 ?side2 E4.out).mono ?_); (case side1 => exact CR (Kd.C_below HR1.out HB.out)); (case side2 => exact HC1.out); rintro e w116 ⟨v15, rfl, ho0, hb⟩; refine ⟨_, rfl, ?_⟩; obtain ⟨n17, hn17⟩ : ∃ n_, n_ = w116.heap.size := ⟨_, rfl⟩; have HX15 := iR ho0 HZ HW hn17; have On17 := ino HZ hb hn17; replace HX3 := Rb HX3 hb; replace HX6 := Rb HX6 hb; replace HX9 := Sb HX9 hb; replace HX12 := Rb HX12 hb; replace HZ := ak (Nat.le_of_eq hn17); have HWN_ := ak (Nat.le_trans HW.out On17.out); clear HW; have HW := HWN_; clear HWN_; replace HB := bs HB hb; clear hb ho0 hn17; obtain ⟨Ao15, co15, eo15⟩ := Kd.R_slice HX15.out; subst eo15) | ((with_reducible refine gate_callee (f := 13) rfl ?_); refine goesL_ (some 35) rfl rfl Try.func13 KR rfl #[.slice Ao12 (x).length co12, .slice Ao15 (y).length co15] rfl AR ?_; (with_reducible refine (impl_TraceReplay.calls k _ _ x _ _ y g _ ?side1 ?side2 ?side3 ?side4 E6.out).mono ?_); (case side1 => exact CR ((Kd.R_reads' HX12.out).2.2)); (case side2 => exact (Kd.R_reads' HX12.out).2.1); (case side3 => exact CR ((Kd.R_reads' HX15.out).2.2)); (case side4 => exact (Kd.R_reads' HX15.out).2.1); rintro e w119 ⟨v18, rfl, ho0, hb⟩; refine ⟨_, rfl, ?_⟩; obtain ⟨n20, hn20⟩ : ∃ n_, n_ = w119.heap.size := ⟨_, rfl⟩; have HX18 := iS ho0 HZ HW hn20; have On20 := ino HZ hb hn20; replace HX3 := Rb HX3 hb; replace HX6 := Rb HX6 hb; replace HX9 := Sb HX9 hb; replace HX12 := Rb HX12 hb; replace HX15 := Rb HX15 hb; replace HZ := ak (Nat.le_of_eq hn20); have HWN_ := ak (Nat.le_trans HW.out On20.out); clear HW; have HW := HWN_; clear HWN_; replace HB := bs HB hb; clear hb ho0 hn20; obtain ⟨Ao18, co18, eo18⟩ := Kd.S_slice HX18.out; subst eo18) | ((with_reducible refine gate_callee (f := 14) rfl ?_); refine goesL_ (some 38) rfl rfl Try.func14 KR rfl #[.slice Ao18 (g).length co18, .slice Ao9 (u).length co9] rfl AR ?_; (with_reducible refine (laws_eqStateS.calls k _ _ g _ _ u true _ ?side1 ?side2 ?side3 ?side4 E7.out).mono ?_); (case side1 => exact CR ((Kd.S_reads' HX18.out).2.2)); (case side2 => exact (Kd.S_reads' HX18.out).2.1); (case side3 => exact CR ((Kd.S_reads' HX9.out).2.2)); (case side4 => exact (Kd.S_reads' HX9.out).2.1); rintro e w121 ⟨rfl, hb⟩; refine ⟨_, rfl, ?_⟩; replace HX3 := Rb HX3 hb; replace HX6 := Rb HX6 hb; replace HX9 := Sb HX9 hb; replace HX12 := Rb HX12 hb; replace HX15 := Rb HX15 hb; replace HX18 := Sb HX18 hb; replace HZ := izb HZ hb; replace HB := bs HB hb; clear hb) | ((with_reducible refine gate_callee (f := 11) rfl ?_); refine goesL_ (some 42) rfl rfl Try.func11 KR rfl #[.slice A0 l0.length c0] rfl AR ?_; (with_reducible refine (laws_toOpS.calls k _ _ l0 x _ ?side1 ?side2 E3.out).mono ?_); (case side1 => exact CR (Kd.C_below HR0.out HB.out)); (case side2 => exact HC0.out); rintro e w123 ⟨v22, rfl, ho0, hb⟩; refine ⟨_, rfl, ?_⟩; obtain ⟨n24, hn24⟩ : ∃ n_, n_ = w123.heap.size := ⟨_, rfl⟩; have HX22 := iR ho0 HZ HW hn24; have On24 := ino HZ hb hn24; replace HX3 := Rb HX3 hb; replace HX6 := Rb HX6 hb; replace HX9 := Sb HX9 hb; replace HX12 := Rb HX12 hb; replace HX15 := Rb HX15 hb; replace HX18 := Sb HX18 hb; replace HZ := ak (Nat.le_of_eq hn24); have HWN_ := ak (Nat.le_trans HW.out On24.out); clear HW; have HW := HWN_; clear HWN_; replace HB := bs HB hb; clear hb ho0 hn24; obtain ⟨Ao22, co22, eo22⟩ := Kd.R_slice HX22.out; subst eo22) | ((with_reducible refine gate_callee (f := 15) rfl ?_); refine goesL_ (some 43) rfl rfl Try.func15 KR rfl #[.slice Ao12 (x).length co12, .slice Ao22 (x).length co22] rfl AR ?_; (with_reducible refine (laws_eqOpS.calls k _ _ x _ _ x true _ ?side1 ?side2 ?side3 ?side4 rfl E8.out).mono ?_); (case side1 => exact CR ((Kd.R_reads' HX12.out).2.2)); (case side2 => exact (Kd.R_reads' HX12.out).2.1); (case side3 => exact CR ((Kd.R_reads' HX22.out).2.2)); (case side4 => exact (Kd.R_reads' HX22.out).2.1); rintro e w125 ⟨rfl, hb⟩; refine ⟨_, rfl, ?_⟩; replace HX3 := Rb HX3 hb; replace HX6 := Rb HX6 hb; replace HX9 := Sb HX9 hb; replace HX12 := Rb HX12 hb; replace HX15 := Rb HX15 hb; replace HX18 := Sb HX18 hb; replace HX22 := Rb HX22 hb; replace HZ := izb HZ hb; replace HB := bs HB hb; clear hb) | ((with_reducible refine gate_callee (f := 12) rfl ?_); refine goesL_ (some 47) rfl rfl Try.func12 KR rfl #[.slice A1 l1.length c1] rfl AR ?_; (with_reducible refine (laws_toEntryS.calls k _ _ l1 y _ ?side1 ?side2 E4.out).mono ?_); (case side1 => exact CR (Kd.C_below HR1.out HB.out)); (case side2 => exact HC1.out); rintro e w127 ⟨v26, rfl, ho0, hb⟩; refine ⟨_, rfl, ?_⟩; obtain ⟨n28, hn28⟩ : ∃ n_, n_ = w127.heap.size := ⟨_, rfl⟩; have HX26 := iR ho0 HZ HW hn28; have On28 := ino HZ hb hn28; replace HX3 := Rb HX3 hb; replace HX6 := Rb HX6 hb; replace HX9 := Sb HX9 hb; replace HX12 := Rb HX12 hb; replace HX15 := Rb HX15 hb; replace HX18 := Sb HX18 hb; replace HX22 := Rb HX22 hb; replace HZ := ak (Nat.le_of_eq hn28); have HWN_ := ak (Nat.le_trans HW.out On28.out); clear HW; have HW := HWN_; clear HWN_; replace HB := bs HB hb; clear hb ho0 hn28; obtain ⟨Ao26, co26, eo26⟩ := Kd.R_slice HX26.out; subst eo26) | ((with_reducible refine gate_callee (f := 16) rfl ?_); refine goesL_ (some 48) rfl rfl Try.func16 KR rfl #[.slice Ao15 (y).length co15, .slice Ao26 (y).length co26] rfl AR ?_; (with_reducible refine (laws_eqEntryS.calls k _ _ y _ _ y true _ ?side1 ?side2 ?side3 ?side4 rfl E9.out).mono ?_); (case side1 => exact CR ((Kd.R_reads' HX15.out).2.2)); (case side2 => exact (Kd.R_reads' HX15.out).2.1); (case side3 => exact CR ((Kd.R_reads' HX26.out).2.2)); (case side4 => exact (Kd.R_reads' HX26.out).2.1); rintro e w129 ⟨rfl, hb⟩; refine ⟨_, rfl, ?_⟩; replace HX3 := Rb HX3 hb; replace HX6 := Rb HX6 hb; replace HX9 := Sb HX9 hb; replace HX12 := Rb HX12 hb; replace HX15 := Rb HX15 hb; replace HX18 := Sb HX18 hb; replace HX22 := Rb HX22 hb; replace HX26 := Rb HX26 hb; replace HZ := izb HZ hb; replace HB := bs HB hb; clear hb) | ((with_reducible refine gate_callee (f := 17) rfl ?_); refine goesL_ (some 52) rfl rfl Try.func17 KR rfl #[.slice Ao12 (x).length co12, .int .i64 1] rfl AR ?_; (with_reducible refine (laws_markOpS.calls k (fun k_ => n11 ≤ k_ ∧ k_ < n14) _ x 1 m1 x_ w _ ?side1 ?side2 E10.out).mono ?_); (case side1 => exact PB); (case side2 => exact PR HX12); rintro e w130 ⟨rfl, hos, hb, hkp⟩; refine ⟨_, rfl, ?_⟩; replace HX3 := ikR HX3 hkp (by have o0 := On5.out; have o1 := On8.out; have o2 := On11.out; have o3 := On14.out; have o4 := On17.out; have o5 := On20.out; have o6 := On24.out; have o7 := On28.out; omega); replace HX6 := ikR HX6 hkp (by have o0 := On5.out; have o1 := On8.out; have o2 := On11.out; have o3 := On14.out; have o4 := On17.out; have o5 := On20.out; have o6 := On24.out; have o7 := On28.out; omega); replace HX9 := ikS HX9 hkp (by have o0 := On5.out; have o1 := On8.out; have o2 := On11.out; have o3 := On14.out; have o4 := On17.out; have o5 := On20.out; have o6 := On24.out; have o7 := On28.out; omega); replace HX15 := ikR HX15 hkp (by have o0 := On5.out; have o1 := On8.out; have o2 := On11.out; have o3 := On14.out; have o4 := On17.out; have o5 := On20.out; have o6 := On24.out; have o7 := On28.out; omega); replace HX18 := ikS HX18 hkp (by have o0 := On5.out; have o1 := On8.out; have o2 := On11.out; have o3 := On14.out; have o4 := On17.out; have o5 := On20.out; have o6 := On24.out; have o7 := On28.out; omega); replace HX22 := ikR HX22 hkp (by have o0 := On5.out; have o1 := On8.out; have o2 := On11.out; have o3 := On14.out; have o4 := On17.out; have o5 := On20.out; have o6 := On24.out; have o7 := On28.out; omega); replace HX26 := ikR HX26 hkp (by have o0 := On5.out; have o1 := On8.out; have o2 := On11.out; have o3 := On14.out; have o4 := On17.out; have o5 := On20.out; have o6 := On24.out; have o7 := On28.out; omega); replace HX12 := ak hos; have hl_ := (Kd.R_reads' HX12.out).1; rw [hl_] at HX12; (try rw [hl_]); clear hl_; replace HZ := izk HZ hkp; replace HB := ak hb; clear hb hkp hos) | ((with_reducible refine gate_callee (f := 18) rfl ?_); refine goesL_ (some 55) rfl rfl Try.func18 KR rfl #[.slice Ao15 (y).length co15, .int .i64 m1] rfl AR ?_; (with_reducible refine (laws_markEntryS.calls k (fun k_ => n14 ≤ k_ ∧ k_ < n17) _ y m1 m2 y_ w _ ?side1 ?side2 E11.out).mono ?_); (case side1 => exact PB); (case side2 => exact PR HX15); rintro e w131 ⟨rfl, hos, hb, hkp⟩; refine ⟨_, rfl, ?_⟩; clear HX12; replace HX3 := ikR HX3 hkp (by have o0 := On5.out; have o1 := On8.out; have o2 := On11.out; have o3 := On14.out; have o4 := On17.out; have o5 := On20.out; have o6 := On24.out; have o7 := On28.out; omega); replace HX6 := ikR HX6 hkp (by have o0 := On5.out; have o1 := On8.out; have o2 := On11.out; have o3 := On14.out; have o4 := On17.out; have o5 := On20.out; have o6 := On24.out; have o7 := On28.out; omega); replace HX9 := ikS HX9 hkp (by have o0 := On5.out; have o1 := On8.out; have o2 := On11.out; have o3 := On14.out; have o4 := On17.out; have o5 := On20.out; have o6 := On24.out; have o7 := On28.out; omega); replace HX18 := ikS HX18 hkp (by have o0 := On5.out; have o1 := On8.out; have o2 := On11.out; have o3 := On14.out; have o4 := On17.out; have o5 := On20.out; have o6 := On24.out; have o7 := On28.out; omega); replace HX22 := ikR HX22 hkp (by have o0 := On5.out; have o1 := On8.out; have o2 := On11.out; have o3 := On14.out; have o4 := On17.out; have o5 := On20.out; have o6 := On24.out; have o7 := On28.out; omega); replace HX26 := ikR HX26 hkp (by have o0 := On5.out; have o1 := On8.out; have o2 := On11.out; have o3 := On14.out; have o4 := On17.out; have o5 := On20.out; have o6 := On24.out; have o7 := On28.out; omega); replace HX15 := ak hos; have hl_ := (Kd.R_reads' HX15.out).1; rw [hl_] at HX15; (try rw [hl_]); clear hl_; replace HZ := izk HZ hkp; replace HB := ak hb; clear hb hkp hos) | (go_at_call 14; (with_reducible refine (laws_eqStateS.calls k _ _ g _ _ u true _ ?side1 ?side2 ?side3 ?side4 E7.out).mono ?_); (case side1 => exact CR ((Kd.S_reads' HX18.out).2.2)); (case side2 => exact (Kd.S_reads' HX18.out).2.1); (case side3 => exact CR ((Kd.S_reads' HX9.out).2.2)); (case side4 => exact (Kd.S_reads' HX9.out).2.1); rintro e w132 ⟨rfl, hb⟩; replace HX3 := Rb HX3 hb; replace HX6 := Rb HX6 hb; replace HX9 := Sb HX9 hb; replace HX15 := Rb HX15 hb; replace HX18 := Sb HX18 hb; replace HX22 := Rb HX22 hb; replace HX26 := Rb HX26 hb; replace HZ := izb HZ hb; replace HB := bs HB hb; clear hb) | ((with_reducible refine gate_callee (f := 19) rfl ?_); refine goesL_ (some 66) rfl rfl Try.func19 KR rfl #[.slice Ao18 (g).length co18, .int .i64 1] rfl AR ?_; (with_reducible refine (laws_markStateS.calls k (fun k_ => n17 ≤ k_ ∧ k_ < n20) _ g 1 h_ g_ w _ ?side1 ?side2 E12.out).mono ?_); (case side1 => exact PB); (case side2 => exact PS HX18); rintro e w133 ⟨rfl, hos, hb, hkp⟩; refine ⟨_, rfl, ?_⟩; clear HX15; replace HX3 := ikR HX3 hkp (by have o0 := On5.out; have o1 := On8.out; have o2 := On11.out; have o3 := On14.out; have o4 := On17.out; have o5 := On20.out; have o6 := On24.out; have o7 := On28.out; omega); replace HX6 := ikR HX6 hkp (by have o0 := On5.out; have o1 := On8.out; have o2 := On11.out; have o3 := On14.out; have o4 := On17.out; have o5 := On20.out; have o6 := On24.out; have o7 := On28.out; omega); replace HX9 := ikS HX9 hkp (by have o0 := On5.out; have o1 := On8.out; have o2 := On11.out; have o3 := On14.out; have o4 := On17.out; have o5 := On20.out; have o6 := On24.out; have o7 := On28.out; omega); replace HX22 := ikR HX22 hkp (by have o0 := On5.out; have o1 := On8.out; have o2 := On11.out; have o3 := On14.out; have o4 := On17.out; have o5 := On20.out; have o6 := On24.out; have o7 := On28.out; omega); replace HX26 := ikR HX26 hkp (by have o0 := On5.out; have o1 := On8.out; have o2 := On11.out; have o3 := On14.out; have o4 := On17.out; have o5 := On20.out; have o6 := On24.out; have o7 := On28.out; omega); replace HX18 := ak hos; have hl_ := (Kd.S_reads' HX18.out).1; rw [hl_] at HX18; (try rw [hl_]); clear hl_; replace HZ := izk HZ hkp; replace HB := ak hb; clear hb hkp hos) | ((with_reducible refine gate_callee (f := 20) rfl ?_); refine goesL_ (some 69) rfl rfl Try.func20 KR rfl #[.slice Ao18 (g_).length co18, .int .i64 1] rfl AR ?_; (with_reducible refine (laws_heldStateS.calls k _ _ g_ 1 h_ _ ?side1 ?side2 E13.out).mono ?_); (case side1 => exact CR ((Kd.S_reads' HX18.out).2.2)); (case side2 => exact (Kd.S_reads' HX18.out).2.1); rintro e w134 ⟨rfl, hb⟩; refine ⟨_, rfl, ?_⟩; replace hb := hb.below; replace HX3 := Rb HX3 hb; replace HX6 := Rb HX6 hb; replace HX9 := Sb HX9 hb; replace HX18 := Sb HX18 hb; replace HX22 := Rb HX22 hb; replace HX26 := Rb HX26 hb; replace HZ := izb HZ hb; replace HB := bs HB hb; clear hb) | ((with_reducible refine gate_callee (f := 11) rfl ?_); refine goesL_ (some 76) rfl rfl Try.func11 KR rfl #[.slice A0 l0.length c0] rfl AR ?_; (with_reducible refine (laws_toOpS.calls k _ _ l0 x _ ?side1 ?side2 E3.out).mono ?_); (case side1 => exact CR (Kd.C_below HR0.out HB.out)); (case side2 => exact HC0.out); rintro e w136 ⟨v35, rfl, ho0, hb⟩; refine ⟨_, rfl, ?_⟩; obtain ⟨n37, hn37⟩ : ∃ n_, n_ = w136.heap.size := ⟨_, rfl⟩; have HX35 := iR ho0 HZ HW hn37; have On37 := ino HZ hb hn37; replace HX3 := Rb HX3 hb; replace HX6 := Rb HX6 hb; replace HX9 := Sb HX9 hb; replace HX18 := Sb HX18 hb; replace HX22 := Rb HX22 hb; replace HX26 := Rb HX26 hb; replace HZ := ak (Nat.le_of_eq hn37); have HWN_ := ak (Nat.le_trans HW.out On37.out); clear HW; have HW := HWN_; clear HWN_; replace HB := bs HB hb; clear hb ho0 hn37; obtain ⟨Ao35, co35, eo35⟩ := Kd.R_slice HX35.out; subst eo35) | ((with_reducible refine gate_callee (f := 12) rfl ?_); refine goesL_ (some 78) rfl rfl Try.func12 KR rfl #[.slice A1 l1.length c1] rfl AR ?_; (with_reducible refine (laws_toEntryS.calls k _ _ l1 y _ ?side1 ?side2 E4.out).mono ?_); (case side1 => exact CR (Kd.C_below HR1.out HB.out)); (case side2 => exact HC1.out); rintro e w139 ⟨v38, rfl, ho0, hb⟩; refine ⟨_, rfl, ?_⟩; obtain ⟨n40, hn40⟩ : ∃ n_, n_ = w139.heap.size := ⟨_, rfl⟩; have HX38 := iR ho0 HZ HW hn40; have On40 := ino HZ hb hn40; replace HX3 := Rb HX3 hb; replace HX6 := Rb HX6 hb; replace HX9 := Sb HX9 hb; replace HX18 := Sb HX18 hb; replace HX22 := Rb HX22 hb; replace HX26 := Rb HX26 hb; replace HX35 := Rb HX35 hb; replace HZ := ak (Nat.le_of_eq hn40); have HWN_ := ak (Nat.le_trans HW.out On40.out); clear HW; have HW := HWN_; clear HWN_; replace HB := bs HB hb; clear hb ho0 hn40; obtain ⟨Ao38, co38, eo38⟩ := Kd.R_slice HX38.out; subst eo38) | ((with_reducible refine gate_callee (f := 13) rfl ?_); refine goesL_ (some 79) rfl rfl Try.func13 KR rfl #[.slice Ao35 (x).length co35, .slice Ao38 (y).length co38] rfl AR ?_; (with_reducible refine (impl_TraceReplay.calls k _ _ x _ _ y g _ ?side1 ?side2 ?side3 ?side4 E6.out).mono ?_); (case side1 => exact CR ((Kd.R_reads' HX35.out).2.2)); (case side2 => exact (Kd.R_reads' HX35.out).2.1); (case side3 => exact CR ((Kd.R_reads' HX38.out).2.2)); (case side4 => exact (Kd.R_reads' HX38.out).2.1); rintro e w142 ⟨v41, rfl, ho0, hb⟩; refine ⟨_, rfl, ?_⟩; obtain ⟨n43, hn43⟩ : ∃ n_, n_ = w142.heap.size := ⟨_, rfl⟩; have HX41 := iS ho0 HZ HW hn43; have On43 := ino HZ hb hn43; replace HX3 := Rb HX3 hb; replace HX6 := Rb HX6 hb; replace HX9 := Sb HX9 hb; replace HX18 := Sb HX18 hb; replace HX22 := Rb HX22 hb; replace HX26 := Rb HX26 hb; replace HX35 := Rb HX35 hb; replace HX38 := Rb HX38 hb; replace HZ := ak (Nat.le_of_eq hn43); have HWN_ := ak (Nat.le_trans HW.out On43.out); clear HW; have HW := HWN_; clear HWN_; replace HB := bs HB hb; clear hb ho0 hn43; obtain ⟨Ao41, co41, eo41⟩ := Kd.S_slice HX41.out; subst eo41) | ((with_reducible refine gate_callee (f := 14) rfl ?_); refine goesL_ (some 82) rfl rfl Try.func14 KR rfl #[.slice Ao41 (g).length co41, .slice Ao9 (u).length co9] rfl AR ?_; (with_reducible refine (laws_eqStateS.calls k _ _ g _ _ u true _ ?side1 ?side2 ?side3 ?side4 E7.out).mono ?_); (case side1 => exact CR ((Kd.S_reads' HX41.out).2.2)); (case side2 => exact (Kd.S_reads' HX41.out).2.1); (case side3 => exact CR ((Kd.S_reads' HX9.out).2.2)); (case side4 => exact (Kd.S_reads' HX9.out).2.1); rintro e w144 ⟨rfl, hb⟩; refine ⟨_, rfl, ?_⟩; replace HX3 := Rb HX3 hb; replace HX6 := Rb HX6 hb; replace HX9 := Sb HX9 hb; replace HX18 := Sb HX18 hb; replace HX22 := Rb HX22 hb; replace HX26 := Rb HX26 hb; replace HX35 := Rb HX35 hb; replace HX38 := Rb HX38 hb; replace HX41 := Sb HX41 hb; replace HZ := izb HZ hb; replace HB := bs HB hb; clear hb) | ((with_reducible refine gate_callee (f := 20) rfl ?_); refine goesL_ (some 86) rfl rfl Try.func20 KR rfl #[.slice Ao18 (g_).length co18, .int .i64 1] rfl AR ?_; (with_reducible refine (laws_heldStateS.calls k _ _ g_ 1 h_ _ ?side1 ?side2 E13.out).mono ?_); (case side1 => exact CR ((Kd.S_reads' HX18.out).2.2)); (case side2 => exact (Kd.S_reads' HX18.out).2.1); rintro e w145 ⟨rfl, hb⟩; refine ⟨_, rfl, ?_⟩; replace hb := hb.below; replace HX3 := Rb HX3 hb; replace HX6 := Rb HX6 hb; replace HX9 := Sb HX9 hb; replace HX18 := Sb HX18 hb; replace HX22 := Rb HX22 hb; replace HX26 := Rb HX26 hb; replace HX35 := Rb HX35 hb; replace HX38 := Rb HX38 hb; replace HX41 := Sb HX41 hb; replace HZ := izb HZ hb; replace HB := bs HB hb; clear hb))
  go_ret
  exact ⟨RT, PB⟩
end Go.Proofs.Ytmhonflpbokkeaa.MFnExactTraceReplay
