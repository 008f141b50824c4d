import Derived.Test.YteemhimikamihaaGreatShr2
import Derived.Test.YteemhimikamihaaGreatMFnReplaysx0
namespace Go.Proofs.YteemhimikamihaaGreat.MFnReplays
open Go.RowKit Go.Proofs.YteemhimikamihaaGreatW.PrintWords Go.Proofs.YteemhimikamihaaGreatW.PrintLast Go.Proofs.YteemhimikamihaaGreatW.PrintMore
attribute [local go_sem] max2_int min2_int max_two min_two max_three min_three max_four min_four
set_option linter.unusedVariables false
set_option maxHeartbeats 8000000
set_option maxRecDepth 100000
set_option linter.unusedSimpArgs false

theorem eqA48 (d:Nat)(w:World)(D J:Int)(U X:Int)(Y Z:Int) :
    (Op.equalIn (d+2) 48 (.agg #[.int .i64 D,.int .i64 U,.int .i64 Y]) (.agg #[.int .i64 J,.int .i64 X,.int .i64 Z])).run Tryz.prog w = .ok (D == J && (U == X && (Y == Z))) w:=by
  refine eqA_of Tryz.underlying48 KR ?_;refine eqf_cons (by rfl) (by go_simp;rfl) (by go_simp;rfl) (by go_simp) ?_;refine eqf_cons (by rfl) (by go_simp;rfl) (by go_simp;rfl) (by go_simp) ?_;exact eqf_last (by rfl) (by go_simp;rfl) (by go_simp;rfl) (by go_simp)
def laws_big.f (D:List Int):Option (Bool):=some (decide ((D.length:Int) > 1048576))
theorem laws_big.calls (X:Option Addr)(Y:Nat)(D:List Int)(r:Bool)(w:World)(J:Kd.C (Kd.int .u8) w X D.length D)(U:D.length≤Y)(h:laws_big.f D=some r) :
  Calls Tryz.prog 4 #[.slice X D.length Y] w fun e w'=>e = .returned (.bool r)∧Drawn0 w w':=by
 have Z:=ak J;have aa:=ak U;clear J U;have H:=h;clear h;unfold laws_big.f at H;obtain rfl:=Option.some.inj H;go_enter Tryz.func4,Tryz.ntmps4;go_wp2
 go_ret
 exact⟨FR,by repeat(first|exact Drawn0.refl _ | apply Drawn0.step)⟩
/-- A state of type 96 at block g of W; what its slices lead to came in by w0. -/
def IsS96 (w0 W:World)(g:Nat)(f0:List Int)(f1:Int)(f2:Int):Prop:=∃ D J,W.heap[g]?=some (.cells #[.slice D f0.length J,.int .i64 f1,.int .i64 f2] 96 (0,0))∧w0.heap.size≤g∧Kd.C (Kd.int .u8) w0 D f0.length f0
theorem IsS96.grown {w0 W:World}{g:Nat}{f0:List Int}{f1:Int}{f2:Int}{W1:World}{row:Option Nat}(h:IsS96 w0 W g f0 f1 f2)(hw:W.grownBy W1 row)(hne:some g≠row):IsS96 w0 W1 g f0 f1 f2:=by
  obtain⟨J,U,hb,hg,D⟩:=h;exact⟨J,U,blk_grown hb hw hne,hg,D⟩
theorem IsS96.own_neN {w0 W:World}{g:Nat}{f0:List Int}{f1:Int}{f2:Int}{α:Type}{d:Kd α}{e:Nat}{base:Nat}{ok:Nat→Prop}{v:Value}{xs:List α}(h:IsS96 w0 W g f0 f1 f2)(ho:Kd.N d e W base ok v xs)(ht:e≠96):some g≠v.ownBlock:=by
  obtain⟨J,U,hb,hg,D⟩:=h;exact Kd.N_ne ho hb ht
theorem IsS96.fresh {w0 W:World}{g:Nat}{f0:List Int}{f1:Int}{f2:Int}(h:IsS96 w0 W g f0 f1 f2):∀ k,W.heap.size≤k→k≠g:=by
  obtain⟨J,U,hb,hg,D⟩:=h;exact Kd.freshB hb
theorem IsS96.kept {w0 W:World}{g:Nat}{f0:List Int}{f1:Int}{f2:Int}{W1:World}{S:Nat→Prop}(h:IsS96 w0 W g f0 f1 f2)(hk:Kept W W1 S)(hne:¬S g):IsS96 w0 W1 g f0 f1 f2:=by
  obtain⟨J,U,hb,hg,D⟩:=h;exact⟨J,U,blk_kept hb hk hne,hg,D⟩
theorem IsS96.below {w0 W:World}{g:Nat}{f0:List Int}{f1:Int}{f2:Int}{W1:World}(h:IsS96 w0 W g f0 f1 f2)(hw:Below W.heap.size W W1):IsS96 w0 W1 g f0 f1 f2:=h.grown (grown_of_below hw none) (by simp)
theorem IsS96.alloc {w0 W:World}{g:Nat}{f0:List Int}{f1:Int}{f2:Int}(h:IsS96 w0 W g f0 f1 f2)(o:Obj):IsS96 w0 (W.alloc o) g f0 f1 f2:=h.below (below_alloc (Below.refl _ _) o)
theorem IsS96.drewN {w0 W:World}{g:Nat}{f0:List Int}{f1:Int}{f2:Int}(h:IsS96 w0 W g f0 f1 f2)(m:Nat):IsS96 w0 (W.drewN m) g f0 f1 f2:=h
theorem IsS96.drew {w0 W:World}{g:Nat}{f0:List Int}{f1:Int}{f2:Int}(h:IsS96 w0 W g f0 f1 f2):IsS96 w0 W.drew g f0 f1 f2:=h
theorem IsS96.at_ {w0 W:World}{g:Nat}{f0:List Int}{f1:Int}{f2:Int}{w':World}{m:Nat}(hq:W.drewN m=w')(h:IsS96 w0 W g f0 f1 f2):IsS96 w0 w' g f0 f1 f2:=by subst hq;exact IsS96.drewN h m
theorem IsS96.apart {w0 W:World}{g:Nat}{f0:List Int}{f1:Int}{f2:Int}{α:Type}{d:Kd α}{e:Nat}{base:Nat}{ok:Nat→Prop}{v:Value}{xs:List α}(h:IsS96 w0 W g f0 f1 f2)(ho:d.R e W base ok v xs)(ht:∀ q,q∈e :: d.E→q≠96):d.R e W base (fun k=>ok k∧k≠g) v xs:=by
  obtain⟨J,U,hb,hg,D⟩:=h;exact Kd.R_types ho hb ht
theorem IsS96.own_ne {w0 W:World}{g:Nat}{f0:List Int}{f1:Int}{f2:Int}{α:Type}{d:Kd α}{e:Nat}{base:Nat}{ok:Nat→Prop}{v:Value}{xs:List α}(h:IsS96 w0 W g f0 f1 f2)(ho:d.R e W base ok v xs)(ht:e≠96):some g≠v.ownBlock:=by
  obtain⟨J,U,hb,hg,D⟩:=h;exact Kd.R_ne ho hb ht
theorem IsS96.apartQ {w0 W:World}{g:Nat}{f0:List Int}{f1:Int}{f2:Int}{α:Type}{d:Kd α}{e:Nat}{base:Nat}{ok:Nat→Prop}{v:Value}{xs:List α}(h:IsS96 w0 W g f0 f1 f2)(ho:d.Q e W base ok v xs)(ht:∀ q,q∈e :: d.E→q≠96):d.Q e W base (fun k=>ok k∧k≠g) v xs:=by
  obtain⟨J,U,hb,hg,D⟩:=h;exact Kd.Q_types ho hb ht
theorem IsS96.own_neQ {w0 W:World}{g:Nat}{f0:List Int}{f1:Int}{f2:Int}{α:Type}{d:Kd α}{e:Nat}{base:Nat}{ok:Nat→Prop}{v:Value}{xs:List α}(h:IsS96 w0 W g f0 f1 f2)(ho:d.Q e W base ok v xs)(ht:e≠96):some g≠v.ownBlock:=by
  obtain⟨J,U,hb,hg,D⟩:=h;exact Kd.Q_ne ho hb ht
theorem IsS96.apartS {w0 W:World}{g:Nat}{f0:List Int}{f1:Int}{f2:Int}{α:Type}{d:Kd α}{e:Nat}{base:Nat}{ok:Nat→Prop}{v:Value}{xs:List α}(h:IsS96 w0 W g f0 f1 f2)(ho:d.S e W base ok v xs)(ht:∀ q,q∈e :: d.E→q≠96):d.S e W base (fun k=>ok k∧k≠g) v xs:=by
  obtain⟨J,U,hb,hg,D⟩:=h;exact Kd.S_types ho hb ht
theorem IsS96.own_neS {w0 W:World}{g:Nat}{f0:List Int}{f1:Int}{f2:Int}{α:Type}{d:Kd α}{e:Nat}{base:Nat}{ok:Nat→Prop}{v:Value}{xs:List α}(h:IsS96 w0 W g f0 f1 f2)(ho:d.S e W base ok v xs)(ht:e≠96):some g≠v.ownBlock:=by
  obtain⟨J,U,hb,hg,D⟩:=h;exact Kd.S_ne ho hb ht
theorem IsS96.lt {w0 W:World}{g:Nat}{f0:List Int}{f1:Int}{f2:Int}(h:IsS96 w0 W g f0 f1 f2):g < W.heap.size:=by
  obtain⟨J,U,hb,hg,D⟩:=h;exact blk_lt hb
theorem IsS96.ge {w0 W:World}{g:Nat}{f0:List Int}{f1:Int}{f2:Int}(h:IsS96 w0 W g f0 f1 f2):w0.heap.size≤g:=by
  obtain⟨J,U,hb,hg,D⟩:=h;exact hg
theorem IsS96.ne_blk {w0 W:World}{g:Nat}{f0:List Int}{f1:Int}{f2:Int}{a:Nat}{cs:Array Value}{t:TypeId}{fr:Nat×Nat}(h:IsS96 w0 W g f0 f1 f2)(hb2:W.heap[a]?=some (.cells cs t fr))(ht:t≠96):g≠a:=by
  obtain⟨J,U,hb,hg,D⟩:=h;rintro rfl;rw[hb] at hb2
  injection hb2 with hb2
  injection hb2 with _ ht2
  exact ht ht2.symm
theorem IsS96.far {w0 W:World}{g:Nat}{f0:List Int}{f1:Int}{f2:Int}{p:Addr}(h:IsS96 w0 W g f0 f1 f2)(hne:g≠p.block)(u:Value):IsS96 w0 (W.setCell p u) g f0 f1 f2:=by
  obtain⟨J,U,hb,hg,D⟩:=h;exact⟨J,U,blk_far hb hne u,hg,D⟩
theorem cellS96_0 {W:World}{g:Nat}{D:Option Addr}{J:Nat}{f0:List Int}{f1:Int}{f2:Int}(h:W.heap[g]?=some (.cells #[.slice D f0.length J,.int .i64 f1,.int .i64 f2] 96 (0,0))):W.cell? ⟨g,0,none⟩=some (.slice D f0.length J):=(blk_cell h 0).trans rfl
theorem cellS96_1 {W:World}{g:Nat}{D:Option Addr}{J:Nat}{f0:List Int}{f1:Int}{f2:Int}(h:W.heap[g]?=some (.cells #[.slice D f0.length J,.int .i64 f1,.int .i64 f2] 96 (0,0))):W.cell? ⟨g,1,none⟩=some (.int .i64 f1):=(blk_cell h 1).trans rfl
theorem IsS96.set_1 {w0 W:World}{g:Nat}{f0:List Int}{f1:Int}{f2:Int}(h:IsS96 w0 W g f0 f1 f2)(x:Int):IsS96 w0 (W.setCell ⟨g,1,none⟩ (.int .i64 x)) g f0 x f2:=by
  obtain⟨J,U,hb,hg,D⟩:=h;exact⟨J,U,by simpa using blk_set hb 1 (.int .i64 x),hg,D⟩
theorem cellS96_2 {W:World}{g:Nat}{D:Option Addr}{J:Nat}{f0:List Int}{f1:Int}{f2:Int}(h:W.heap[g]?=some (.cells #[.slice D f0.length J,.int .i64 f1,.int .i64 f2] 96 (0,0))):W.cell? ⟨g,2,none⟩=some (.int .i64 f2):=(blk_cell h 2).trans rfl
theorem IsS96.set_2 {w0 W:World}{g:Nat}{f0:List Int}{f1:Int}{f2:Int}(h:IsS96 w0 W g f0 f1 f2)(x:Int):IsS96 w0 (W.setCell ⟨g,2,none⟩ (.int .i64 x)) g f0 f1 x:=by
  obtain⟨J,U,hb,hg,D⟩:=h;exact⟨J,U,by simpa using blk_set hb 2 (.int .i64 x),hg,D⟩
theorem IsS96.new (w0 W:World)(D:Option Addr)(J:Nat)(f0:List Int)(f1:Int)(f2:Int)(hB:Below w0.heap.size w0 W)(U:Kd.C (Kd.int .u8) w0 D f0.length f0):IsS96 w0 (W.alloc (.cells #[.slice D f0.length J,.int .i64 f1,.int .i64 f2] 96)) W.heap.size f0 f1 f2:=⟨D,J,by simpa using heap_alloc_new W _,hB.size,U⟩
def spec_l1New.l0:Nat→List Int→Int→Int→Option (List Int×Int×Int)
  | 0,_,_,_=>none
  | k+1,D,U,J=>if J < (D.length:Int) then(if J < 4000 then(if 0≤J then(spec_l1New.l0 k D (Go.bits .and .i64 (wrap64 ((wrap64 ((wrap64 (U * 137))+(wrap64 (rd D J))))+11)) 1073741823) (wrap64 (J+1))) else(none)) else(some (D,0,U))) else(some (D,0,U))
def spec_l1New.f (k:Nat)(D:List Int):Option (List Int×Int×Int):=spec_l1New.l0 k D (wrap64 (193017+(D.length:Int))) 0
theorem spec_l1New.calls (k:Nat)(A0:Option Addr)(c0:Nat)(U:List Int)(r1:List Int)(r2:Int)(r3:Int)(w0 w:World)(hB:Below w0.heap.size w0 w)(au:Kd.C (Kd.int .u8) w0 A0 U.length U)(av:U.length≤c0)(h:spec_l1New.f k U=some (r1,r2,r3)) :
  Calls Tryz.prog 31 #[.slice A0 U.length c0] w fun e w'=>∃ g_:Nat,e = .returned (.pointer (some ⟨g_,0,none⟩))∧IsS96 w0 w' g_ r1 r2 r3∧Below w0.heap.size w0 w'∧Below w.heap.size w w':=by
 have bb:=Tryz.underlying96;have ag:=ak au;have bg:=ak av;clear au av;have HBW:=ak (Below.refl w.heap.size w);have HW0:=ak hB.size;have HB:=ak hB;clear hB;have H:=h;clear h;unfold spec_l1New.f at H;have H':=ak H;clear H;go_enter Tryz.func31,Tryz.ntmps31;go_wp2
 go_loopg [3,4] k (fun kq v3 v4 w'=>∃(J:Int)(D:Int),v3 = .int .i64 J∧v4 = .int .i64 D∧Aside0 (spec_l1New.l0 kq U J D=some (r1,r2,r3))∧Aside0 (kq≤k)∧Aside0 (Below w0.heap.size w0 w')∧Aside0 (Below w.heap.size w w'))
 case atStart=>exact⟨(wrap64 (193017+(U.length:Int))),(0),FR,FR,H',⟨Nat.le_refl _⟩,⟨PB⟩,⟨by repeat(first|(with_reducible first|exact HBW.out | apply below_alloc | apply pw_below_drewN | apply below_drew1)|exact HBW.out)⟩⟩
 case round =>
  clear H';obtain⟨J,D,rfl,rfl,HA,aw,HB,HBW⟩:=hrel
  cases gk with
  | zero=>exact absurd HA.out (by simp[spec_l1New.l0])
  | succ k1 =>
   have H:=HA.out;clear HA;simp only[spec_l1New.l0] at H
   by_cases c2:D < (U.length:Int)
   ·rw[if_pos c2] at H;have ax:=decide_eq_true c2;clear c2
    by_cases c3:D < 4000
    ·rw[if_pos c3] at H;have ay:=decide_eq_true c3;clear c3
     by_cases c4:0≤D
     ·rw[if_pos c4] at H;have bf:=decide_eq_true c4;clear c4;have H':=ak H;clear H;have aa:0≤(D:Int):=od;have ab:D < (U.length:Int):=od;obtain⟨ba,az,Z⟩:=Kd.at_int ag.out D aa ab;cases az;replace Z:=pw_cell_below HB.out Z;replace aa:=eq_true aa;replace ab:=eq_true ab;go_wp2
      go_roundg k1
      case measure=>have:=aw.out;omega
      case rel=>exact⟨(Go.bits .and .i64 (wrap64 ((wrap64 ((wrap64 (J * 137))+(wrap64 (rd U D))))+11)) 1073741823),(wrap64 (D+1)),FR,FR,H',⟨by have:=aw.out;omega⟩,⟨PB⟩,⟨by repeat(first|(with_reducible first|exact HBW.out | apply below_alloc | apply pw_below_drewN | apply below_drew1)|exact HBW.out)⟩⟩
     ·rw[if_neg c4] at H;exact absurd H (by simp)
    ·rw[if_neg c3] at H;have ay:=decide_eq_false c3;clear c3;simp only[Option.some.injEq,Prod.mk.injEq] at H;obtain⟨rfl,rfl,rfl⟩:=H;go_wp2_with (first|((with_reducible refine gate_dst (N:=31) rfl ?_);refine bx_ (N:=31) #[.slice A0 U.length c0,.int .i64 0,.int .i64 J] 96 ?_;intro X hg w5 hbox hb;replace HB:=bs HB hb;have al:=ak hbox;have am:=ak ((by rw[hg];exact(below_size (by repeat(first|(with_reducible first|exact HBW.out | apply below_alloc | apply pw_below_drewN | apply below_drew1)|exact HBW.out))):w.heap.size≤X));have ao:=ak ((Nat.le_trans HW0.out (by rw[hg];exact(below_size (by repeat(first|(with_reducible first|exact HBW.out | apply below_alloc | apply pw_below_drewN | apply below_drew1)|exact HBW.out))):w.heap.size≤X):w0.heap.size≤X));replace HBW:=ak (below_step HBW.out hb);clear hb hbox hg))
     go_ret
     exact⟨_,rfl,(show IsS96 w0 _ X U 0 J from⟨_,_,by(with_reducible repeat(first|refine blk_drewN ?_ _ | refine blk_drew ?_ | refine blk_alloc ?_ _));exact al.out,ao.out,ag.out⟩),PB,by repeat(first|(with_reducible first|exact HBW.out | apply below_alloc | apply pw_below_drewN | apply below_drew1 | refine below_set ?_ am.out)|exact HBW.out)⟩
   ·rw[if_neg c2] at H;have ax:=decide_eq_false c2;clear c2;simp only[Option.some.injEq,Prod.mk.injEq] at H;obtain⟨rfl,rfl,rfl⟩:=H;go_wp2_with (first|((with_reducible refine gate_dst (N:=31) rfl ?_);refine bx_ (N:=31) #[.slice A0 U.length c0,.int .i64 0,.int .i64 J] 96 ?_;intro Y hg w6 hbox hb;replace HB:=bs HB hb;have ap:=ak hbox;have aq:=ak ((by rw[hg];exact(below_size (by repeat(first|(with_reducible first|exact HBW.out | apply below_alloc | apply pw_below_drewN | apply below_drew1)|exact HBW.out))):w.heap.size≤Y));have ar:=ak ((Nat.le_trans HW0.out (by rw[hg];exact(below_size (by repeat(first|(with_reducible first|exact HBW.out | apply below_alloc | apply pw_below_drewN | apply below_drew1)|exact HBW.out))):w.heap.size≤Y):w0.heap.size≤Y));replace HBW:=ak (below_step HBW.out hb);clear hb hbox hg))
    go_ret
    exact⟨_,rfl,(show IsS96 w0 _ Y U 0 J from⟨_,_,by(with_reducible repeat(first|refine blk_drewN ?_ _ | refine blk_drew ?_ | refine blk_alloc ?_ _));exact ap.out,ar.out,ag.out⟩),PB,by repeat(first|(with_reducible first|exact HBW.out | apply below_alloc | apply pw_below_drewN | apply below_drew1 | refine below_set ?_ aq.out)|exact HBW.out)⟩
def spec_l1Byte.f (s0_0:List Int)(s0_1:Int)(s0_2:Int):Option (Int×Int×Int):=if s0_1 < (s0_0.length:Int) then(if 0≤s0_1 then(some (Go.bits .and .i64 (wrap64 ((Go.bits .and .i64 (Go.bits .xor .i64 ((wrap64 ((wrap64 (s0_2 * 6364136223846793005))+1442695040888963407)) / 8589934592) ((wrap64 ((wrap64 (s0_2 * 6364136223846793005))+1442695040888963407)) / 140737488355328)) 255)+(wrap64 (rd s0_0 s0_1)))) 255,wrap64 (s0_1+1),wrap64 ((wrap64 (s0_2 * 6364136223846793005))+1442695040888963407))) else(none)) else(some (Go.bits .and .i64 (Go.bits .xor .i64 ((wrap64 ((wrap64 (s0_2 * 6364136223846793005))+1442695040888963407)) / 8589934592) ((wrap64 ((wrap64 (s0_2 * 6364136223846793005))+1442695040888963407)) / 140737488355328)) 255,s0_1,wrap64 ((wrap64 (s0_2 * 6364136223846793005))+1442695040888963407)))
theorem spec_l1Byte.calls (g:Nat)(s0_0:List Int)(s0_1:Int)(s0_2:Int)(r1:Int)(r2:Int)(r3:Int)(w0 w:World)(hI:IsS96 w0 w g s0_0 s0_1 s0_2)(hB:Below w0.heap.size w0 w)(h:spec_l1Byte.f s0_0 s0_1 s0_2=some (r1,r2,r3)) :
  Calls Tryz.prog 55 #[.pointer (some ⟨g,0,none⟩)] w fun e w'=>e = .returned (.int .i64 r1)∧IsS96 w0 w' g s0_0 r2 r3∧Below w0.heap.size w0 w'∧KeepBut w w' g none:=by
 have HI0:=ak hI;have HK:=ak (KeepBut.refl w g none);have HL:=ak hB.size;clear hI;have HW0:=ak hB.size;have HB:=ak hB;clear hB;have H:=h;clear h;unfold spec_l1Byte.f at H
 by_cases X:s0_1 < (s0_0.length:Int)
 ·rw[if_pos X] at H;have aa:=decide_eq_true X;clear X
  by_cases Y:0≤s0_1
  ·rw[if_pos Y] at H;have aq:=decide_eq_true Y;clear Y;simp only[Option.some.injEq,Prod.mk.injEq] at H;obtain⟨rfl,rfl,rfl⟩:=H;obtain⟨ASz4_0,cSz4_0,HGz4,hgz4,HSz4_0⟩:=HI0.out;have ac:=cellS96_0 HGz4;have ae:=cellS96_1 HGz4;have ag:=cellS96_2 HGz4;have ah:=blk_frozen HGz4 1;have ai:=blk_frozen HGz4 2;clear HGz4 hgz4;have J:0≤(s0_1:Int):=od;have U:s0_1 < (s0_0.length:Int):=od;obtain⟨Z,ab,D⟩:=Kd.at_int HSz4_0 s0_1 J U;cases ab;have hn104_0:Z.block≠g:=Nat.ne_of_lt (Nat.lt_of_lt_of_le (by have:=World.block_lt_of_cell? _ _ D;first|rwa [add_block] at this | exact this) (IsS96.ge HI0.out));replace D:=pw_cell_below HB.out D;replace D:=(cell_far (p:=⟨g,2,none⟩) (by first|(rw[add_block];exact hn104_0)|(show(Addr.add _ _).block≠_;rw[add_block];exact hn104_0)|exact hn104_0) (.int .i64 (wrap64 ((wrap64 (s0_2 * 6364136223846793005))+1442695040888963407)))).trans D;(try have hy104_0:=fun(n_:Nat)=>(show(((w.drewN n_).setCell ⟨g,2,none⟩ (.int .i64 (wrap64 ((wrap64 (s0_2 * 6364136223846793005))+1442695040888963407))))).cell? _=some _ from D));clear hn104_0;replace J:=eq_true J;replace U:=eq_true U;go_enter Tryz.func55,Tryz.ntmps55;go_wp2
   repeat(go_quiet (fail);try go_wp2)
   go_ret
   exact⟨RT,PI,PL,PH⟩
  ·rw[if_neg Y] at H;exact absurd H (by simp)
 ·rw[if_neg X] at H;have aa:=decide_eq_false X;clear X;simp only[Option.some.injEq,Prod.mk.injEq] at H;obtain⟨rfl,rfl,rfl⟩:=H;obtain⟨ASz5_0,cSz5_0,HGz5,hgz5,HSz5_0⟩:=HI0.out;have aj:=cellS96_0 HGz5;have al:=cellS96_1 HGz5;have am:=cellS96_2 HGz5;have ao:=blk_frozen HGz5 1;have ap:=blk_frozen HGz5 2;clear HGz5 hgz5;go_enter Tryz.func55,Tryz.ntmps55;go_wp2
  repeat(go_quiet (fail);try go_wp2)
  go_ret
  exact⟨RT,PI,PL,PH⟩
def spec_l1Below.f (s0_0:List Int)(s0_1:Int)(s0_2:Int)(Y:Int):Option (Int×Int×Int):=if Y≤0 then(some (0,s0_1,s0_2)) else(if Y≤256 then((spec_l1Byte.f s0_0 s0_1 s0_2).bind fun D=>(if Y=0 then(none) else(some (Int.tmod D.1 Y,D.2.1,D.2.2)))) else((spec_l1Byte.f s0_0 s0_1 s0_2).bind fun J=>((spec_l1Byte.f s0_0 J.2.1 J.2.2).bind fun U=>((spec_l1Byte.f s0_0 U.2.1 U.2.2).bind fun X=>(if Y=0 then(none) else(some (Int.tmod (wrap64 ((wrap64 ((wrap64 (J.1 * 65536))+(wrap64 (U.1 * 256))))+X.1)) Y,X.2.1,X.2.2)))))))
theorem spec_l1Below.calls (g:Nat)(s0_0:List Int)(s0_1:Int)(s0_2:Int)(D:Int)(r1:Int)(r2:Int)(r3:Int)(w0 w:World)(hI:IsS96 w0 w g s0_0 s0_1 s0_2)(hB:Below w0.heap.size w0 w)(h:spec_l1Below.f s0_0 s0_1 s0_2 D=some (r1,r2,r3)) :
  Calls Tryz.prog 35 #[.pointer (some ⟨g,0,none⟩),.int .i64 D] w fun e w'=>e = .returned (.int .i64 r1)∧IsS96 w0 w' g s0_0 r2 r3∧Below w0.heap.size w0 w'∧KeepBut w w' g none:=by
 have HI0:=ak hI;have HK:=ak (KeepBut.refl w g none);have HL:=ak hB.size;clear hI;have HW0:=ak hB.size;have HB:=ak hB;clear hB;have H:=h;clear h;unfold spec_l1Below.f at H
 by_cases U:D≤0
 ·rw[if_pos U] at H;have aj:=decide_eq_true U;clear U;simp only[Option.some.injEq,Prod.mk.injEq] at H;obtain⟨rfl,rfl,rfl⟩:=H;go_enter Tryz.func35,Tryz.ntmps35;go_wp2
  go_ret
  exact⟨RT,PI,PL,PH⟩
 ·rw[if_neg U] at H;have aj:=decide_eq_false U;clear U
  by_cases X:D≤256
  ·rw[if_pos X] at H;have al:=decide_eq_true X;clear X;obtain⟨⟨am,ao,ap⟩,A5,H⟩:=obq H;(try dsimp only at H)
   by_cases c6:D=0
   ·rw[if_pos c6] at H;exact absurd H (by simp)
   ·rw[if_neg c6] at H;obtain⟨bb,bc⟩:=eqq2 c6;simp only[Option.some.injEq,Prod.mk.injEq] at H;obtain⟨rfl,rfl,rfl⟩:=H;go_enter Tryz.func35,Tryz.ntmps35;go_wp2_with (first|(go_at_call 55;(with_reducible refine(spec_l1Byte.calls g s0_0 s0_1 s0_2 am ao ap w0 _ ?side1 ?side2 A5.out).mono ?_);(case side1=>exact PI);(case side2=>exact PL);rintro e w7 ⟨rfl,hi,hb,hk⟩;replace HK:=kt HK hk;replace HB:=ak hb;replace HI0:=ak (hi);clear hb hk hi))
    go_ret
    exact⟨RT,PI,PL,PH⟩
  ·rw[if_neg X] at H;have al:=decide_eq_false X;clear X;obtain⟨⟨aq,Y,Z⟩,A8,H⟩:=obq H;(try dsimp only at H);obtain⟨⟨ar,aa,ab⟩,A9,H⟩:=obq H;(try dsimp only at H);obtain⟨⟨au,av,aw⟩,ax,H⟩:=obq H;(try dsimp only at H)
   by_cases J:D=0
   ·rw[if_pos J] at H;exact absurd H (by simp)
   ·rw[if_neg J] at H;obtain⟨ay,az⟩:=eqq2 J;simp only[Option.some.injEq,Prod.mk.injEq] at H;obtain⟨rfl,rfl,rfl⟩:=H;go_enter Tryz.func35,Tryz.ntmps35;go_wp2_with (first|((with_reducible refine gate_callee (f:=55) rfl ?_);refine goesL_ (some 17) rfl rfl Tryz.func55 KR rfl #[.pointer (some ⟨g,0,none⟩)] rfl AR ?_;(with_reducible refine(spec_l1Byte.calls g s0_0 s0_1 s0_2 aq Y Z w0 _ ?side1 ?side2 A8.out).mono ?_);(case side1=>exact PI);(case side2=>exact PL);rintro e bg ⟨rfl,hi,hb,hk⟩;refine⟨_,rfl,?_⟩;replace HK:=kt HK hk;replace HB:=ak hb;replace HI0:=ak (hi);clear hb hk hi)|((with_reducible refine gate_callee (f:=55) rfl ?_);refine goesL_ (some 19) rfl rfl Tryz.func55 KR rfl #[.pointer (some ⟨g,0,none⟩)] rfl AR ?_;(with_reducible refine(spec_l1Byte.calls g s0_0 Y Z ar aa ab w0 _ ?side1 ?side2 A9.out).mono ?_);(case side1=>exact PI);(case side2=>exact PL);rintro e bh ⟨rfl,hi,hb,hk⟩;refine⟨_,rfl,?_⟩;replace HK:=kt HK hk;replace HB:=ak hb;replace HI0:=ak (hi);clear hb hk hi)|((with_reducible refine gate_callee (f:=55) rfl ?_);refine goesL_ (some 21) rfl rfl Tryz.func55 KR rfl #[.pointer (some ⟨g,0,none⟩)] rfl AR ?_;(with_reducible refine(spec_l1Byte.calls g s0_0 aa ab au av aw w0 _ ?side1 ?side2 ax.out).mono ?_);(case side1=>exact PI);(case side2=>exact PL);rintro e bi ⟨rfl,hi,hb,hk⟩;refine⟨_,rfl,?_⟩;replace HK:=kt HK hk;replace HB:=ak hb;replace HI0:=ak (hi);clear hb hk hi))
    go_ret
    exact⟨RT,PI,PL,PH⟩
def spec_l1Once.f (s0_0:List Int)(s0_1:Int)(s0_2:Int)(J:Int):Option (Bool×Int×Int):=(spec_l1Below.f s0_0 s0_1 s0_2 J).bind fun D=>(some ((D.1 == 0),D.2.1,D.2.2))
theorem spec_l1Once.calls (g:Nat)(s0_0:List Int)(s0_1:Int)(s0_2:Int)(D:Int)(r1:Bool)(r2:Int)(r3:Int)(w0 w:World)(hI:IsS96 w0 w g s0_0 s0_1 s0_2)(hB:Below w0.heap.size w0 w)(h:spec_l1Once.f s0_0 s0_1 s0_2 D=some (r1,r2,r3)) :
  Calls Tryz.prog 69 #[.pointer (some ⟨g,0,none⟩),.int .i64 D] w fun e w'=>e = .returned (.bool r1)∧IsS96 w0 w' g s0_0 r2 r3∧Below w0.heap.size w0 w'∧KeepBut w w' g none:=by
 have HI0:=ak hI;have HK:=ak (KeepBut.refl w g none);have HL:=ak hB.size;clear hI;have HW0:=ak hB.size;have HB:=ak hB;clear hB;have H:=h;clear h;unfold spec_l1Once.f at H;obtain⟨⟨U,X,Y⟩,Z,H⟩:=obq H;(try dsimp only at H);simp only[Option.some.injEq,Prod.mk.injEq] at H;obtain⟨rfl,rfl,rfl⟩:=H;go_enter Tryz.func69,Tryz.ntmps69;go_wp2_with (first|(go_at_call 35;(with_reducible refine(spec_l1Below.calls g s0_0 s0_1 s0_2 D U X Y w0 _ ?side1 ?side2 Z.out).mono ?_);(case side1=>exact PI);(case side2=>exact PL);rintro e w4 ⟨rfl,hi,hb,hk⟩;replace HK:=kt HK hk;replace HB:=ak hb;replace HI0:=ak (hi);clear hb hk hi))
 go_ret
 exact⟨RT,PI,PL,PH⟩

def spec_l10Op.j0:Nat→List Int→Int→Int→Int→Int→Int→Int→Option (Int×Int×Int×Int×Int×Int)
  | 0,_,_,_,_,_,_,_=>none
  | k+1,U,Y,Z,D,J,al,X=>if D=1 then((spec_l1Below.f U Y Z 3).bind fun aa=>((spec_l1Below.f U aa.2.1 aa.2.2 3).bind fun ab=>(some (D,J,wrap64 (1+aa.1),ab.1,ab.2.1,ab.2.2)))) else(if D=5 then((spec_l1Below.f U Y Z 4).bind fun ac=>((spec_l1Below.f U ac.2.1 ac.2.2 4).bind fun ae=>(some (D,J,ac.1,ae.1,ae.2.1,ae.2.2)))) else(if D=6 then((spec_l1Below.f U Y Z 4).bind fun ag=>(some (D,J,ag.1,X,ag.2.1,ag.2.2))) else(if D=7 then((spec_l1Below.f U Y Z 3).bind fun ah=>(some (D,J,wrap64 (1+ah.1),X,ah.2.1,ah.2.2))) else(if D=8 then((spec_l1Below.f U Y Z 3).bind fun ai=>(some (D,J,ai.1,X,ai.2.1,ai.2.2))) else(if D=9 then((spec_l1Below.f U Y Z 3).bind fun aj=>(some (D,J,aj.1,X,aj.2.1,aj.2.2))) else(some (D,J,al,X,Y,Z)))))))
def spec_l10Op.f (k:Nat)(s0_0:List Int)(s0_1:Int)(s0_2:Int):Option (Int×Int×Int×Int×Int×Int):=(spec_l1Below.f s0_0 s0_1 s0_2 9).bind fun U=>((spec_l1Below.f s0_0 U.2.1 U.2.2 3).bind fun J=>((spec_l1Once.f s0_0 J.2.1 J.2.2 3).bind fun D=>(if D.1=true then(spec_l10Op.j0 k s0_0 D.2.1 D.2.2 1 J.1 0 0) else(spec_l10Op.j0 k s0_0 D.2.1 D.2.2 (wrap64 (1+U.1)) J.1 0 0))))
theorem spec_l10Op.calls (k:Nat)(g:Nat)(s0_0:List Int)(s0_1:Int)(s0_2:Int)(r1:Int)(r2:Int)(r3:Int)(r4:Int)(r5:Int)(r6:Int)(w0 w:World)(hI:IsS96 w0 w g s0_0 s0_1 s0_2)(hB:Below w0.heap.size w0 w)(h:spec_l10Op.f k s0_0 s0_1 s0_2=some (r1,r2,r3,r4,r5,r6)) :
  Calls Tryz.prog 51 #[.pointer (some ⟨g,0,none⟩)] w fun e w'=>e = .returned (.agg #[.int .i64 r1,.int .i64 r2,.int .i64 r3,.int .i64 r4])∧IsS96 w0 w' g s0_0 r5 r6∧Below w0.heap.size w0 w'∧KeepBut w w' g none:=by
 have fy:=Tryz.underlying57;have HI0:=ak hI;have HK:=ak (KeepBut.refl w g none);have HL:=ak hB.size;clear hI;have HW0:=ak hB.size;have HB:=ak hB;clear hB;have H:=h;clear h;unfold spec_l10Op.f at H;obtain⟨⟨aw,bv,bw⟩,A2,H⟩:=obq H;(try dsimp only at H);obtain⟨⟨ac,ar,au⟩,A3,H⟩:=obq H;(try dsimp only at H);obtain⟨⟨bx,ah,ai⟩,A4,H⟩:=obq H;(try dsimp only at H);have bz:=ak H;clear H;go_enter Tryz.func51,Tryz.ntmps51
 go_upto_if 11 with (first|((with_reducible refine gate_dst (N:=2) rfl ?_);refine bx_ (N:=2) #[.int .i64 0,.int .i64 0,.int .i64 0,.int .i64 0] 57 ?_;intro ag hg w6 hbox hb;replace HB:=bs HB hb;have J:=ak hbox;have dz:=ak (kz hg HK);have d7:=ak (Nat.le_trans HW0.out (kz hg HK));replace HK:=kt HK (KeepBut.of_below hb g none);have ae:=ak (nh hg (IsS96.lt (show IsS96 w0 _ g s0_0 s0_1 s0_2 from PI)));have X:=ak (ng hg (IsS96.lt (show IsS96 w0 _ g s0_0 s0_1 s0_2 from PI)));replace HI0:=ak (IsS96.below PI hb);clear hb hbox hg)|((with_reducible refine gate_callee (f:=35) rfl ?_);refine goesL_ (some 5) rfl rfl Tryz.func35 KR rfl #[.pointer (some ⟨g,0,none⟩),.int .i64 9] rfl AR ?_;(with_reducible refine(spec_l1Below.calls g s0_0 s0_1 s0_2 9 aw bv bw w0 _ ?side1 ?side2 A2.out).mono ?_);(case side1=>exact PI);(case side2=>exact PL);rintro e w7 ⟨rfl,hi,hb,hk⟩;refine⟨_,rfl,?_⟩;replace J:=kq hk J X;replace HK:=kt HK hk;replace HB:=ak hb;replace HI0:=ak (hi);clear hb hk hi)|((with_reducible refine gate_callee (f:=35) rfl ?_);refine goesL_ (some 8) rfl rfl Tryz.func35 KR rfl #[.pointer (some ⟨g,0,none⟩),.int .i64 3] rfl AR ?_;(with_reducible refine(spec_l1Below.calls g s0_0 bv bw 3 ac ar au w0 _ ?side1 ?side2 A3.out).mono ?_);(case side1=>exact PI);(case side2=>exact PL);rintro e w8 ⟨rfl,hi,hb,hk⟩;refine⟨_,rfl,?_⟩;replace J:=kq hk J X;replace HK:=kt HK hk;replace HB:=ak hb;replace HI0:=ak (hi);clear hb hk hi)|((with_reducible refine gate_dst (N:=3) rfl ?_);refine bx_ (N:=3) #[.int .i64 0,.int .i64 0,.int .i64 0,.int .i64 0] 57 ?_;intro cm hg w9 hbox hb;replace HB:=bs HB hb;have U:=ak hbox;have d8:=ak (kz hg HK);have d9:=ak (Nat.le_trans HW0.out (kz hg HK));replace HK:=kt HK (KeepBut.of_below hb g none);have Z:=gm hg J;have aa:=gn hg J;replace J:=kf J hb;have ab:=ak (nh hg (IsS96.lt (show IsS96 w0 _ g s0_0 ar au from PI)));have Y:=ak (ng hg (IsS96.lt (show IsS96 w0 _ g s0_0 ar au from PI)));replace HI0:=ak (IsS96.below PI hb);clear hb hbox hg;have ea:=aa.out;have eb:=Z.out;have ec:=Y.out;have ed:=ab.out;obtain⟨ba,bb,bc,bd,bf,bg,bh,bi⟩:=bc4 U)|((with_reducible refine gate_callee (f:=69) rfl ?_);refine goesL_ (some 11) rfl rfl Tryz.func69 KR rfl #[.pointer (some ⟨g,0,none⟩),.int .i64 3] rfl AR ?_;(with_reducible refine(spec_l1Once.calls g s0_0 ar au 3 bx ah ai w0 _ ?side1 ?side2 A4.out).mono ?_);(case side1=>exact PI);(case side2=>exact PL);rintro e f2 ⟨rfl,hi,hb,hk⟩;refine⟨_,rfl,?_⟩;replace J:=kq hk J X;replace U:=kr (cs':=#[.int .i64 (wrap64 (1+aw)),.int .i64 ac,.int .i64 0,.int .i64 0]) hk U Y;replace HK:=kt HK hk;replace HB:=ak hb;replace HI0:=ak (hi);clear hb hk hi))
 (try simp only[Act.put,List.setIfInBounds_toArray,List.set_cons_zero,List.set_cons_succ])
 go_cut [] (fun wc=>∃(kq:Nat)(D:Int),Aside0 (spec_l10Op.j0 kq s0_0 ah ai D ac 0 0=some (r1,r2,r3,r4,r5,r6))∧Aside0 (kq≤k)∧Aside0 (wc.heap[ag]?=some (.cells #[.int .i64 0,.int .i64 0,.int .i64 0,.int .i64 0] 57 (0,0)))∧Aside0 (wc.heap[cm]?=some (.cells #[.int .i64 D,.int .i64 ac,.int .i64 0,.int .i64 0] 57 (0,0)))∧Aside0 (IsS96 w0 wc g s0_0 ah ai)∧Aside0 (KeepBut w wc g none)∧Aside0 (Below w0.heap.size w0 wc))
 case first =>
  have H:=bz.out;clear bz
  by_cases av:bx=true
  ·subst av;rw[if_pos rfl] at H;have H':=ak H;clear H;have ee:=aa.out;have ef:=Z.out;have eg:=Y.out;have eh:=ab.out;obtain⟨bj,bk,bl,bm,bo,bp,br,bu⟩:=bc4 U;go_wp2
   go_meet
   case rel=>exact⟨_,(1),H',⟨by first|omega | exact Nat.le_refl _⟩,⟨PF J⟩,⟨PX U⟩,⟨PI⟩,⟨PH⟩,⟨PL⟩⟩
  ·replace av:=Bool.eq_false_iff.mpr av;subst av;rw[if_neg nft] at H;have H':=ak H;clear H;go_wp2
   go_meet
   case rel=>exact⟨_,(wrap64 (1+aw)),H',⟨by first|omega | exact Nat.le_refl _⟩,⟨PK J⟩,⟨PK U⟩,⟨PI⟩,⟨PH⟩,⟨PL⟩⟩
 case rest =>
  clear bz;(try clear c1);(try clear p2);(try clear c3);(try clear c5);(try clear c6);(try clear p6);(try clear f3);(try clear f4);(try clear av);(try clear f5);(try clear f6);(try clear ba);(try clear bb);(try clear bc);(try clear bd);(try clear bj);(try clear bk);(try clear bl);(try clear bm);(try clear bf);(try clear bg);(try clear bh);(try clear bi);(try clear bo);(try clear bp);(try clear br);(try clear bu);obtain⟨kq,D,HA,f7,J,U,HI0,HK,HB⟩:=hcut
  cases kq with
  | zero=>exact absurd HA.out (by simp[spec_l10Op.j0])
  | succ kj4 =>
   have H:=HA.out;clear HA;simp only[spec_l10Op.j0] at H
   by_cases aj:D=1
   ·rw[if_pos aj] at H;obtain⟨cn,co⟩:=eqq1 aj;clear aj;obtain⟨⟨ax,b0,b4⟩,dr,H⟩:=obq H;(try dsimp only at H);obtain⟨⟨b6,dc,de⟩,az,H⟩:=obq H;(try dsimp only at H);simp only[Option.some.injEq,Prod.mk.injEq] at H;obtain⟨rfl,rfl,rfl,rfl,rfl,rfl⟩:=H;have ei:=aa.out;have ej:=Z.out;have ek:=Y.out;have el:=ab.out;obtain⟨_,_,_,_,_,_,_,_⟩:=bc4 U;go_wp2_with (first|((with_reducible refine gate_callee (f:=35) rfl ?_);refine goesL_ (some 18) rfl rfl Tryz.func35 KR rfl #[.pointer (some ⟨g,0,none⟩),.int .i64 3] rfl AR ?_;(with_reducible refine(spec_l1Below.calls g s0_0 ah ai 3 ax b0 b4 w0 _ ?side1 ?side2 dr.out).mono ?_);(case side1=>exact PI);(case side2=>exact PL);rintro e f8 ⟨rfl,hi,hb,hk⟩;refine⟨_,rfl,?_⟩;replace J:=kq hk J X;replace U:=kq hk U Y;replace HK:=kt HK hk;replace HB:=ak hb;replace HI0:=ak (hi);clear hb hk hi;obtain⟨_,_,_,_,_,_,_,_⟩:=bc4 U)|((with_reducible refine gate_callee (f:=35) rfl ?_);refine goesL_ (some 22) rfl rfl Tryz.func35 KR rfl #[.pointer (some ⟨g,0,none⟩),.int .i64 3] rfl AR ?_;(with_reducible refine(spec_l1Below.calls g s0_0 b0 b4 3 b6 dc de w0 _ ?side1 ?side2 az.out).mono ?_);(case side1=>exact PI);(case side2=>exact PL);rintro e f9 ⟨rfl,hi,hb,hk⟩;refine⟨_,rfl,?_⟩;replace J:=kq hk J X;replace U:=kr (cs':=#[.int .i64 D,.int .i64 ac,.int .i64 (wrap64 (1+ax)),.int .i64 0]) hk U Y;replace HK:=kt HK hk;replace HB:=ak hb;replace HI0:=ak (hi);clear hb hk hi;obtain⟨_,_,_,_,_,_,_,_⟩:=bc4 U;have em:=X.out;have en:=ae.out;obtain⟨_,_,_,_,_,_,_,_⟩:=bc4 J));refine bodyPost_ret (results_cell_row rfl _ _ ag 57 #[.int .i64 D,.int .i64 ac,.int .i64 (wrap64 (1+ax)),.int .i64 b6] (0,0) _ rfl (PX J) Tryz.underlying57 rfl KR) rfl ?_;exact⟨RT,PI,PL,PH⟩
   ·rw[if_neg aj] at H;obtain⟨cn,co⟩:=eqq2 aj
    by_cases al:D=5
    ·rw[if_pos al] at H;obtain⟨cp,cq⟩:=eqq1 al;clear al;obtain⟨⟨ay,b8,b9⟩,dt,H⟩:=obq H;(try dsimp only at H);obtain⟨⟨cb,df,dg⟩,du,H⟩:=obq H;(try dsimp only at H);simp only[Option.some.injEq,Prod.mk.injEq] at H;obtain⟨rfl,rfl,rfl,rfl,rfl,rfl⟩:=H;have eo:=aa.out;have ep:=Z.out;have eq:=Y.out;have er:=ab.out;obtain⟨_,_,_,_,_,_,_,_⟩:=bc4 U;go_wp2_with (first|((with_reducible refine gate_callee (f:=35) rfl ?_);refine goesL_ (some 27) rfl rfl Tryz.func35 KR rfl #[.pointer (some ⟨g,0,none⟩),.int .i64 4] rfl AR ?_;(with_reducible refine(spec_l1Below.calls g s0_0 ah ai 4 ay b8 b9 w0 _ ?side1 ?side2 dt.out).mono ?_);(case side1=>exact PI);(case side2=>exact PL);rintro e ga ⟨rfl,hi,hb,hk⟩;refine⟨_,rfl,?_⟩;replace J:=kq hk J X;replace U:=kq hk U Y;replace HK:=kt HK hk;replace HB:=ak hb;replace HI0:=ak (hi);clear hb hk hi;obtain⟨_,_,_,_,_,_,_,_⟩:=bc4 U)|((with_reducible refine gate_callee (f:=35) rfl ?_);refine goesL_ (some 30) rfl rfl Tryz.func35 KR rfl #[.pointer (some ⟨g,0,none⟩),.int .i64 4] rfl AR ?_;(with_reducible refine(spec_l1Below.calls g s0_0 b8 b9 4 cb df dg w0 _ ?side1 ?side2 du.out).mono ?_);(case side1=>exact PI);(case side2=>exact PL);rintro e gb ⟨rfl,hi,hb,hk⟩;refine⟨_,rfl,?_⟩;replace J:=kq hk J X;replace U:=kr (cs':=#[.int .i64 D,.int .i64 ac,.int .i64 ay,.int .i64 0]) hk U Y;replace HK:=kt HK hk;replace HB:=ak hb;replace HI0:=ak (hi);clear hb hk hi;obtain⟨_,_,_,_,_,_,_,_⟩:=bc4 U;have es:=X.out;have et:=ae.out;obtain⟨_,_,_,_,_,_,_,_⟩:=bc4 J));refine bodyPost_ret (results_cell_row rfl _ _ ag 57 #[.int .i64 D,.int .i64 ac,.int .i64 ay,.int .i64 cb] (0,0) _ rfl (PX J) Tryz.underlying57 rfl KR) rfl ?_;exact⟨RT,PI,PL,PH⟩
    ·rw[if_neg al] at H;obtain⟨cp,cq⟩:=eqq2 al
     by_cases am:D=6
     ·rw[if_pos am] at H;obtain⟨cr,ct⟩:=eqq1 am;clear am;obtain⟨⟨ce,dh,di⟩,dv,H⟩:=obq H;(try dsimp only at H);simp only[Option.some.injEq,Prod.mk.injEq] at H;obtain⟨rfl,rfl,rfl,rfl,rfl,rfl⟩:=H;have eu:=aa.out;have ev:=Z.out;have ew:=Y.out;have ex:=ab.out;obtain⟨_,_,_,_,_,_,_,_⟩:=bc4 U;go_wp2_with (first|(go_at_call 35;(with_reducible refine(spec_l1Below.calls g s0_0 ah ai 4 ce dh di w0 _ ?side1 ?side2 dv.out).mono ?_);(case side1=>exact PI);(case side2=>exact PL);rintro e gc ⟨rfl,hi,hb,hk⟩;replace J:=kq hk J X;replace U:=kq hk U Y;replace HK:=kt HK hk;replace HB:=ak hb;replace HI0:=ak (hi);clear hb hk hi;obtain⟨_,_,_,_,_,_,_,_⟩:=bc4 U;have ey:=X.out;have ez:=ae.out;obtain⟨_,_,_,_,_,_,_,_⟩:=bc4 J));refine bodyPost_ret (results_cell_row rfl _ _ ag 57 #[.int .i64 D,.int .i64 ac,.int .i64 ce,.int .i64 0] (0,0) _ rfl (PX J) Tryz.underlying57 rfl KR) rfl ?_;exact⟨RT,PI,PL,PH⟩
     ·rw[if_neg am] at H;obtain⟨cr,ct⟩:=eqq2 am
      by_cases ao:D=7
      ·rw[if_pos ao] at H;obtain⟨cu,cv⟩:=eqq1 ao;clear ao;obtain⟨⟨cg,dj,dk⟩,dw,H⟩:=obq H;(try dsimp only at H);simp only[Option.some.injEq,Prod.mk.injEq] at H;obtain⟨rfl,rfl,rfl,rfl,rfl,rfl⟩:=H;have e7:=aa.out;have e8:=Z.out;have e9:=Y.out;have fa:=ab.out;obtain⟨_,_,_,_,_,_,_,_⟩:=bc4 U;go_wp2_with (first|(go_at_call 35;(with_reducible refine(spec_l1Below.calls g s0_0 ah ai 3 cg dj dk w0 _ ?side1 ?side2 dw.out).mono ?_);(case side1=>exact PI);(case side2=>exact PL);rintro e gf ⟨rfl,hi,hb,hk⟩;replace J:=kq hk J X;replace U:=kq hk U Y;replace HK:=kt HK hk;replace HB:=ak hb;replace HI0:=ak (hi);clear hb hk hi;obtain⟨_,_,_,_,_,_,_,_⟩:=bc4 U;have fb:=X.out;have fc:=ae.out;obtain⟨_,_,_,_,_,_,_,_⟩:=bc4 J));refine bodyPost_ret (results_cell_row rfl _ _ ag 57 #[.int .i64 D,.int .i64 ac,.int .i64 (wrap64 (1+cg)),.int .i64 0] (0,0) _ rfl (PX J) Tryz.underlying57 rfl KR) rfl ?_;exact⟨RT,PI,PL,PH⟩
      ·rw[if_neg ao] at H;obtain⟨cu,cv⟩:=eqq2 ao
       by_cases ap:D=8
       ·rw[if_pos ap] at H;obtain⟨cw,cx⟩:=eqq1 ap;clear ap;obtain⟨⟨ci,dl,dn⟩,dx,H⟩:=obq H;(try dsimp only at H);simp only[Option.some.injEq,Prod.mk.injEq] at H;obtain⟨rfl,rfl,rfl,rfl,rfl,rfl⟩:=H;have fd:=aa.out;have fe:=Z.out;have ff:=Y.out;have fg:=ab.out;obtain⟨_,_,_,_,_,_,_,_⟩:=bc4 U;go_wp2_with (first|(go_at_call 35;(with_reducible refine(spec_l1Below.calls g s0_0 ah ai 3 ci dl dn w0 _ ?side1 ?side2 dx.out).mono ?_);(case side1=>exact PI);(case side2=>exact PL);rintro e gg ⟨rfl,hi,hb,hk⟩;replace J:=kq hk J X;replace U:=kq hk U Y;replace HK:=kt HK hk;replace HB:=ak hb;replace HI0:=ak (hi);clear hb hk hi;obtain⟨_,_,_,_,_,_,_,_⟩:=bc4 U;have fh:=X.out;have fi:=ae.out;obtain⟨_,_,_,_,_,_,_,_⟩:=bc4 J));refine bodyPost_ret (results_cell_row rfl _ _ ag 57 #[.int .i64 D,.int .i64 ac,.int .i64 ci,.int .i64 0] (0,0) _ rfl (PX J) Tryz.underlying57 rfl KR) rfl ?_;exact⟨RT,PI,PL,PH⟩
       ·rw[if_neg ap] at H;obtain⟨cw,cx⟩:=eqq2 ap
        by_cases aq:D=9
        ·rw[if_pos aq] at H;obtain⟨cy,cz⟩:=eqq1 aq;clear aq;obtain⟨⟨ck,dp,dq⟩,dy,H⟩:=obq H;(try dsimp only at H);simp only[Option.some.injEq,Prod.mk.injEq] at H;obtain⟨rfl,rfl,rfl,rfl,rfl,rfl⟩:=H;have fj:=aa.out;have fk:=Z.out;have fl:=Y.out;have fm:=ab.out;obtain⟨_,_,_,_,_,_,_,_⟩:=bc4 U;go_wp2_with (first|(go_at_call 35;(with_reducible refine(spec_l1Below.calls g s0_0 ah ai 3 ck dp dq w0 _ ?side1 ?side2 dy.out).mono ?_);(case side1=>exact PI);(case side2=>exact PL);rintro e gh ⟨rfl,hi,hb,hk⟩;replace J:=kq hk J X;replace U:=kq hk U Y;replace HK:=kt HK hk;replace HB:=ak hb;replace HI0:=ak (hi);clear hb hk hi;obtain⟨_,_,_,_,_,_,_,_⟩:=bc4 U;have fo:=X.out;have fp:=ae.out;obtain⟨_,_,_,_,_,_,_,_⟩:=bc4 J));refine bodyPost_ret (results_cell_row rfl _ _ ag 57 #[.int .i64 D,.int .i64 ac,.int .i64 ck,.int .i64 0] (0,0) _ rfl (PX J) Tryz.underlying57 rfl KR) rfl ?_;exact⟨RT,PI,PL,PH⟩
        ·rw[if_neg aq] at H;obtain⟨cy,cz⟩:=eqq2 aq;simp only[Option.some.injEq,Prod.mk.injEq] at H;obtain⟨rfl,rfl,rfl,rfl,rfl,rfl⟩:=H;have fq:=aa.out;have ft:=Z.out;have fu:=Y.out;have fv:=ab.out;obtain⟨_,_,_,_,_,_,_,_⟩:=bc4 U;have fw:=X.out;have fx:=ae.out;obtain⟨_,_,_,_,_,_,_,_⟩:=bc4 J;go_wp2;refine bodyPost_ret (results_cell_row rfl _ _ ag 57 #[.int .i64 D,.int .i64 ac,.int .i64 0,.int .i64 0] (0,0) _ rfl (PX J) Tryz.underlying57 rfl KR) rfl ?_;exact⟨RT,PI,PL,PH⟩
def spec_l10Draw.l0:Nat→List (S57)→Int→List Int→Int→Int→Option ((List (S57))×Int×Int)
  | 0,_,_,_,_,_=>none
  | k+1,Y,Z,J,U,X=>if Z > 0 then((spec_l10Op.f k J U X).bind fun D=>(if Y.length < 4398046511104 then(spec_l10Draw.l0 k (Y++[(⟨D.1,D.2.1,D.2.2.1,D.2.2.2.1⟩:S57)]) (wrap64 (Z - 1)) J D.2.2.2.2.1 D.2.2.2.2.2) else(none))) else(some (Y,U,X))
def spec_l10Draw.f (k:Nat)(s0_0:List Int)(s0_1:Int)(s0_2:Int):Option ((List (S57))×Int×Int):=(spec_l1Below.f s0_0 s0_1 s0_2 13).bind fun D=>(spec_l10Draw.l0 k (([]:List (S57))) D.1 s0_0 D.2.1 D.2.2)
theorem spec_l10Draw.calls (k:Nat)(g:Nat)(s0_0:List Int)(s0_1:Int)(s0_2:Int)(r1:List (S57))(r2:Int)(r3:Int)(w0 w:World)(hI:IsS96 w0 w g s0_0 s0_1 s0_2)(hB:Below w0.heap.size w0 w)(h:spec_l10Draw.f k s0_0 s0_1 s0_2=some (r1,r2,r3)) :
  Calls Tryz.prog 32 #[.pointer (some ⟨g,0,none⟩)] w fun e w'=>∃ az:Value,e = .returned (az)∧Kd.R k57 57 w' w.heap.size (fun _=>True) az r1∧IsS96 w0 w' g s0_0 r2 r3∧Below w0.heap.size w0 w'∧KeepBut w w' g none:=by
 have HI0:=ak hI;have HK:=ak (KeepBut.refl w g none);have HL:=ak hB.size;clear hI;have HW0:=ak hB.size;have HB:=ak hB;clear hB;have H:=h;clear h;unfold spec_l10Draw.f at H;obtain⟨ap,Z⟩:∃ y_:List (S57),y_=(([]:List (S57))):=⟨_,rfl⟩
 first|replace H:=bnd_ H Z|rw[←Z] at H
 have am:=ak Z;clear Z;obtain⟨⟨aq,ar,au⟩,A2,H⟩:=obq H;(try dsimp only at H);have H':=ak H;clear H;go_enter Tryz.func32,Tryz.ntmps32;go_wp2_with (first|((with_reducible refine gate_dst (N:=5) rfl ?_);refine Kd.R_lit k57 _ 57 ?hg (N:=5) ?hd (xs:=([]:List (S57))) (inner:=[]) (ok:=fun _=>True) (okp:=fun _=>True) ?hr ?hp (fun _ hk=>hk) trivial (Below.refl _ _) (Nat.le_refl _) (by simp) ?_;(case hd=>rfl);(case hg=>rfl);(case hr=>first|(go_simp;done)|(go_simp;rfl));(case hp=>exact(Reps.none _ _));intro bh w3 ho4 hb hg_ hnew_;clear hg_ hnew_;(first|rw[←am.out] at ho4|(simp only[Int.reduceToNat] at ho4;rw[←am.out] at ho4));have ai:=ak (Kd.R_lower ho4 (keep_size (w:=w) (g:=g) (row:=none) PH));replace HI0:=ak (IsS96.below PI hb);replace HK:=kt HK (KeepBut.of_below hb g none);replace HB:=bs HB hb;clear hb ho4)|(go_at_call 35;(with_reducible refine(spec_l1Below.calls g s0_0 s0_1 s0_2 13 aq ar au w0 _ ?side1 ?side2 A2.out).mono ?_);(case side1=>exact PI);(case side2=>exact PL);rintro e w5 ⟨rfl,hi,hb,hk⟩;replace ai:=Rk (IsS96.apart (show IsS96 w0 _ g s0_0 s0_1 s0_2 from PI) (PR ai) (by decide)) hk;replace HK:=kt HK hk;replace HB:=ak hb;replace HI0:=ak (hi);clear hb hk hi))
 go_loopg [3,4] k (fun kq v3 v4 w'=>∃(Y:List (S57))(U:Int)(D:Int)(J:Int),v4 = .int .i64 U∧Aside0 (spec_l10Draw.l0 kq Y U s0_0 D J=some (r1,r2,r3))∧Aside0 (kq≤k)∧Aside0 (Kd.R k57 57 w' w.heap.size (fun _=>True) v3 Y)∧Aside0 (IsS96 w0 w' g s0_0 D J)∧Aside0 (KeepBut w w' g none)∧Aside0 (Below w0.heap.size w0 w'))
 case atStart=>exact⟨(ap),(aq),(ar),(au),FR,H',⟨Nat.le_refl _⟩,⟨PR ai⟩,⟨PI⟩,⟨PH⟩,⟨PL⟩⟩
 case round =>
  clear H';(try clear p2);(try clear c3);obtain⟨Y,U,D,J,rfl,HA,bb,X,HI0,HK,HB⟩:=hrel
  cases gk with
  | zero=>exact absurd HA.out (by simp[spec_l10Draw.l0])
  | succ k1 =>
   have H:=HA.out;clear HA;simp only[spec_l10Draw.l0] at H
   by_cases c6:U > 0
   ·rw[if_pos c6] at H;have bd:decide (0 < U)=true:=decide_eq_true c6;clear c6;obtain⟨⟨ab,ac,ae,ag,aj,al⟩,A7,H⟩:=obq H;(try dsimp only at H)
    by_cases c8:Y.length < 4398046511104
    ·rw[if_pos c8] at H;have bf:=ak c8;clear c8;obtain⟨av,aa⟩:∃ y_:List (S57),y_=(Y++[(⟨ab,ac,ae,ag⟩:S57)]):=⟨_,rfl⟩
     first|replace H:=bnd_ H aa|rw[←aa] at H
     have ax:=ak aa;clear aa;have H':=ak H;clear H;go_wp2_with (first|(go_at_call 51;(with_reducible refine(spec_l10Op.calls k1 g s0_0 D J ab ac ae ag aj al w0 _ ?side1 ?side2 A7.out).mono ?_);(case side1=>exact PI);(case side2=>exact PL);rintro e w9 ⟨rfl,hi,hb,hk⟩;replace X:=Rk (IsS96.apart (show IsS96 w0 _ g s0_0 D J from PI) (PR X) (by decide)) hk;replace HK:=kt HK hk;replace HB:=ak hb;replace HI0:=ak (hi);clear hb hk hi)|((with_reducible refine gate_builtin (b:=.append) (xs:=#[.tmp 12,.tmp 15]) rfl ?_);at_builtin;refine Kd.R_append k57 w.heap.size rfl (.tmp 12) (.tmp 15) 24 57 (.agg #[(.int .i64 0),(.int .i64 0),(.int .i64 0),(.int .i64 0)]) 32 rfl Tryz.underlying24 info57 rfl (by decide) (by omega) u3 Y (⟨ab,ac,ae,ag⟩:S57) [.int .i64 ab,.int .i64 ac,.int .i64 ae,.int .i64 ag] (fun _=>True) (fun _=>False) rfl rfl ?aP (fun _ hk=>hk.elim) ?aF ?aO (Below.refl _ _) ?aS ?aL ?_;(case aP=>exact k57_mkM _ _ _ (⟨ab,ac,ae,ag⟩:S57));(case aF=>exact(fun _ _=>trivial));(case aO=>exact(PR X));(case aS=>exact(keep_size (w:=w) (g:=g) (row:=none) PH));(case aL=>have:=bf.out;omega);intro bl bm ho hb hg hat;rw[←ax.out] at ho;replace HI0:=ak (IsS96.grown PI hg (IsS96.own_ne HI0.out X.out (by decide)));replace HB:=ak (below_weaken PL HL.out hb);replace HK:=ak (KeepBut.trans PH (KeepBut.of_grown hg g) (Kd.R_base2 X.out));have ay:=ak (ho);clear X;clear ho hb hg hat))
     go_roundg k1
     case measure=>have:=bb.out;omega
     case rel=>exact⟨(av),(wrap64 (U - 1)),(aj),(al),FR,H',⟨by have:=bb.out;omega⟩,⟨PR ay⟩,⟨PI⟩,⟨PH⟩,⟨PL⟩⟩
    ·rw[if_neg c8] at H;exact absurd H (by simp)
   ·rw[if_neg c6] at H;have bd:decide (0 < U)=false:=decide_eq_false c6;clear c6;simp only[Option.some.injEq,Prod.mk.injEq] at H;obtain⟨rfl,rfl,rfl⟩:=H;go_wp2
    go_ret
    exact⟨_,RT,by(with_reducible repeat(first|apply Kd.R_alloc | apply Kd.R_drewN | apply Kd.R_drew));exact X.out,PI,PL,PH⟩
def spec_l1Int.f (s0_0:List Int)(s0_1:Int)(s0_2:Int)(J:List Int):Option (Int×Int×Int):=(spec_l1Below.f s0_0 s0_1 s0_2 (J.length:Int)).bind fun D=>(if 0≤D.1 then(if D.1 < (J.length:Int) then(some (rd J D.1,D.2.1,D.2.2)) else(none)) else(none))
theorem spec_l1Int.calls (g:Nat)(s0_0:List Int)(s0_1:Int)(s0_2:Int)(A1:Option Addr)(c1:Nat)(J:List Int)(r1:Int)(r2:Int)(r3:Int)(w0 w:World)(hI:IsS96 w0 w g s0_0 s0_1 s0_2)(hB:Below w0.heap.size w0 w)(ac:Kd.C (Kd.int .i64) w A1 J.length J)(ae:J.length≤c1)(hf1:∀ ad,A1=some ad→0 < J.length→ad.block≠g)(h:spec_l1Int.f s0_0 s0_1 s0_2 J=some (r1,r2,r3)) :
  Calls Tryz.prog 56 #[.pointer (some ⟨g,0,none⟩),.slice A1 J.length c1] w fun e w'=>e = .returned (.int .i64 r1)∧IsS96 w0 w' g s0_0 r2 r3∧Below w0.heap.size w0 w'∧KeepBut w w' g none:=by
 have ao:=ak ac;have au:=ak ae;clear ac ae;have HI0:=ak hI;have HK:=ak (KeepBut.refl w g none);have HL:=ak hB.size;clear hI;have HW0:=ak hB.size;have HB:=ak hB;clear hB;have H:=h;clear h;unfold spec_l1Int.f at H;obtain⟨⟨D,ai,aj⟩,A3,H⟩:=obq H;(try dsimp only at H)
 by_cases Z:0≤D
 ·rw[if_pos Z] at H;have aq:=decide_eq_true Z;clear Z
  by_cases c5:D < (J.length:Int)
  ·rw[if_pos c5] at H;have ar:=decide_eq_true c5;clear c5;simp only[Option.some.injEq,Prod.mk.injEq] at H;obtain⟨rfl,rfl,rfl⟩:=H;go_enter Tryz.func56,Tryz.ntmps56;go_wp2_with (first|(go_at_call 35;(with_reducible refine(spec_l1Below.calls g s0_0 s0_1 s0_2 (J.length:Int) D ai aj w0 _ ?side1 ?side2 A3.out).mono ?_);(case side1=>exact PI);(case side2=>exact PL);rintro e w6 ⟨rfl,hi,hb,hk⟩;replace HK:=kt HK hk;replace HB:=ak hb;replace HI0:=ak (hi);clear hb hk hi;have X:0≤(D:Int):=od;have Y:D < (J.length:Int):=od;obtain⟨ab,al,U⟩:=Kd.at_int ao.out D X Y;cases al;replace U:=keep_cell HK.out U (by first|(rw[add_block];exact hf1 _ rfl (by omega))|exact hf1 _ rfl (by omega)|exact hf1 ab rfl (by omega));replace X:=eq_true X;replace Y:=eq_true Y))
   go_ret
   exact⟨RT,PI,PL,PH⟩
  ·rw[if_neg c5] at H;exact absurd H (by simp)
 ·rw[if_neg Z] at H;exact absurd H (by simp)
def spec_l4Raw.f (s0_0:List Int)(s0_1:Int)(s0_2:Int):Option (Int×Int×Int):=(spec_l1Int.f s0_0 s0_1 s0_2 (([(-1),0,9,10,99,100,9223372036854775807,(-9223372036854775808)]:List Int))).bind fun D=>(some (D.1,D.2.1,D.2.2))
theorem spec_l4Raw.calls (g:Nat)(s0_0:List Int)(s0_1:Int)(s0_2:Int)(r1:Int)(r2:Int)(r3:Int)(w0 w:World)(hI:IsS96 w0 w g s0_0 s0_1 s0_2)(hB:Below w0.heap.size w0 w)(h:spec_l4Raw.f s0_0 s0_1 s0_2=some (r1,r2,r3)) :
  Calls Tryz.prog 58 #[.pointer (some ⟨g,0,none⟩)] w fun e w'=>e = .returned (.int .i64 r1)∧IsS96 w0 w' g s0_0 r2 r3∧Below w0.heap.size w0 w'∧KeepBut w w' g none:=by
 have HI0:=ak hI;have HK:=ak (KeepBut.refl w g none);have HL:=ak hB.size;clear hI;have HW0:=ak hB.size;have HB:=ak hB;clear hB;have H:=h;clear h;unfold spec_l4Raw.f at H;obtain⟨X,D⟩:∃ y_:List Int,y_=(([(-1),0,9,10,99,100,9223372036854775807,(-9223372036854775808)]:List Int)):=⟨_,rfl⟩
 first|replace H:=bnd_ H D|rw[←D] at H
 have Y:=ak D;clear D;obtain⟨⟨aa,ab,ac⟩,A2,H⟩:=obq H;(try dsimp only at H);simp only[Option.some.injEq,Prod.mk.injEq] at H;obtain⟨rfl,rfl,rfl⟩:=H;go_enter Tryz.func58,Tryz.ntmps58;go_wp2_with (first|((with_reducible refine gate_dst (N:=4) rfl ?_);refine Kd.R_lit (Kd.int .i64) _ 3 ?hg (N:=4) ?hd (xs:=([(-1),0,9,10,99,100,9223372036854775807,(-9223372036854775808)]:List Int)) (inner:=[.int .i64 (-1),.int .i64 0,.int .i64 9,.int .i64 10,.int .i64 99,.int .i64 100,.int .i64 9223372036854775807,.int .i64 (-9223372036854775808)]) (ok:=fun _=>True) (okp:=fun _=>True) ?hr ?hp (fun _ hk=>hk) trivial (Below.refl _ _) (Nat.le_refl _) (by simp) ?_;(case hd=>rfl);(case hg=>rfl);(case hr=>first|(go_simp;done)|(go_simp;rfl));(case hp=>exact(Reps.one (show Kd.M (Kd.int .i64) _ _ _ (-1) [.int .i64 (-1)] from rfl) (Reps.one (show Kd.M (Kd.int .i64) _ _ _ 0 [.int .i64 0] from rfl) (Reps.one (show Kd.M (Kd.int .i64) _ _ _ 9 [.int .i64 9] from rfl) (Reps.one (show Kd.M (Kd.int .i64) _ _ _ 10 [.int .i64 10] from rfl) (Reps.one (show Kd.M (Kd.int .i64) _ _ _ 99 [.int .i64 99] from rfl) (Reps.one (show Kd.M (Kd.int .i64) _ _ _ 100 [.int .i64 100] from rfl) (Reps.one (show Kd.M (Kd.int .i64) _ _ _ 9223372036854775807 [.int .i64 9223372036854775807] from rfl) (Reps.one (show Kd.M (Kd.int .i64) _ _ _ (-9223372036854775808) [.int .i64 (-9223372036854775808)] from rfl) (Reps.none _ _))))))))));intro ai w3 ho4 hb hg_ hnew_;clear hg_ hnew_;(first|rw[←Y.out] at ho4|(simp only[Int.reduceToNat] at ho4;rw[←Y.out] at ho4));have J:=ak (Kd.R_lower ho4 (keep_size (w:=w) (g:=g) (row:=none) PH));replace HI0:=ak (IsS96.below PI hb);replace HK:=kt HK (KeepBut.of_below hb g none);replace HB:=bs HB hb;clear hb ho4;obtain⟨ae,ag,rfl⟩:=Kd.R_slice J.out)|(go_at_call 56;(with_reducible refine(spec_l1Int.calls g s0_0 s0_1 s0_2 _ _ X aa ab ac w0 _ ?side1 ?side2 ?side3 (rl J) ?side5 A2.out).mono ?_);(case side1=>exact PI);(case side2=>exact PL);(case side3=>exact CR (rr J));(case side5=>exact far_slice (IsS96.own_ne HI0.out J.out (by decide)));rintro e w6 ⟨rfl,hi,hb,hk⟩;replace HK:=kt HK hk;replace HB:=ak hb;replace HI0:=ak (hi);clear hb hk hi))
 go_ret
 exact⟨RT,PI,PL,PH⟩

end Go.Proofs.YteemhimikamihaaGreat.MFnReplays
