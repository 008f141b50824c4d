import Derived.Test.YtlkehcbhbflpoaaGreatRun
import Derived.Test.YtlkehcbhbflpoaaGreatShr2
import Derived.Test.YtlkehcbhbflpoaaGreatProg
import Derived.Below
import Derived.Deep.Draws
import Derived.Deep.AppendLies
import Derived.Maps.AppendAt
import Derived.OwnWalk
import Derived.Laws.BytesArg
import Derived.Laws.MakeOwn
import Derived.Laws.OwnMore
import Derived.Deep.OwnRows
import Derived.Tactics
import Derived.Lib.ConvBytes
import Derived.Laws.Slices
import Derived.WalkKit
import Derived.KernelRfl
import Derived.RowKit3
import Derived.Deep.LoopGhost
import Derived.Deep.QuietTactic
import Derived.BigQuiet
import Derived.WideLaws
import Derived.Deep.DeepCutAuto
import Derived.Deep.CutBlock
import Derived.Deep.RegionHeld3
import Derived.Laws.Rows
import Derived.Lib.AppendStr
import Derived.ArgAppend
import Derived.Laws.IdiomCopy
import Derived.OrdersHeld
import Derived.Laws.BitsLemmas
import Derived.RowKit
import Derived.Test.YtlkehcbhbflpoaaGreatWWords
import Derived.Test.YtlkehcbhbflpoaaGreatWLast
import Derived.Test.YtlkehcbhbflpoaaGreatWTab
import Derived.Test.YtlkehcbhbflpoaaGreatWFour
import Derived.Test.YtlkehcbhbflpoaaGreatWQPut
import Derived.Test.YtlkehcbhbflpoaaGreatWApart
import Derived.Test.YtlkehcbhbflpoaaGreatWArr
import Derived.Test.YtlkehcbhbflpoaaGreatWZeros
import Derived.Test.YtlkehcbhbflpoaaGreatWFoot
import Derived.Test.YtlkehcbhbflpoaaGreatWKept
import Derived.Test.YtlkehcbhbflpoaaGreatWShare
import Derived.Test.YtlkehcbhbflpoaaGreatWN
import Derived.Test.YtlkehcbhbflpoaaGreatWFootNe
import Derived.Test.YtlkehcbhbflpoaaGreatWAt
import Derived.Test.YtlkehcbhbflpoaaGreatWEqStruct
import Derived.Test.YtlkehcbhbflpoaaGreatWRepsOne
import Derived.Test.YtlkehcbhbflpoaaGreatWInv
import Derived.Test.YtlkehcbhbflpoaaGreatWInvWords
import Derived.Test.YtlkehcbhbflpoaaGreatWGuard
import Derived.Test.YtlkehcbhbflpoaaGreatWNEv
import Derived.Test.YtlkehcbhbflpoaaGreatWMore
import Derived.Test.YtlkehcbhbflpoaaGreatFnV
namespace Go.Proofs.YtlkehcbhbflpoaaGreat.MFnExactRecordVisit
open Go.RowKit Go.Proofs.YtlkehcbhbflpoaaGreatW.PrintWords Go.Proofs.YtlkehcbhbflpoaaGreatW.PrintLast Go.Proofs.YtlkehcbhbflpoaaGreatW.PrintMore
attribute [local go_sem] max2_int min2_int max_two min_two max_three min_three max_four min_four
set_option linter.unusedVariables false
set_option linter.unusedSimpArgs false
def errW:Option Int→Value
  | none=>.nilIface
  | some c=>.iface 0 (.int .i64 c)
theorem errW_none:errW none = .nilIface:=rfl
theorem errW_some (c:Int):errW (some c) = .iface 0 (.int .i64 c):=rfl
theorem info3:(Tryz.prog.info? 3).map (fun i=>(i.zero,i.size,i.bytes))=some (some (.int .i64 0),1,8):=by kernel_rfl
theorem info56:(Tryz.prog.info? 56).map (fun i=>(i.zero,i.size,i.bytes))=some (some (.agg #[(.int .i64 0),(.int .i64 0),(.int .i64 0),(.int .i64 0)]),4,32):=by kernel_rfl
theorem info64:(Tryz.prog.info? 64).map (fun i=>(i.zero,i.size,i.bytes))=some (some (.agg #[(.int .i64 0),(.int .i64 0),(.int .i64 0)]),3,24):=by kernel_rfl
theorem info66:(Tryz.prog.info? 66).map (fun i=>(i.zero,i.size,i.bytes))=some (some (.agg #[(.int .i64 0),(.int .i64 0),(.int .i64 0),(.int .i64 0),(.int .i64 0)]),5,40):=by kernel_rfl
theorem info89:(Tryz.prog.info? 89).map (fun i=>(i.zero,i.size,i.bytes))=some (some (.agg #[(.int .i64 0),(.int .i64 0),(.int .i64 0),(.int .i64 0),(.int .i64 0),(.slice none 0 0),(.int .i64 0),(.int .i64 0),(.int .i64 0)]),9,88):=by kernel_rfl
structure S58 where
  f0:Int
  f1:Int
  f2:Int
  f3:Int
def z58:S58:=⟨(0:Int),(0:Int),(0:Int),(0:Int)⟩
def k58:Kd S58:=Kd.iso (Kd.pair (Kd.int .i64) (Kd.pair (Kd.int .i64) (Kd.pair (Kd.int .i64) (Kd.int .i64)))) (fun x:S58=>(x.f0,x.f1,x.f2,x.f3))
theorem k58_open {w:World}{x:S58}{cs:List Value}(h:k58.K w x cs):cs=[.int .i64 x.f0,.int .i64 x.f1,.int .i64 x.f2,.int .i64 x.f3]:=by
  obtain⟨_,_,rfl,rfl,⟨_,_,rfl,rfl,⟨_,_,rfl,rfl,rfl⟩⟩⟩:=h;exact rfl
def rd_T58 (xs:List S58)(i:Int):S58:=xs.getD i.toNat z58
theorem at_T58 {w:World}{A:Option Addr}{n:Nat}{xs:List S58}(h:Kd.C k58 w A n xs)(i:Int)(h0:0≤i)(h1:i < n):∃ ad ,A=some ad∧w.cell? (ad.add (i.toNat * 4))=some (.int .i64 (rd_T58 xs i).f0)∧w.cell? ⟨(ad.add (i.toNat * 4)).block,(ad.add (i.toNat * 4)).off+1,none⟩=some (.int .i64 (rd_T58 xs i).f1)∧w.cell? ⟨(ad.add (i.toNat * 4)).block,(ad.add (i.toNat * 4)).off+2,none⟩=some (.int .i64 (rd_T58 xs i).f2)∧w.cell? ⟨(ad.add (i.toNat * 4)).block,(ad.add (i.toNat * 4)).off+3,none⟩=some (.int .i64 (rd_T58 xs i).f3):=by
  obtain⟨ad,c,e,_,hK,D⟩:=Kd.C_get h z58 i h0 h1;have hc:∀ j u,c[j]?=some u→w.cell? (ad.add (i.toNat * 4+j))=some u:=D;obtain rfl:=k58_open hK;exact⟨ad,e,hc 0 _ rfl,by rw[←add_field _ _ 1 (by omega)];exact hc 1 _ rfl,by rw[←add_field _ _ 2 (by omega)];exact hc 2 _ rfl,by rw[←add_field _ _ 3 (by omega)];exact hc 3 _ rfl⟩
structure S72 where
  f0:Int
  f1:Int
  f2:Int
def z72:S72:=⟨(0:Int),(0:Int),(0:Int)⟩
def k72:Kd S72:=Kd.iso (Kd.pair (Kd.int .i64) (Kd.pair (Kd.int .i64) (Kd.int .i64))) (fun x:S72=>(x.f0,x.f1,x.f2))
theorem k72_open {w:World}{x:S72}{cs:List Value}(h:k72.K w x cs):cs=[.int .i64 x.f0,.int .i64 x.f1,.int .i64 x.f2]:=by
  obtain⟨_,_,rfl,rfl,⟨_,_,rfl,rfl,rfl⟩⟩:=h;exact rfl
structure S74 where
  f0:Int
  f1:(List Int)
  f2:S72
def z74:S74:=⟨(0:Int),([]:List Int),z72⟩
def k74:Kd S74:=Kd.iso (Kd.pair (Kd.int .i64) (Kd.pair (Kd.slice 3 (Kd.int .i64)) k72)) (fun x:S74=>(x.f0,x.f1,x.f2))
theorem k74_open {w:World}{x:S74}{cs:List Value}(h:k74.K w x cs):∃ D J,cs=[.int .i64 x.f0,.slice D x.f1.length J,.int .i64 x.f2.f0,.int .i64 x.f2.f1,.int .i64 x.f2.f2]∧x.f1.length≤J∧(Kd.int .i64).C w D x.f1.length x.f1:=by
  obtain⟨_,_,rfl,rfl,⟨_,_,rfl,⟨D,J,rfl,U,g1⟩,s2⟩⟩:=h;obtain rfl:=k72_open s2;exact⟨D,J,rfl,U,g1⟩
structure S76 where
  f0:S72
  f1:Int
  f2:S74
def z76:S76:=⟨z72,(0:Int),z74⟩
def k76:Kd S76:=Kd.iso (Kd.pair k72 (Kd.pair (Kd.int .i64) k74)) (fun x:S76=>(x.f0,x.f1,x.f2))
theorem k76_open {w:World}{x:S76}{cs:List Value}(h:k76.K w x cs):∃ D J,cs=[.int .i64 x.f0.f0,.int .i64 x.f0.f1,.int .i64 x.f0.f2,.int .i64 x.f1,.int .i64 x.f2.f0,.slice D x.f2.f1.length J,.int .i64 x.f2.f2.f0,.int .i64 x.f2.f2.f1,.int .i64 x.f2.f2.f2]∧x.f2.f1.length≤J∧(Kd.int .i64).C w D x.f2.f1.length x.f2.f1:=by
  obtain⟨_,_,rfl,s0,⟨_,_,rfl,rfl,s4⟩⟩:=h;obtain rfl:=k72_open s0;obtain⟨D,J,rfl,U,g5⟩:=k74_open s4;exact⟨D,J,rfl,U,g5⟩
def rd_T76 (xs:List S76)(i:Int):S76:=xs.getD i.toNat z76
theorem at_T76 {w:World}{A:Option Addr}{n:Nat}{xs:List S76}(h:Kd.C k76 w A n xs)(i:Int)(h0:0≤i)(h1:i < n):∃ ad D J,A=some ad∧w.cell? (ad.add (i.toNat * 9))=some (.int .i64 (rd_T76 xs i).f0.f0)∧w.cell? ⟨(ad.add (i.toNat * 9)).block,(ad.add (i.toNat * 9)).off+1,none⟩=some (.int .i64 (rd_T76 xs i).f0.f1)∧w.cell? ⟨(ad.add (i.toNat * 9)).block,(ad.add (i.toNat * 9)).off+2,none⟩=some (.int .i64 (rd_T76 xs i).f0.f2)∧w.cell? ⟨(ad.add (i.toNat * 9)).block,(ad.add (i.toNat * 9)).off+3,none⟩=some (.int .i64 (rd_T76 xs i).f1)∧w.cell? ⟨(ad.add (i.toNat * 9)).block,(ad.add (i.toNat * 9)).off+4,none⟩=some (.int .i64 (rd_T76 xs i).f2.f0)∧w.cell? ⟨(ad.add (i.toNat * 9)).block,(ad.add (i.toNat * 9)).off+5,none⟩=some (.slice D (rd_T76 xs i).f2.f1.length J)∧w.cell? ⟨(ad.add (i.toNat * 9)).block,(ad.add (i.toNat * 9)).off+6,none⟩=some (.int .i64 (rd_T76 xs i).f2.f2.f0)∧w.cell? ⟨(ad.add (i.toNat * 9)).block,(ad.add (i.toNat * 9)).off+7,none⟩=some (.int .i64 (rd_T76 xs i).f2.f2.f1)∧w.cell? ⟨(ad.add (i.toNat * 9)).block,(ad.add (i.toNat * 9)).off+8,none⟩=some (.int .i64 (rd_T76 xs i).f2.f2.f2)∧(rd_T76 xs i).f2.f1.length≤J∧(Kd.int .i64).C w D (rd_T76 xs i).f2.f1.length (rd_T76 xs i).f2.f1:=by
  obtain⟨ad,c,e,_,hK,U⟩:=Kd.C_get h z76 i h0 h1;have hc:∀ j u,c[j]?=some u→w.cell? (ad.add (i.toNat * 9+j))=some u:=U;obtain⟨D,J,rfl,X,g5⟩:=k76_open hK;exact⟨ad,D,J,e,hc 0 _ rfl,by rw[←add_field _ _ 1 (by omega)];exact hc 1 _ rfl,by rw[←add_field _ _ 2 (by omega)];exact hc 2 _ rfl,by rw[←add_field _ _ 3 (by omega)];exact hc 3 _ rfl,by rw[←add_field _ _ 4 (by omega)];exact hc 4 _ rfl,by rw[←add_field _ _ 5 (by omega)];exact hc 5 _ rfl,by rw[←add_field _ _ 6 (by omega)];exact hc 6 _ rfl,by rw[←add_field _ _ 7 (by omega)];exact hc 7 _ rfl,by rw[←add_field _ _ 8 (by omega)];exact hc 8 _ rfl,X,g5⟩
structure S56 where
  f0:Int
  f1:Int
  f2:Int
  f3:Int
def z56:S56:=⟨(0:Int),(0:Int),(0:Int),(0:Int)⟩
def k56:Kd S56:=Kd.iso (Kd.pair (Kd.int .i64) (Kd.pair (Kd.int .i64) (Kd.pair (Kd.int .i64) (Kd.int .i64)))) (fun x:S56=>(x.f0,x.f1,x.f2,x.f3))
theorem k56_open {w:World}{x:S56}{cs:List Value}(h:k56.K w x cs):cs=[.int .i64 x.f0,.int .i64 x.f1,.int .i64 x.f2,.int .i64 x.f3]:=by
  obtain⟨_,_,rfl,rfl,⟨_,_,rfl,rfl,⟨_,_,rfl,rfl,rfl⟩⟩⟩:=h;exact rfl
theorem k56_openM {w:World}{base:Nat}{ok:Nat→Prop}{x:S56}{cs:List Value}(h:k56.M w base ok x cs):cs=[.int .i64 x.f0,.int .i64 x.f1,.int .i64 x.f2,.int .i64 x.f3]:=by
  obtain⟨_,_,rfl,rfl,⟨_,_,rfl,rfl,⟨_,_,rfl,rfl,rfl⟩⟩⟩:=h;exact rfl
theorem k56_mkM (w:World)(base:Nat)(ok:Nat→Prop)(x:S56)  : k56.M w base ok x [.int .i64 x.f0,.int .i64 x.f1,.int .i64 x.f2,.int .i64 x.f3]:=⟨[.int .i64 x.f0],[.int .i64 x.f1,.int .i64 x.f2,.int .i64 x.f3],rfl,rfl,⟨[.int .i64 x.f1],[.int .i64 x.f2,.int .i64 x.f3],rfl,rfl,⟨[.int .i64 x.f2],[.int .i64 x.f3],rfl,rfl,rfl⟩⟩⟩
def rd_T56 (xs:List S56)(i:Int):S56:=xs.getD i.toNat z56
theorem at_T56 {w:World}{A:Option Addr}{n:Nat}{xs:List S56}(h:Kd.C k56 w A n xs)(i:Int)(h0:0≤i)(h1:i < n):∃ ad ,A=some ad∧w.cell? (ad.add (i.toNat * 4))=some (.int .i64 (rd_T56 xs i).f0)∧w.cell? ⟨(ad.add (i.toNat * 4)).block,(ad.add (i.toNat * 4)).off+1,none⟩=some (.int .i64 (rd_T56 xs i).f1)∧w.cell? ⟨(ad.add (i.toNat * 4)).block,(ad.add (i.toNat * 4)).off+2,none⟩=some (.int .i64 (rd_T56 xs i).f2)∧w.cell? ⟨(ad.add (i.toNat * 4)).block,(ad.add (i.toNat * 4)).off+3,none⟩=some (.int .i64 (rd_T56 xs i).f3):=by
  obtain⟨ad,c,e,_,hK,D⟩:=Kd.C_get h z56 i h0 h1;have hc:∀ j u,c[j]?=some u→w.cell? (ad.add (i.toNat * 4+j))=some u:=D;obtain rfl:=k56_open hK;exact⟨ad,e,hc 0 _ rfl,by rw[←add_field _ _ 1 (by omega)];exact hc 1 _ rfl,by rw[←add_field _ _ 2 (by omega)];exact hc 2 _ rfl,by rw[←add_field _ _ 3 (by omega)];exact hc 3 _ rfl⟩
structure S64 where
  f0:Int
  f1:Int
  f2:Int
def z64:S64:=⟨(0:Int),(0:Int),(0:Int)⟩
def k64:Kd S64:=Kd.iso (Kd.pair (Kd.int .i64) (Kd.pair (Kd.int .i64) (Kd.int .i64))) (fun x:S64=>(x.f0,x.f1,x.f2))
theorem k64_open {w:World}{x:S64}{cs:List Value}(h:k64.K w x cs):cs=[.int .i64 x.f0,.int .i64 x.f1,.int .i64 x.f2]:=by
  obtain⟨_,_,rfl,rfl,⟨_,_,rfl,rfl,rfl⟩⟩:=h;exact rfl
theorem k64_openM {w:World}{base:Nat}{ok:Nat→Prop}{x:S64}{cs:List Value}(h:k64.M w base ok x cs):cs=[.int .i64 x.f0,.int .i64 x.f1,.int .i64 x.f2]:=by
  obtain⟨_,_,rfl,rfl,⟨_,_,rfl,rfl,rfl⟩⟩:=h;exact rfl
theorem k64_mkM (w:World)(base:Nat)(ok:Nat→Prop)(x:S64)  : k64.M w base ok x [.int .i64 x.f0,.int .i64 x.f1,.int .i64 x.f2]:=⟨[.int .i64 x.f0],[.int .i64 x.f1,.int .i64 x.f2],rfl,rfl,⟨[.int .i64 x.f1],[.int .i64 x.f2],rfl,rfl,rfl⟩⟩
def rd_T64 (xs:List S64)(i:Int):S64:=xs.getD i.toNat z64
theorem at_T64 {w:World}{A:Option Addr}{n:Nat}{xs:List S64}(h:Kd.C k64 w A n xs)(i:Int)(h0:0≤i)(h1:i < n):∃ ad ,A=some ad∧w.cell? (ad.add (i.toNat * 3))=some (.int .i64 (rd_T64 xs i).f0)∧w.cell? ⟨(ad.add (i.toNat * 3)).block,(ad.add (i.toNat * 3)).off+1,none⟩=some (.int .i64 (rd_T64 xs i).f1)∧w.cell? ⟨(ad.add (i.toNat * 3)).block,(ad.add (i.toNat * 3)).off+2,none⟩=some (.int .i64 (rd_T64 xs i).f2):=by
  obtain⟨ad,c,e,_,hK,D⟩:=Kd.C_get h z64 i h0 h1;have hc:∀ j u,c[j]?=some u→w.cell? (ad.add (i.toNat * 3+j))=some u:=D;obtain rfl:=k64_open hK;exact⟨ad,e,hc 0 _ rfl,by rw[←add_field _ _ 1 (by omega)];exact hc 1 _ rfl,by rw[←add_field _ _ 2 (by omega)];exact hc 2 _ rfl⟩
structure S87 where
  f0:Int
  f1:(List Int)
  f2:S64
def z87:S87:=⟨(0:Int),([]:List Int),z64⟩
def k87:Kd S87:=Kd.iso (Kd.pair (Kd.int .i64) (Kd.pair (Kd.slice 3 (Kd.int .i64)) k64)) (fun x:S87=>(x.f0,x.f1,x.f2))
theorem k87_open {w:World}{x:S87}{cs:List Value}(h:k87.K w x cs):∃ D J,cs=[.int .i64 x.f0,.slice D x.f1.length J,.int .i64 x.f2.f0,.int .i64 x.f2.f1,.int .i64 x.f2.f2]∧x.f1.length≤J∧(Kd.int .i64).C w D x.f1.length x.f1:=by
  obtain⟨_,_,rfl,rfl,⟨_,_,rfl,⟨D,J,rfl,U,g1⟩,s2⟩⟩:=h;obtain rfl:=k64_open s2;exact⟨D,J,rfl,U,g1⟩
theorem k87_openM {w:World}{base:Nat}{ok:Nat→Prop}{x:S87}{cs:List Value}(h:k87.M w base ok x cs):∃ D,cs=[.int .i64 x.f0,D,.int .i64 x.f2.f0,.int .i64 x.f2.f1,.int .i64 x.f2.f2]∧(Kd.int .i64).R 3 w base ok D x.f1:=by
  obtain⟨_,_,rfl,rfl,⟨_,_,rfl,⟨D,rfl,g1⟩,s2⟩⟩:=h;obtain rfl:=k64_openM s2;exact⟨D,rfl,g1⟩
theorem k87_mkM (w:World)(base:Nat)(ok:Nat→Prop)(x:S87){D:Value}(g1:(Kd.int .i64).R 3 w base ok D x.f1):k87.M w base ok x [.int .i64 x.f0,D,.int .i64 x.f2.f0,.int .i64 x.f2.f1,.int .i64 x.f2.f2]:=⟨[.int .i64 x.f0],[D,.int .i64 x.f2.f0,.int .i64 x.f2.f1,.int .i64 x.f2.f2],rfl,rfl,⟨[D],[.int .i64 x.f2.f0,.int .i64 x.f2.f1,.int .i64 x.f2.f2],rfl,⟨D,rfl,g1⟩,(k64_mkM w base ok x.f2)⟩⟩
structure S89 where
  f0:S64
  f1:Int
  f2:S87
def z89:S89:=⟨z64,(0:Int),z87⟩
def k89:Kd S89:=Kd.iso (Kd.pair k64 (Kd.pair (Kd.int .i64) k87)) (fun x:S89=>(x.f0,x.f1,x.f2))
theorem k89_open {w:World}{x:S89}{cs:List Value}(h:k89.K w x cs):∃ D J,cs=[.int .i64 x.f0.f0,.int .i64 x.f0.f1,.int .i64 x.f0.f2,.int .i64 x.f1,.int .i64 x.f2.f0,.slice D x.f2.f1.length J,.int .i64 x.f2.f2.f0,.int .i64 x.f2.f2.f1,.int .i64 x.f2.f2.f2]∧x.f2.f1.length≤J∧(Kd.int .i64).C w D x.f2.f1.length x.f2.f1:=by
  obtain⟨_,_,rfl,s0,⟨_,_,rfl,rfl,s4⟩⟩:=h;obtain rfl:=k64_open s0;obtain⟨D,J,rfl,U,g5⟩:=k87_open s4;exact⟨D,J,rfl,U,g5⟩
theorem k89_openM {w:World}{base:Nat}{ok:Nat→Prop}{x:S89}{cs:List Value}(h:k89.M w base ok x cs):∃ D,cs=[.int .i64 x.f0.f0,.int .i64 x.f0.f1,.int .i64 x.f0.f2,.int .i64 x.f1,.int .i64 x.f2.f0,D,.int .i64 x.f2.f2.f0,.int .i64 x.f2.f2.f1,.int .i64 x.f2.f2.f2]∧(Kd.int .i64).R 3 w base ok D x.f2.f1:=by
  obtain⟨_,_,rfl,s0,⟨_,_,rfl,rfl,s4⟩⟩:=h;obtain rfl:=k64_openM s0;obtain⟨D,rfl,g5⟩:=k87_openM s4;exact⟨D,rfl,g5⟩
theorem k89_mkM (w:World)(base:Nat)(ok:Nat→Prop)(x:S89){D:Value}(g5:(Kd.int .i64).R 3 w base ok D x.f2.f1):k89.M w base ok x [.int .i64 x.f0.f0,.int .i64 x.f0.f1,.int .i64 x.f0.f2,.int .i64 x.f1,.int .i64 x.f2.f0,D,.int .i64 x.f2.f2.f0,.int .i64 x.f2.f2.f1,.int .i64 x.f2.f2.f2]:=⟨[.int .i64 x.f0.f0,.int .i64 x.f0.f1,.int .i64 x.f0.f2],[.int .i64 x.f1,.int .i64 x.f2.f0,D,.int .i64 x.f2.f2.f0,.int .i64 x.f2.f2.f1,.int .i64 x.f2.f2.f2],rfl,(k64_mkM w base ok x.f0),⟨[.int .i64 x.f1],[.int .i64 x.f2.f0,D,.int .i64 x.f2.f2.f0,.int .i64 x.f2.f2.f1,.int .i64 x.f2.f2.f2],rfl,rfl,(k87_mkM w base ok x.f2 g5)⟩⟩
def rd_T89 (xs:List S89)(i:Int):S89:=xs.getD i.toNat z89
theorem at_T89 {w:World}{A:Option Addr}{n:Nat}{xs:List S89}(h:Kd.C k89 w A n xs)(i:Int)(h0:0≤i)(h1:i < n):∃ ad D J,A=some ad∧w.cell? (ad.add (i.toNat * 9))=some (.int .i64 (rd_T89 xs i).f0.f0)∧w.cell? ⟨(ad.add (i.toNat * 9)).block,(ad.add (i.toNat * 9)).off+1,none⟩=some (.int .i64 (rd_T89 xs i).f0.f1)∧w.cell? ⟨(ad.add (i.toNat * 9)).block,(ad.add (i.toNat * 9)).off+2,none⟩=some (.int .i64 (rd_T89 xs i).f0.f2)∧w.cell? ⟨(ad.add (i.toNat * 9)).block,(ad.add (i.toNat * 9)).off+3,none⟩=some (.int .i64 (rd_T89 xs i).f1)∧w.cell? ⟨(ad.add (i.toNat * 9)).block,(ad.add (i.toNat * 9)).off+4,none⟩=some (.int .i64 (rd_T89 xs i).f2.f0)∧w.cell? ⟨(ad.add (i.toNat * 9)).block,(ad.add (i.toNat * 9)).off+5,none⟩=some (.slice D (rd_T89 xs i).f2.f1.length J)∧w.cell? ⟨(ad.add (i.toNat * 9)).block,(ad.add (i.toNat * 9)).off+6,none⟩=some (.int .i64 (rd_T89 xs i).f2.f2.f0)∧w.cell? ⟨(ad.add (i.toNat * 9)).block,(ad.add (i.toNat * 9)).off+7,none⟩=some (.int .i64 (rd_T89 xs i).f2.f2.f1)∧w.cell? ⟨(ad.add (i.toNat * 9)).block,(ad.add (i.toNat * 9)).off+8,none⟩=some (.int .i64 (rd_T89 xs i).f2.f2.f2)∧(rd_T89 xs i).f2.f1.length≤J∧(Kd.int .i64).C w D (rd_T89 xs i).f2.f1.length (rd_T89 xs i).f2.f1:=by
  obtain⟨ad,c,e,_,hK,U⟩:=Kd.C_get h z89 i h0 h1;have hc:∀ j u,c[j]?=some u→w.cell? (ad.add (i.toNat * 9+j))=some u:=U;obtain⟨D,J,rfl,X,g5⟩:=k89_open hK;exact⟨ad,D,J,e,hc 0 _ rfl,by rw[←add_field _ _ 1 (by omega)];exact hc 1 _ rfl,by rw[←add_field _ _ 2 (by omega)];exact hc 2 _ rfl,by rw[←add_field _ _ 3 (by omega)];exact hc 3 _ rfl,by rw[←add_field _ _ 4 (by omega)];exact hc 4 _ rfl,by rw[←add_field _ _ 5 (by omega)];exact hc 5 _ rfl,by rw[←add_field _ _ 6 (by omega)];exact hc 6 _ rfl,by rw[←add_field _ _ 7 (by omega)];exact hc 7 _ rfl,by rw[←add_field _ _ 8 (by omega)];exact hc 8 _ rfl,X,g5⟩
structure S66 where
  f0:Int
  f1:S64
  f2:Int
def z66:S66:=⟨(0:Int),z64,(0:Int)⟩
def k66:Kd S66:=Kd.iso (Kd.pair (Kd.int .i64) (Kd.pair k64 (Kd.int .i64))) (fun x:S66=>(x.f0,x.f1,x.f2))
theorem k66_open {w:World}{x:S66}{cs:List Value}(h:k66.K w x cs):cs=[.int .i64 x.f0,.int .i64 x.f1.f0,.int .i64 x.f1.f1,.int .i64 x.f1.f2,.int .i64 x.f2]:=by
  obtain⟨_,_,rfl,rfl,⟨_,_,rfl,s1,rfl⟩⟩:=h;obtain rfl:=k64_open s1;exact rfl
theorem k66_openM {w:World}{base:Nat}{ok:Nat→Prop}{x:S66}{cs:List Value}(h:k66.M w base ok x cs):cs=[.int .i64 x.f0,.int .i64 x.f1.f0,.int .i64 x.f1.f1,.int .i64 x.f1.f2,.int .i64 x.f2]:=by
  obtain⟨_,_,rfl,rfl,⟨_,_,rfl,s1,rfl⟩⟩:=h;obtain rfl:=k64_openM s1;exact rfl
theorem k66_mkM (w:World)(base:Nat)(ok:Nat→Prop)(x:S66)  : k66.M w base ok x [.int .i64 x.f0,.int .i64 x.f1.f0,.int .i64 x.f1.f1,.int .i64 x.f1.f2,.int .i64 x.f2]:=⟨[.int .i64 x.f0],[.int .i64 x.f1.f0,.int .i64 x.f1.f1,.int .i64 x.f1.f2,.int .i64 x.f2],rfl,rfl,⟨[.int .i64 x.f1.f0,.int .i64 x.f1.f1,.int .i64 x.f1.f2],[.int .i64 x.f2],rfl,(k64_mkM w base ok x.f1),rfl⟩⟩
def rd_T66 (xs:List S66)(i:Int):S66:=xs.getD i.toNat z66
theorem at_T66 {w:World}{A:Option Addr}{n:Nat}{xs:List S66}(h:Kd.C k66 w A n xs)(i:Int)(h0:0≤i)(h1:i < n):∃ ad ,A=some ad∧w.cell? (ad.add (i.toNat * 5))=some (.int .i64 (rd_T66 xs i).f0)∧w.cell? ⟨(ad.add (i.toNat * 5)).block,(ad.add (i.toNat * 5)).off+1,none⟩=some (.int .i64 (rd_T66 xs i).f1.f0)∧w.cell? ⟨(ad.add (i.toNat * 5)).block,(ad.add (i.toNat * 5)).off+2,none⟩=some (.int .i64 (rd_T66 xs i).f1.f1)∧w.cell? ⟨(ad.add (i.toNat * 5)).block,(ad.add (i.toNat * 5)).off+3,none⟩=some (.int .i64 (rd_T66 xs i).f1.f2)∧w.cell? ⟨(ad.add (i.toNat * 5)).block,(ad.add (i.toNat * 5)).off+4,none⟩=some (.int .i64 (rd_T66 xs i).f2):=by
  obtain⟨ad,c,e,_,hK,D⟩:=Kd.C_get h z66 i h0 h1;have hc:∀ j u,c[j]?=some u→w.cell? (ad.add (i.toNat * 5+j))=some u:=D;obtain rfl:=k66_open hK;exact⟨ad,e,hc 0 _ rfl,by rw[←add_field _ _ 1 (by omega)];exact hc 1 _ rfl,by rw[←add_field _ _ 2 (by omega)];exact hc 2 _ rfl,by rw[←add_field _ _ 3 (by omega)];exact hc 3 _ rfl,by rw[←add_field _ _ 4 (by omega)];exact hc 4 _ rfl⟩
structure S31 where
  f0:Int
  f1:(List Int)
  f2:(List Int)
  f3:(List Int)
def z31:S31:=⟨(0:Int),([]:List Int),([]:List Int),([]:List Int)⟩
def k31:Kd S31:=Kd.iso (Kd.pair (Kd.int .i64) (Kd.pair (Kd.slice 3 (Kd.int .i64)) (Kd.pair (Kd.slice 3 (Kd.int .i64)) (Kd.slice 3 (Kd.int .i64))))) (fun x:S31=>(x.f0,x.f1,x.f2,x.f3))
theorem k31_open {w:World}{x:S31}{cs:List Value}(h:k31.K w x cs):∃ D J U X Y Z,cs=[.int .i64 x.f0,.slice D x.f1.length J,.slice U x.f2.length X,.slice Y x.f3.length Z]∧x.f1.length≤J∧(Kd.int .i64).C w D x.f1.length x.f1∧x.f2.length≤X∧(Kd.int .i64).C w U x.f2.length x.f2∧x.f3.length≤Z∧(Kd.int .i64).C w Y x.f3.length x.f3:=by
  obtain⟨_,_,rfl,rfl,⟨_,_,rfl,⟨D,J,rfl,l1,g1⟩,⟨_,_,rfl,⟨U,X,rfl,l2,g2⟩,⟨Y,Z,rfl,l3,g3⟩⟩⟩⟩:=h;exact⟨D,J,U,X,Y,Z,rfl,l1,g1,l2,g2,l3,g3⟩
theorem k31_mkM (w:World)(base:Nat)(ok:Nat→Prop)(x:S31){U:Value}(g1:(Kd.int .i64).R 3 w base ok U x.f1){D:Value}(g2:(Kd.int .i64).R 3 w base ok D x.f2){J:Value}(g3:(Kd.int .i64).R 3 w base ok J x.f3):k31.M w base ok x [.int .i64 x.f0,U,D,J]:=⟨[.int .i64 x.f0],[U,D,J],rfl,rfl,⟨[U],[D,J],rfl,⟨U,rfl,g1⟩,⟨[D],[J],rfl,⟨D,rfl,g2⟩,⟨J,rfl,g3⟩⟩⟩⟩
def rd_T31 (xs:List S31)(i:Int):S31:=xs.getD i.toNat z31
theorem at_T31 {w:World}{A:Option Addr}{n:Nat}{xs:List S31}(h:Kd.C k31 w A n xs)(i:Int)(h0:0≤i)(h1:i < n):∃ ad D J U X Y Z,A=some ad∧w.cell? (ad.add (i.toNat * 4))=some (.int .i64 (rd_T31 xs i).f0)∧w.cell? ⟨(ad.add (i.toNat * 4)).block,(ad.add (i.toNat * 4)).off+1,none⟩=some (.slice D (rd_T31 xs i).f1.length J)∧w.cell? ⟨(ad.add (i.toNat * 4)).block,(ad.add (i.toNat * 4)).off+2,none⟩=some (.slice U (rd_T31 xs i).f2.length X)∧w.cell? ⟨(ad.add (i.toNat * 4)).block,(ad.add (i.toNat * 4)).off+3,none⟩=some (.slice Y (rd_T31 xs i).f3.length Z)∧(rd_T31 xs i).f1.length≤J∧(Kd.int .i64).C w D (rd_T31 xs i).f1.length (rd_T31 xs i).f1∧(rd_T31 xs i).f2.length≤X∧(Kd.int .i64).C w U (rd_T31 xs i).f2.length (rd_T31 xs i).f2∧(rd_T31 xs i).f3.length≤Z∧(Kd.int .i64).C w Y (rd_T31 xs i).f3.length (rd_T31 xs i).f3:=by
  obtain⟨ad,c,e,_,hK,aa⟩:=Kd.C_get h z31 i h0 h1;have hc:∀ j u,c[j]?=some u→w.cell? (ad.add (i.toNat * 4+j))=some u:=aa;obtain⟨D,J,U,X,Y,Z,rfl,l1,g1,l2,g2,l3,g3⟩:=k31_open hK;exact⟨ad,D,J,U,X,Y,Z,e,hc 0 _ rfl,by rw[←add_field _ _ 1 (by omega)];exact hc 1 _ rfl,by rw[←add_field _ _ 2 (by omega)];exact hc 2 _ rfl,by rw[←add_field _ _ 3 (by omega)];exact hc 3 _ rfl,l1,g1,l2,g2,l3,g3⟩
end Go.Proofs.YtlkehcbhbflpoaaGreat.MFnExactRecordVisit
