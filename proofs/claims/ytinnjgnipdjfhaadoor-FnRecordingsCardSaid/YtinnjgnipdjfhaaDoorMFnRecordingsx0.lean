import Derived.Test.YtinnjgnipdjfhaaDoorRun
import Derived.Test.YtinnjgnipdjfhaaDoorShr2
import Derived.Test.YtinnjgnipdjfhaaDoorProg
import Derived.Below
import Derived.Deep.Draws
import Derived.Deep.AppendLies
import Derived.Maps.AppendAt
import Derived.OwnWalk
import Derived.Laws.BytesArg
import Derived.Laws.MakeOwn
import Derived.Laws.OwnMore
import Derived.Deep.OwnRows
import Derived.Tactics
import Derived.Lib.ConvBytes
import Derived.Laws.Slices
import Derived.WalkKit
import Derived.KernelRfl
import Derived.RowKit3
import Derived.Deep.LoopGhost
import Derived.Deep.QuietTactic
import Derived.BigQuiet
import Derived.WideLaws
import Derived.Deep.DeepCutAuto
import Derived.Deep.CutBlock
import Derived.Deep.RegionHeld3
import Derived.Laws.Rows
import Derived.Lib.AppendStr
import Derived.ArgAppend
import Derived.Laws.IdiomCopy
import Derived.OrdersHeld
import Derived.Laws.BitsLemmas
import Derived.RowKit
import Derived.Test.YtinnjgnipdjfhaaDoorWWords
import Derived.Test.YtinnjgnipdjfhaaDoorWLast
import Derived.Test.YtinnjgnipdjfhaaDoorWTab
import Derived.Test.YtinnjgnipdjfhaaDoorWFour
import Derived.Test.YtinnjgnipdjfhaaDoorWQPut
import Derived.Test.YtinnjgnipdjfhaaDoorWApart
import Derived.Test.YtinnjgnipdjfhaaDoorWArr
import Derived.Test.YtinnjgnipdjfhaaDoorWZeros
import Derived.Test.YtinnjgnipdjfhaaDoorWFoot
import Derived.Test.YtinnjgnipdjfhaaDoorWKept
import Derived.Test.YtinnjgnipdjfhaaDoorWShare
import Derived.Test.YtinnjgnipdjfhaaDoorWN
import Derived.Test.YtinnjgnipdjfhaaDoorWFootNe
import Derived.Test.YtinnjgnipdjfhaaDoorWAt
import Derived.Test.YtinnjgnipdjfhaaDoorWEqStruct
import Derived.Test.YtinnjgnipdjfhaaDoorWRepsOne
import Derived.Test.YtinnjgnipdjfhaaDoorWInv
import Derived.Test.YtinnjgnipdjfhaaDoorWInvWords
import Derived.Test.YtinnjgnipdjfhaaDoorWGuard
import Derived.Test.YtinnjgnipdjfhaaDoorWNEv
import Derived.Test.YtinnjgnipdjfhaaDoorWMore
import Derived.Test.YtinnjgnipdjfhaaDoorFnV
namespace Go.Proofs.YtinnjgnipdjfhaaDoor.MFnRecordings
open Go.RowKit Go.Proofs.YtinnjgnipdjfhaaDoorW.PrintWords Go.Proofs.YtinnjgnipdjfhaaDoorW.PrintLast Go.Proofs.YtinnjgnipdjfhaaDoorW.PrintMore
attribute [local go_sem] max2_int min2_int max_two min_two max_three min_three max_four min_four
set_option linter.unusedVariables false
set_option linter.unusedSimpArgs false
def errW:Option Int→Value
  | none=>.nilIface
  | some c=>.iface 0 (.int .i64 c)
theorem errW_none:errW none = .nilIface:=rfl
theorem errW_some (c:Int):errW (some c) = .iface 0 (.int .i64 c):=rfl
theorem info3:(Tryd.prog.info? 3).map (fun i=>(i.zero,i.size,i.bytes))=some (some (.int .i64 0),1,8):=by kernel_rfl
theorem info46:(Tryd.prog.info? 46).map (fun i=>(i.zero,i.size,i.bytes))=some (some (.agg #[(.int .i64 0),(.int .i64 0),(.int .i64 0)]),3,24):=by kernel_rfl
theorem info51:(Tryd.prog.info? 51).map (fun i=>(i.zero,i.size,i.bytes))=some (some (.agg #[(.int .i64 0),(.int .i64 0),(.int .i64 0),(.int .i64 0),(.int .i64 0)]),5,40):=by kernel_rfl
theorem info66:(Tryd.prog.info? 66).map (fun i=>(i.zero,i.size,i.bytes))=some (some (.agg #[(.int .i64 0),(.int .i64 0),(.int .i64 0),(.int .i64 0)]),4,32):=by kernel_rfl
theorem info96:(Tryd.prog.info? 96).map (fun i=>(i.zero,i.size,i.bytes))=some (some (.agg #[(.int .i64 0),(.int .i64 0),(.int .i64 0),(.int .i64 0),(.int .i64 0),(.slice none 0 0),(.int .i64 0),(.int .i64 0),(.int .i64 0)]),9,88):=by kernel_rfl
structure S66 where
  f0:Int
  f1:Int
  f2:Int
  f3:Int
def z66:S66:=⟨(0:Int),(0:Int),(0:Int),(0:Int)⟩
def k66:Kd S66:=Kd.iso (Kd.pair (Kd.int .i64) (Kd.pair (Kd.int .i64) (Kd.pair (Kd.int .i64) (Kd.int .i64)))) (fun x:S66=>(x.f0,x.f1,x.f2,x.f3))
theorem k66_open {w:World}{x:S66}{cs:List Value}(h:k66.K w x cs):cs=[.int .i64 x.f0,.int .i64 x.f1,.int .i64 x.f2,.int .i64 x.f3]:=by
  obtain⟨_,_,rfl,rfl,⟨_,_,rfl,rfl,⟨_,_,rfl,rfl,rfl⟩⟩⟩:=h;exact rfl
theorem k66_openM {w:World}{base:Nat}{ok:Nat→Prop}{x:S66}{cs:List Value}(h:k66.M w base ok x cs):cs=[.int .i64 x.f0,.int .i64 x.f1,.int .i64 x.f2,.int .i64 x.f3]:=by
  obtain⟨_,_,rfl,rfl,⟨_,_,rfl,rfl,⟨_,_,rfl,rfl,rfl⟩⟩⟩:=h;exact rfl
theorem k66_mkM (w:World)(base:Nat)(ok:Nat→Prop)(x:S66)  : k66.M w base ok x [.int .i64 x.f0,.int .i64 x.f1,.int .i64 x.f2,.int .i64 x.f3]:=⟨[.int .i64 x.f0],[.int .i64 x.f1,.int .i64 x.f2,.int .i64 x.f3],rfl,rfl,⟨[.int .i64 x.f1],[.int .i64 x.f2,.int .i64 x.f3],rfl,rfl,⟨[.int .i64 x.f2],[.int .i64 x.f3],rfl,rfl,rfl⟩⟩⟩
def rd_T66 (xs:List S66)(i:Int):S66:=xs.getD i.toNat z66
theorem at_T66 {w:World}{A:Option Addr}{n:Nat}{xs:List S66}(h:Kd.C k66 w A n xs)(i:Int)(h0:0≤i)(h1:i < n):∃ ad ,A=some ad∧w.cell? (ad.add (i.toNat * 4))=some (.int .i64 (rd_T66 xs i).f0)∧w.cell? ⟨(ad.add (i.toNat * 4)).block,(ad.add (i.toNat * 4)).off+1,none⟩=some (.int .i64 (rd_T66 xs i).f1)∧w.cell? ⟨(ad.add (i.toNat * 4)).block,(ad.add (i.toNat * 4)).off+2,none⟩=some (.int .i64 (rd_T66 xs i).f2)∧w.cell? ⟨(ad.add (i.toNat * 4)).block,(ad.add (i.toNat * 4)).off+3,none⟩=some (.int .i64 (rd_T66 xs i).f3):=by
  obtain⟨ad,c,e,_,hK,D⟩:=Kd.C_get h z66 i h0 h1;have hc:∀ j u,c[j]?=some u→w.cell? (ad.add (i.toNat * 4+j))=some u:=D;obtain rfl:=k66_open hK;exact⟨ad,e,hc 0 _ rfl,by rw[←add_field _ _ 1 (by omega)];exact hc 1 _ rfl,by rw[←add_field _ _ 2 (by omega)];exact hc 2 _ rfl,by rw[←add_field _ _ 3 (by omega)];exact hc 3 _ rfl⟩
structure S46 where
  f0:Int
  f1:Int
  f2:Int
def z46:S46:=⟨(0:Int),(0:Int),(0:Int)⟩
def k46:Kd S46:=Kd.iso (Kd.pair (Kd.int .i64) (Kd.pair (Kd.int .i64) (Kd.int .i64))) (fun x:S46=>(x.f0,x.f1,x.f2))
theorem k46_open {w:World}{x:S46}{cs:List Value}(h:k46.K w x cs):cs=[.int .i64 x.f0,.int .i64 x.f1,.int .i64 x.f2]:=by
  obtain⟨_,_,rfl,rfl,⟨_,_,rfl,rfl,rfl⟩⟩:=h;exact rfl
theorem k46_openM {w:World}{base:Nat}{ok:Nat→Prop}{x:S46}{cs:List Value}(h:k46.M w base ok x cs):cs=[.int .i64 x.f0,.int .i64 x.f1,.int .i64 x.f2]:=by
  obtain⟨_,_,rfl,rfl,⟨_,_,rfl,rfl,rfl⟩⟩:=h;exact rfl
theorem k46_mkM (w:World)(base:Nat)(ok:Nat→Prop)(x:S46)  : k46.M w base ok x [.int .i64 x.f0,.int .i64 x.f1,.int .i64 x.f2]:=⟨[.int .i64 x.f0],[.int .i64 x.f1,.int .i64 x.f2],rfl,rfl,⟨[.int .i64 x.f1],[.int .i64 x.f2],rfl,rfl,rfl⟩⟩
def rd_T46 (xs:List S46)(i:Int):S46:=xs.getD i.toNat z46
theorem at_T46 {w:World}{A:Option Addr}{n:Nat}{xs:List S46}(h:Kd.C k46 w A n xs)(i:Int)(h0:0≤i)(h1:i < n):∃ ad ,A=some ad∧w.cell? (ad.add (i.toNat * 3))=some (.int .i64 (rd_T46 xs i).f0)∧w.cell? ⟨(ad.add (i.toNat * 3)).block,(ad.add (i.toNat * 3)).off+1,none⟩=some (.int .i64 (rd_T46 xs i).f1)∧w.cell? ⟨(ad.add (i.toNat * 3)).block,(ad.add (i.toNat * 3)).off+2,none⟩=some (.int .i64 (rd_T46 xs i).f2):=by
  obtain⟨ad,c,e,_,hK,D⟩:=Kd.C_get h z46 i h0 h1;have hc:∀ j u,c[j]?=some u→w.cell? (ad.add (i.toNat * 3+j))=some u:=D;obtain rfl:=k46_open hK;exact⟨ad,e,hc 0 _ rfl,by rw[←add_field _ _ 1 (by omega)];exact hc 1 _ rfl,by rw[←add_field _ _ 2 (by omega)];exact hc 2 _ rfl⟩
structure S76 where
  f0:Int
  f1:(List Int)
  f2:S46
def z76:S76:=⟨(0:Int),([]:List Int),z46⟩
def k76:Kd S76:=Kd.iso (Kd.pair (Kd.int .i64) (Kd.pair (Kd.slice 3 (Kd.int .i64)) k46)) (fun x:S76=>(x.f0,x.f1,x.f2))
theorem k76_open {w:World}{x:S76}{cs:List Value}(h:k76.K w x cs):∃ D J,cs=[.int .i64 x.f0,.slice D x.f1.length J,.int .i64 x.f2.f0,.int .i64 x.f2.f1,.int .i64 x.f2.f2]∧x.f1.length≤J∧(Kd.int .i64).C w D x.f1.length x.f1:=by
  obtain⟨_,_,rfl,rfl,⟨_,_,rfl,⟨D,J,rfl,U,g1⟩,s2⟩⟩:=h;obtain rfl:=k46_open s2;exact⟨D,J,rfl,U,g1⟩
theorem k76_openM {w:World}{base:Nat}{ok:Nat→Prop}{x:S76}{cs:List Value}(h:k76.M w base ok x cs):∃ D,cs=[.int .i64 x.f0,D,.int .i64 x.f2.f0,.int .i64 x.f2.f1,.int .i64 x.f2.f2]∧(Kd.int .i64).R 3 w base ok D x.f1:=by
  obtain⟨_,_,rfl,rfl,⟨_,_,rfl,⟨D,rfl,g1⟩,s2⟩⟩:=h;obtain rfl:=k46_openM s2;exact⟨D,rfl,g1⟩
theorem k76_mkM (w:World)(base:Nat)(ok:Nat→Prop)(x:S76){D:Value}(g1:(Kd.int .i64).R 3 w base ok D x.f1):k76.M w base ok x [.int .i64 x.f0,D,.int .i64 x.f2.f0,.int .i64 x.f2.f1,.int .i64 x.f2.f2]:=⟨[.int .i64 x.f0],[D,.int .i64 x.f2.f0,.int .i64 x.f2.f1,.int .i64 x.f2.f2],rfl,rfl,⟨[D],[.int .i64 x.f2.f0,.int .i64 x.f2.f1,.int .i64 x.f2.f2],rfl,⟨D,rfl,g1⟩,(k46_mkM w base ok x.f2)⟩⟩
structure S96 where
  f0:S46
  f1:Int
  f2:S76
def z96:S96:=⟨z46,(0:Int),z76⟩
def k96:Kd S96:=Kd.iso (Kd.pair k46 (Kd.pair (Kd.int .i64) k76)) (fun x:S96=>(x.f0,x.f1,x.f2))
theorem k96_open {w:World}{x:S96}{cs:List Value}(h:k96.K w x cs):∃ D J,cs=[.int .i64 x.f0.f0,.int .i64 x.f0.f1,.int .i64 x.f0.f2,.int .i64 x.f1,.int .i64 x.f2.f0,.slice D x.f2.f1.length J,.int .i64 x.f2.f2.f0,.int .i64 x.f2.f2.f1,.int .i64 x.f2.f2.f2]∧x.f2.f1.length≤J∧(Kd.int .i64).C w D x.f2.f1.length x.f2.f1:=by
  obtain⟨_,_,rfl,s0,⟨_,_,rfl,rfl,s4⟩⟩:=h;obtain rfl:=k46_open s0;obtain⟨D,J,rfl,U,g5⟩:=k76_open s4;exact⟨D,J,rfl,U,g5⟩
theorem k96_openM {w:World}{base:Nat}{ok:Nat→Prop}{x:S96}{cs:List Value}(h:k96.M w base ok x cs):∃ D,cs=[.int .i64 x.f0.f0,.int .i64 x.f0.f1,.int .i64 x.f0.f2,.int .i64 x.f1,.int .i64 x.f2.f0,D,.int .i64 x.f2.f2.f0,.int .i64 x.f2.f2.f1,.int .i64 x.f2.f2.f2]∧(Kd.int .i64).R 3 w base ok D x.f2.f1:=by
  obtain⟨_,_,rfl,s0,⟨_,_,rfl,rfl,s4⟩⟩:=h;obtain rfl:=k46_openM s0;obtain⟨D,rfl,g5⟩:=k76_openM s4;exact⟨D,rfl,g5⟩
theorem k96_mkM (w:World)(base:Nat)(ok:Nat→Prop)(x:S96){D:Value}(g5:(Kd.int .i64).R 3 w base ok D x.f2.f1):k96.M w base ok x [.int .i64 x.f0.f0,.int .i64 x.f0.f1,.int .i64 x.f0.f2,.int .i64 x.f1,.int .i64 x.f2.f0,D,.int .i64 x.f2.f2.f0,.int .i64 x.f2.f2.f1,.int .i64 x.f2.f2.f2]:=⟨[.int .i64 x.f0.f0,.int .i64 x.f0.f1,.int .i64 x.f0.f2],[.int .i64 x.f1,.int .i64 x.f2.f0,D,.int .i64 x.f2.f2.f0,.int .i64 x.f2.f2.f1,.int .i64 x.f2.f2.f2],rfl,(k46_mkM w base ok x.f0),⟨[.int .i64 x.f1],[.int .i64 x.f2.f0,D,.int .i64 x.f2.f2.f0,.int .i64 x.f2.f2.f1,.int .i64 x.f2.f2.f2],rfl,rfl,(k76_mkM w base ok x.f2 g5)⟩⟩
def rd_T96 (xs:List S96)(i:Int):S96:=xs.getD i.toNat z96
theorem at_T96 {w:World}{A:Option Addr}{n:Nat}{xs:List S96}(h:Kd.C k96 w A n xs)(i:Int)(h0:0≤i)(h1:i < n):∃ ad D J,A=some ad∧w.cell? (ad.add (i.toNat * 9))=some (.int .i64 (rd_T96 xs i).f0.f0)∧w.cell? ⟨(ad.add (i.toNat * 9)).block,(ad.add (i.toNat * 9)).off+1,none⟩=some (.int .i64 (rd_T96 xs i).f0.f1)∧w.cell? ⟨(ad.add (i.toNat * 9)).block,(ad.add (i.toNat * 9)).off+2,none⟩=some (.int .i64 (rd_T96 xs i).f0.f2)∧w.cell? ⟨(ad.add (i.toNat * 9)).block,(ad.add (i.toNat * 9)).off+3,none⟩=some (.int .i64 (rd_T96 xs i).f1)∧w.cell? ⟨(ad.add (i.toNat * 9)).block,(ad.add (i.toNat * 9)).off+4,none⟩=some (.int .i64 (rd_T96 xs i).f2.f0)∧w.cell? ⟨(ad.add (i.toNat * 9)).block,(ad.add (i.toNat * 9)).off+5,none⟩=some (.slice D (rd_T96 xs i).f2.f1.length J)∧w.cell? ⟨(ad.add (i.toNat * 9)).block,(ad.add (i.toNat * 9)).off+6,none⟩=some (.int .i64 (rd_T96 xs i).f2.f2.f0)∧w.cell? ⟨(ad.add (i.toNat * 9)).block,(ad.add (i.toNat * 9)).off+7,none⟩=some (.int .i64 (rd_T96 xs i).f2.f2.f1)∧w.cell? ⟨(ad.add (i.toNat * 9)).block,(ad.add (i.toNat * 9)).off+8,none⟩=some (.int .i64 (rd_T96 xs i).f2.f2.f2)∧(rd_T96 xs i).f2.f1.length≤J∧(Kd.int .i64).C w D (rd_T96 xs i).f2.f1.length (rd_T96 xs i).f2.f1:=by
  obtain⟨ad,c,e,_,hK,U⟩:=Kd.C_get h z96 i h0 h1;have hc:∀ j u,c[j]?=some u→w.cell? (ad.add (i.toNat * 9+j))=some u:=U;obtain⟨D,J,rfl,X,g5⟩:=k96_open hK;exact⟨ad,D,J,e,hc 0 _ rfl,by rw[←add_field _ _ 1 (by omega)];exact hc 1 _ rfl,by rw[←add_field _ _ 2 (by omega)];exact hc 2 _ rfl,by rw[←add_field _ _ 3 (by omega)];exact hc 3 _ rfl,by rw[←add_field _ _ 4 (by omega)];exact hc 4 _ rfl,by rw[←add_field _ _ 5 (by omega)];exact hc 5 _ rfl,by rw[←add_field _ _ 6 (by omega)];exact hc 6 _ rfl,by rw[←add_field _ _ 7 (by omega)];exact hc 7 _ rfl,by rw[←add_field _ _ 8 (by omega)];exact hc 8 _ rfl,X,g5⟩
structure S51 where
  f0:Int
  f1:S46
  f2:Int
def z51:S51:=⟨(0:Int),z46,(0:Int)⟩
def k51:Kd S51:=Kd.iso (Kd.pair (Kd.int .i64) (Kd.pair k46 (Kd.int .i64))) (fun x:S51=>(x.f0,x.f1,x.f2))
theorem k51_open {w:World}{x:S51}{cs:List Value}(h:k51.K w x cs):cs=[.int .i64 x.f0,.int .i64 x.f1.f0,.int .i64 x.f1.f1,.int .i64 x.f1.f2,.int .i64 x.f2]:=by
  obtain⟨_,_,rfl,rfl,⟨_,_,rfl,s1,rfl⟩⟩:=h;obtain rfl:=k46_open s1;exact rfl
theorem k51_mkM (w:World)(base:Nat)(ok:Nat→Prop)(x:S51)  : k51.M w base ok x [.int .i64 x.f0,.int .i64 x.f1.f0,.int .i64 x.f1.f1,.int .i64 x.f1.f2,.int .i64 x.f2]:=⟨[.int .i64 x.f0],[.int .i64 x.f1.f0,.int .i64 x.f1.f1,.int .i64 x.f1.f2,.int .i64 x.f2],rfl,rfl,⟨[.int .i64 x.f1.f0,.int .i64 x.f1.f1,.int .i64 x.f1.f2],[.int .i64 x.f2],rfl,(k46_mkM w base ok x.f1),rfl⟩⟩
def rd_T51 (xs:List S51)(i:Int):S51:=xs.getD i.toNat z51
theorem at_T51 {w:World}{A:Option Addr}{n:Nat}{xs:List S51}(h:Kd.C k51 w A n xs)(i:Int)(h0:0≤i)(h1:i < n):∃ ad ,A=some ad∧w.cell? (ad.add (i.toNat * 5))=some (.int .i64 (rd_T51 xs i).f0)∧w.cell? ⟨(ad.add (i.toNat * 5)).block,(ad.add (i.toNat * 5)).off+1,none⟩=some (.int .i64 (rd_T51 xs i).f1.f0)∧w.cell? ⟨(ad.add (i.toNat * 5)).block,(ad.add (i.toNat * 5)).off+2,none⟩=some (.int .i64 (rd_T51 xs i).f1.f1)∧w.cell? ⟨(ad.add (i.toNat * 5)).block,(ad.add (i.toNat * 5)).off+3,none⟩=some (.int .i64 (rd_T51 xs i).f1.f2)∧w.cell? ⟨(ad.add (i.toNat * 5)).block,(ad.add (i.toNat * 5)).off+4,none⟩=some (.int .i64 (rd_T51 xs i).f2):=by
  obtain⟨ad,c,e,_,hK,D⟩:=Kd.C_get h z51 i h0 h1;have hc:∀ j u,c[j]?=some u→w.cell? (ad.add (i.toNat * 5+j))=some u:=D;obtain rfl:=k51_open hK;exact⟨ad,e,hc 0 _ rfl,by rw[←add_field _ _ 1 (by omega)];exact hc 1 _ rfl,by rw[←add_field _ _ 2 (by omega)];exact hc 2 _ rfl,by rw[←add_field _ _ 3 (by omega)];exact hc 3 _ rfl,by rw[←add_field _ _ 4 (by omega)];exact hc 4 _ rfl⟩
structure S33 where
  f0:Int
  f1:(List Int)
  f2:(List Int)
  f3:(List Int)
def z33:S33:=⟨(0:Int),([]:List Int),([]:List Int),([]:List Int)⟩
def k33:Kd S33:=Kd.iso (Kd.pair (Kd.int .i64) (Kd.pair (Kd.slice 3 (Kd.int .i64)) (Kd.pair (Kd.slice 3 (Kd.int .i64)) (Kd.slice 3 (Kd.int .i64))))) (fun x:S33=>(x.f0,x.f1,x.f2,x.f3))
theorem k33_open {w:World}{x:S33}{cs:List Value}(h:k33.K w x cs):∃ D J U X Y Z,cs=[.int .i64 x.f0,.slice D x.f1.length J,.slice U x.f2.length X,.slice Y x.f3.length Z]∧x.f1.length≤J∧(Kd.int .i64).C w D x.f1.length x.f1∧x.f2.length≤X∧(Kd.int .i64).C w U x.f2.length x.f2∧x.f3.length≤Z∧(Kd.int .i64).C w Y x.f3.length x.f3:=by
  obtain⟨_,_,rfl,rfl,⟨_,_,rfl,⟨D,J,rfl,l1,g1⟩,⟨_,_,rfl,⟨U,X,rfl,l2,g2⟩,⟨Y,Z,rfl,l3,g3⟩⟩⟩⟩:=h;exact⟨D,J,U,X,Y,Z,rfl,l1,g1,l2,g2,l3,g3⟩
theorem k33_openM {w:World}{base:Nat}{ok:Nat→Prop}{x:S33}{cs:List Value}(h:k33.M w base ok x cs):∃ D J U,cs=[.int .i64 x.f0,D,J,U]∧(Kd.int .i64).R 3 w base ok D x.f1∧(Kd.int .i64).R 3 w base ok J x.f2∧(Kd.int .i64).R 3 w base ok U x.f3:=by
  obtain⟨_,_,rfl,rfl,⟨_,_,rfl,⟨D,rfl,g1⟩,⟨_,_,rfl,⟨J,rfl,g2⟩,⟨U,rfl,g3⟩⟩⟩⟩:=h;exact⟨D,J,U,rfl,g1,g2,g3⟩
theorem k33_mkM (w:World)(base:Nat)(ok:Nat→Prop)(x:S33){U:Value}(g1:(Kd.int .i64).R 3 w base ok U x.f1){D:Value}(g2:(Kd.int .i64).R 3 w base ok D x.f2){J:Value}(g3:(Kd.int .i64).R 3 w base ok J x.f3):k33.M w base ok x [.int .i64 x.f0,U,D,J]:=⟨[.int .i64 x.f0],[U,D,J],rfl,rfl,⟨[U],[D,J],rfl,⟨U,rfl,g1⟩,⟨[D],[J],rfl,⟨D,rfl,g2⟩,⟨J,rfl,g3⟩⟩⟩⟩
def rd_T33 (xs:List S33)(i:Int):S33:=xs.getD i.toNat z33
theorem at_T33 {w:World}{A:Option Addr}{n:Nat}{xs:List S33}(h:Kd.C k33 w A n xs)(i:Int)(h0:0≤i)(h1:i < n):∃ ad D J U X Y Z,A=some ad∧w.cell? (ad.add (i.toNat * 4))=some (.int .i64 (rd_T33 xs i).f0)∧w.cell? ⟨(ad.add (i.toNat * 4)).block,(ad.add (i.toNat * 4)).off+1,none⟩=some (.slice D (rd_T33 xs i).f1.length J)∧w.cell? ⟨(ad.add (i.toNat * 4)).block,(ad.add (i.toNat * 4)).off+2,none⟩=some (.slice U (rd_T33 xs i).f2.length X)∧w.cell? ⟨(ad.add (i.toNat * 4)).block,(ad.add (i.toNat * 4)).off+3,none⟩=some (.slice Y (rd_T33 xs i).f3.length Z)∧(rd_T33 xs i).f1.length≤J∧(Kd.int .i64).C w D (rd_T33 xs i).f1.length (rd_T33 xs i).f1∧(rd_T33 xs i).f2.length≤X∧(Kd.int .i64).C w U (rd_T33 xs i).f2.length (rd_T33 xs i).f2∧(rd_T33 xs i).f3.length≤Z∧(Kd.int .i64).C w Y (rd_T33 xs i).f3.length (rd_T33 xs i).f3:=by
  obtain⟨ad,c,e,_,hK,aa⟩:=Kd.C_get h z33 i h0 h1;have hc:∀ j u,c[j]?=some u→w.cell? (ad.add (i.toNat * 4+j))=some u:=aa;obtain⟨D,J,U,X,Y,Z,rfl,l1,g1,l2,g2,l3,g3⟩:=k33_open hK;exact⟨ad,D,J,U,X,Y,Z,e,hc 0 _ rfl,by rw[←add_field _ _ 1 (by omega)];exact hc 1 _ rfl,by rw[←add_field _ _ 2 (by omega)];exact hc 2 _ rfl,by rw[←add_field _ _ 3 (by omega)];exact hc 3 _ rfl,l1,g1,l2,g2,l3,g3⟩
end Go.Proofs.YtinnjgnipdjfhaaDoor.MFnRecordings
