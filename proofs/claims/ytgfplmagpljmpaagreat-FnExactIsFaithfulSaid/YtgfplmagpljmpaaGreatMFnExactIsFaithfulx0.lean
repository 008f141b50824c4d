import Derived.Test.YtgfplmagpljmpaaGreatRun
import Derived.Test.YtgfplmagpljmpaaGreatShr2
import Derived.Test.YtgfplmagpljmpaaGreatProg
import Derived.Below
import Derived.Deep.Draws
import Derived.Deep.AppendLies
import Derived.Maps.AppendAt
import Derived.OwnWalk
import Derived.Laws.BytesArg
import Derived.Laws.MakeOwn
import Derived.Laws.OwnMore
import Derived.Deep.OwnRows
import Derived.Tactics
import Derived.Lib.ConvBytes
import Derived.Laws.Slices
import Derived.WalkKit
import Derived.KernelRfl
import Derived.RowKit3
import Derived.Deep.LoopGhost
import Derived.Deep.QuietTactic
import Derived.BigQuiet
import Derived.WideLaws
import Derived.Deep.DeepCutAuto
import Derived.Deep.CutBlock
import Derived.Deep.RegionHeld3
import Derived.Laws.Rows
import Derived.Lib.AppendStr
import Derived.ArgAppend
import Derived.Laws.IdiomCopy
import Derived.OrdersHeld
import Derived.Laws.BitsLemmas
import Derived.RowKit
import Derived.Test.YtgfplmagpljmpaaGreatWWords
import Derived.Test.YtgfplmagpljmpaaGreatWLast
import Derived.Test.YtgfplmagpljmpaaGreatWTab
import Derived.Test.YtgfplmagpljmpaaGreatWFour
import Derived.Test.YtgfplmagpljmpaaGreatWQPut
import Derived.Test.YtgfplmagpljmpaaGreatWApart
import Derived.Test.YtgfplmagpljmpaaGreatWArr
import Derived.Test.YtgfplmagpljmpaaGreatWZeros
import Derived.Test.YtgfplmagpljmpaaGreatWFoot
import Derived.Test.YtgfplmagpljmpaaGreatWKept
import Derived.Test.YtgfplmagpljmpaaGreatWShare
import Derived.Test.YtgfplmagpljmpaaGreatWN
import Derived.Test.YtgfplmagpljmpaaGreatWFootNe
import Derived.Test.YtgfplmagpljmpaaGreatWAt
import Derived.Test.YtgfplmagpljmpaaGreatWEqStruct
import Derived.Test.YtgfplmagpljmpaaGreatWRepsOne
import Derived.Test.YtgfplmagpljmpaaGreatWInv
import Derived.Test.YtgfplmagpljmpaaGreatWInvWords
import Derived.Test.YtgfplmagpljmpaaGreatWGuard
import Derived.Test.YtgfplmagpljmpaaGreatWNEv
import Derived.Test.YtgfplmagpljmpaaGreatWMore
import Derived.Test.YtgfplmagpljmpaaGreatFnV
namespace Go.Proofs.YtgfplmagpljmpaaGreat.MFnExactIsFaithful
open Go.RowKit Go.Proofs.YtgfplmagpljmpaaGreatW.PrintWords Go.Proofs.YtgfplmagpljmpaaGreatW.PrintLast Go.Proofs.YtgfplmagpljmpaaGreatW.PrintMore
attribute [local go_sem] max2_int min2_int max_two min_two max_three min_three max_four min_four
set_option linter.unusedVariables false
set_option linter.unusedSimpArgs false
def errW:Option Int→Value
  | none=>.nilIface
  | some c=>.iface 0 (.int .i64 c)
theorem errW_none:errW none = .nilIface:=rfl
theorem errW_some (c:Int):errW (some c) = .iface 0 (.int .i64 c):=rfl
theorem info3:(Tryz.prog.info? 3).map (fun i=>(i.zero,i.size,i.bytes))=some (some (.int .i64 0),1,8):=by kernel_rfl
theorem info54:(Tryz.prog.info? 54).map (fun i=>(i.zero,i.size,i.bytes))=some (some (.agg #[(.int .i64 0),(.int .i64 0),(.int .i64 0),(.int .i64 0)]),4,32):=by kernel_rfl
theorem info76:(Tryz.prog.info? 76).map (fun i=>(i.zero,i.size,i.bytes))=some (some (.agg #[(.int .i64 0),(.int .i64 0),(.int .i64 0)]),3,24):=by kernel_rfl
theorem info80:(Tryz.prog.info? 80).map (fun i=>(i.zero,i.size,i.bytes))=some (some (.agg #[(.int .i64 0),(.int .i64 0),(.int .i64 0),(.int .i64 0),(.int .i64 0),(.slice none 0 0),(.int .i64 0),(.int .i64 0),(.int .i64 0)]),9,88):=by kernel_rfl
theorem info94:(Tryz.prog.info? 94).map (fun i=>(i.zero,i.size,i.bytes))=some (some (.agg #[(.int .i64 0),(.int .i64 0),(.int .i64 0),(.int .i64 0),(.int .i64 0)]),5,40):=by kernel_rfl
structure S56 where
  f0:Int
  f1:Int
  f2:Int
  f3:Int
def z56:S56:=⟨(0:Int),(0:Int),(0:Int),(0:Int)⟩
def k56:Kd S56:=Kd.iso (Kd.pair (Kd.int .i64) (Kd.pair (Kd.int .i64) (Kd.pair (Kd.int .i64) (Kd.int .i64)))) (fun x:S56=>(x.f0,x.f1,x.f2,x.f3))
theorem k56_open {w:World}{x:S56}{cs:List Value}(h:k56.K w x cs):cs=[.int .i64 x.f0,.int .i64 x.f1,.int .i64 x.f2,.int .i64 x.f3]:=by
  obtain⟨_,_,rfl,rfl,⟨_,_,rfl,rfl,⟨_,_,rfl,rfl,rfl⟩⟩⟩:=h;exact rfl
def rd_T56 (xs:List S56)(i:Int):S56:=xs.getD i.toNat z56
theorem at_T56 {w:World}{A:Option Addr}{n:Nat}{xs:List S56}(h:Kd.C k56 w A n xs)(i:Int)(h0:0≤i)(h1:i < n):∃ ad ,A=some ad∧w.cell? (ad.add (i.toNat * 4))=some (.int .i64 (rd_T56 xs i).f0)∧w.cell? ⟨(ad.add (i.toNat * 4)).block,(ad.add (i.toNat * 4)).off+1,none⟩=some (.int .i64 (rd_T56 xs i).f1)∧w.cell? ⟨(ad.add (i.toNat * 4)).block,(ad.add (i.toNat * 4)).off+2,none⟩=some (.int .i64 (rd_T56 xs i).f2)∧w.cell? ⟨(ad.add (i.toNat * 4)).block,(ad.add (i.toNat * 4)).off+3,none⟩=some (.int .i64 (rd_T56 xs i).f3):=by
  obtain⟨ad,c,e,_,hK,D⟩:=Kd.C_get h z56 i h0 h1;have hc:∀ j u,c[j]?=some u→w.cell? (ad.add (i.toNat * 4+j))=some u:=D;obtain rfl:=k56_open hK;exact⟨ad,e,hc 0 _ rfl,by rw[←add_field _ _ 1 (by omega)];exact hc 1 _ rfl,by rw[←add_field _ _ 2 (by omega)];exact hc 2 _ rfl,by rw[←add_field _ _ 3 (by omega)];exact hc 3 _ rfl⟩
structure S66 where
  f0:Int
  f1:Int
  f2:Int
def z66:S66:=⟨(0:Int),(0:Int),(0:Int)⟩
def k66:Kd S66:=Kd.iso (Kd.pair (Kd.int .i64) (Kd.pair (Kd.int .i64) (Kd.int .i64))) (fun x:S66=>(x.f0,x.f1,x.f2))
theorem k66_open {w:World}{x:S66}{cs:List Value}(h:k66.K w x cs):cs=[.int .i64 x.f0,.int .i64 x.f1,.int .i64 x.f2]:=by
  obtain⟨_,_,rfl,rfl,⟨_,_,rfl,rfl,rfl⟩⟩:=h;exact rfl
structure S68 where
  f0:Int
  f1:(List Int)
  f2:S66
def z68:S68:=⟨(0:Int),([]:List Int),z66⟩
def k68:Kd S68:=Kd.iso (Kd.pair (Kd.int .i64) (Kd.pair (Kd.slice 3 (Kd.int .i64)) k66)) (fun x:S68=>(x.f0,x.f1,x.f2))
theorem k68_open {w:World}{x:S68}{cs:List Value}(h:k68.K w x cs):∃ D J,cs=[.int .i64 x.f0,.slice D x.f1.length J,.int .i64 x.f2.f0,.int .i64 x.f2.f1,.int .i64 x.f2.f2]∧x.f1.length≤J∧(Kd.int .i64).C w D x.f1.length x.f1:=by
  obtain⟨_,_,rfl,rfl,⟨_,_,rfl,⟨D,J,rfl,U,g1⟩,s2⟩⟩:=h;obtain rfl:=k66_open s2;exact⟨D,J,rfl,U,g1⟩
structure S70 where
  f0:S66
  f1:Int
  f2:S68
def z70:S70:=⟨z66,(0:Int),z68⟩
def k70:Kd S70:=Kd.iso (Kd.pair k66 (Kd.pair (Kd.int .i64) k68)) (fun x:S70=>(x.f0,x.f1,x.f2))
theorem k70_open {w:World}{x:S70}{cs:List Value}(h:k70.K w x cs):∃ D J,cs=[.int .i64 x.f0.f0,.int .i64 x.f0.f1,.int .i64 x.f0.f2,.int .i64 x.f1,.int .i64 x.f2.f0,.slice D x.f2.f1.length J,.int .i64 x.f2.f2.f0,.int .i64 x.f2.f2.f1,.int .i64 x.f2.f2.f2]∧x.f2.f1.length≤J∧(Kd.int .i64).C w D x.f2.f1.length x.f2.f1:=by
  obtain⟨_,_,rfl,s0,⟨_,_,rfl,rfl,s4⟩⟩:=h;obtain rfl:=k66_open s0;obtain⟨D,J,rfl,U,g5⟩:=k68_open s4;exact⟨D,J,rfl,U,g5⟩
def rd_T70 (xs:List S70)(i:Int):S70:=xs.getD i.toNat z70
theorem at_T70 {w:World}{A:Option Addr}{n:Nat}{xs:List S70}(h:Kd.C k70 w A n xs)(i:Int)(h0:0≤i)(h1:i < n):∃ ad D J,A=some ad∧w.cell? (ad.add (i.toNat * 9))=some (.int .i64 (rd_T70 xs i).f0.f0)∧w.cell? ⟨(ad.add (i.toNat * 9)).block,(ad.add (i.toNat * 9)).off+1,none⟩=some (.int .i64 (rd_T70 xs i).f0.f1)∧w.cell? ⟨(ad.add (i.toNat * 9)).block,(ad.add (i.toNat * 9)).off+2,none⟩=some (.int .i64 (rd_T70 xs i).f0.f2)∧w.cell? ⟨(ad.add (i.toNat * 9)).block,(ad.add (i.toNat * 9)).off+3,none⟩=some (.int .i64 (rd_T70 xs i).f1)∧w.cell? ⟨(ad.add (i.toNat * 9)).block,(ad.add (i.toNat * 9)).off+4,none⟩=some (.int .i64 (rd_T70 xs i).f2.f0)∧w.cell? ⟨(ad.add (i.toNat * 9)).block,(ad.add (i.toNat * 9)).off+5,none⟩=some (.slice D (rd_T70 xs i).f2.f1.length J)∧w.cell? ⟨(ad.add (i.toNat * 9)).block,(ad.add (i.toNat * 9)).off+6,none⟩=some (.int .i64 (rd_T70 xs i).f2.f2.f0)∧w.cell? ⟨(ad.add (i.toNat * 9)).block,(ad.add (i.toNat * 9)).off+7,none⟩=some (.int .i64 (rd_T70 xs i).f2.f2.f1)∧w.cell? ⟨(ad.add (i.toNat * 9)).block,(ad.add (i.toNat * 9)).off+8,none⟩=some (.int .i64 (rd_T70 xs i).f2.f2.f2)∧(rd_T70 xs i).f2.f1.length≤J∧(Kd.int .i64).C w D (rd_T70 xs i).f2.f1.length (rd_T70 xs i).f2.f1:=by
  obtain⟨ad,c,e,_,hK,U⟩:=Kd.C_get h z70 i h0 h1;have hc:∀ j u,c[j]?=some u→w.cell? (ad.add (i.toNat * 9+j))=some u:=U;obtain⟨D,J,rfl,X,g5⟩:=k70_open hK;exact⟨ad,D,J,e,hc 0 _ rfl,by rw[←add_field _ _ 1 (by omega)];exact hc 1 _ rfl,by rw[←add_field _ _ 2 (by omega)];exact hc 2 _ rfl,by rw[←add_field _ _ 3 (by omega)];exact hc 3 _ rfl,by rw[←add_field _ _ 4 (by omega)];exact hc 4 _ rfl,by rw[←add_field _ _ 5 (by omega)];exact hc 5 _ rfl,by rw[←add_field _ _ 6 (by omega)];exact hc 6 _ rfl,by rw[←add_field _ _ 7 (by omega)];exact hc 7 _ rfl,by rw[←add_field _ _ 8 (by omega)];exact hc 8 _ rfl,X,g5⟩
structure S54 where
  f0:Int
  f1:Int
  f2:Int
  f3:Int
def z54:S54:=⟨(0:Int),(0:Int),(0:Int),(0:Int)⟩
def k54:Kd S54:=Kd.iso (Kd.pair (Kd.int .i64) (Kd.pair (Kd.int .i64) (Kd.pair (Kd.int .i64) (Kd.int .i64)))) (fun x:S54=>(x.f0,x.f1,x.f2,x.f3))
theorem k54_open {w:World}{x:S54}{cs:List Value}(h:k54.K w x cs):cs=[.int .i64 x.f0,.int .i64 x.f1,.int .i64 x.f2,.int .i64 x.f3]:=by
  obtain⟨_,_,rfl,rfl,⟨_,_,rfl,rfl,⟨_,_,rfl,rfl,rfl⟩⟩⟩:=h;exact rfl
theorem k54_openM {w:World}{base:Nat}{ok:Nat→Prop}{x:S54}{cs:List Value}(h:k54.M w base ok x cs):cs=[.int .i64 x.f0,.int .i64 x.f1,.int .i64 x.f2,.int .i64 x.f3]:=by
  obtain⟨_,_,rfl,rfl,⟨_,_,rfl,rfl,⟨_,_,rfl,rfl,rfl⟩⟩⟩:=h;exact rfl
theorem k54_mkM (w:World)(base:Nat)(ok:Nat→Prop)(x:S54)  : k54.M w base ok x [.int .i64 x.f0,.int .i64 x.f1,.int .i64 x.f2,.int .i64 x.f3]:=⟨[.int .i64 x.f0],[.int .i64 x.f1,.int .i64 x.f2,.int .i64 x.f3],rfl,rfl,⟨[.int .i64 x.f1],[.int .i64 x.f2,.int .i64 x.f3],rfl,rfl,⟨[.int .i64 x.f2],[.int .i64 x.f3],rfl,rfl,rfl⟩⟩⟩
def rd_T54 (xs:List S54)(i:Int):S54:=xs.getD i.toNat z54
theorem at_T54 {w:World}{A:Option Addr}{n:Nat}{xs:List S54}(h:Kd.C k54 w A n xs)(i:Int)(h0:0≤i)(h1:i < n):∃ ad ,A=some ad∧w.cell? (ad.add (i.toNat * 4))=some (.int .i64 (rd_T54 xs i).f0)∧w.cell? ⟨(ad.add (i.toNat * 4)).block,(ad.add (i.toNat * 4)).off+1,none⟩=some (.int .i64 (rd_T54 xs i).f1)∧w.cell? ⟨(ad.add (i.toNat * 4)).block,(ad.add (i.toNat * 4)).off+2,none⟩=some (.int .i64 (rd_T54 xs i).f2)∧w.cell? ⟨(ad.add (i.toNat * 4)).block,(ad.add (i.toNat * 4)).off+3,none⟩=some (.int .i64 (rd_T54 xs i).f3):=by
  obtain⟨ad,c,e,_,hK,D⟩:=Kd.C_get h z54 i h0 h1;have hc:∀ j u,c[j]?=some u→w.cell? (ad.add (i.toNat * 4+j))=some u:=D;obtain rfl:=k54_open hK;exact⟨ad,e,hc 0 _ rfl,by rw[←add_field _ _ 1 (by omega)];exact hc 1 _ rfl,by rw[←add_field _ _ 2 (by omega)];exact hc 2 _ rfl,by rw[←add_field _ _ 3 (by omega)];exact hc 3 _ rfl⟩
structure S76 where
  f0:Int
  f1:Int
  f2:Int
def z76:S76:=⟨(0:Int),(0:Int),(0:Int)⟩
def k76:Kd S76:=Kd.iso (Kd.pair (Kd.int .i64) (Kd.pair (Kd.int .i64) (Kd.int .i64))) (fun x:S76=>(x.f0,x.f1,x.f2))
theorem k76_open {w:World}{x:S76}{cs:List Value}(h:k76.K w x cs):cs=[.int .i64 x.f0,.int .i64 x.f1,.int .i64 x.f2]:=by
  obtain⟨_,_,rfl,rfl,⟨_,_,rfl,rfl,rfl⟩⟩:=h;exact rfl
theorem k76_openM {w:World}{base:Nat}{ok:Nat→Prop}{x:S76}{cs:List Value}(h:k76.M w base ok x cs):cs=[.int .i64 x.f0,.int .i64 x.f1,.int .i64 x.f2]:=by
  obtain⟨_,_,rfl,rfl,⟨_,_,rfl,rfl,rfl⟩⟩:=h;exact rfl
theorem k76_mkM (w:World)(base:Nat)(ok:Nat→Prop)(x:S76)  : k76.M w base ok x [.int .i64 x.f0,.int .i64 x.f1,.int .i64 x.f2]:=⟨[.int .i64 x.f0],[.int .i64 x.f1,.int .i64 x.f2],rfl,rfl,⟨[.int .i64 x.f1],[.int .i64 x.f2],rfl,rfl,rfl⟩⟩
def rd_T76 (xs:List S76)(i:Int):S76:=xs.getD i.toNat z76
theorem at_T76 {w:World}{A:Option Addr}{n:Nat}{xs:List S76}(h:Kd.C k76 w A n xs)(i:Int)(h0:0≤i)(h1:i < n):∃ ad ,A=some ad∧w.cell? (ad.add (i.toNat * 3))=some (.int .i64 (rd_T76 xs i).f0)∧w.cell? ⟨(ad.add (i.toNat * 3)).block,(ad.add (i.toNat * 3)).off+1,none⟩=some (.int .i64 (rd_T76 xs i).f1)∧w.cell? ⟨(ad.add (i.toNat * 3)).block,(ad.add (i.toNat * 3)).off+2,none⟩=some (.int .i64 (rd_T76 xs i).f2):=by
  obtain⟨ad,c,e,_,hK,D⟩:=Kd.C_get h z76 i h0 h1;have hc:∀ j u,c[j]?=some u→w.cell? (ad.add (i.toNat * 3+j))=some u:=D;obtain rfl:=k76_open hK;exact⟨ad,e,hc 0 _ rfl,by rw[←add_field _ _ 1 (by omega)];exact hc 1 _ rfl,by rw[←add_field _ _ 2 (by omega)];exact hc 2 _ rfl⟩
structure S78 where
  f0:Int
  f1:(List Int)
  f2:S76
def z78:S78:=⟨(0:Int),([]:List Int),z76⟩
def k78:Kd S78:=Kd.iso (Kd.pair (Kd.int .i64) (Kd.pair (Kd.slice 3 (Kd.int .i64)) k76)) (fun x:S78=>(x.f0,x.f1,x.f2))
theorem k78_open {w:World}{x:S78}{cs:List Value}(h:k78.K w x cs):∃ D J,cs=[.int .i64 x.f0,.slice D x.f1.length J,.int .i64 x.f2.f0,.int .i64 x.f2.f1,.int .i64 x.f2.f2]∧x.f1.length≤J∧(Kd.int .i64).C w D x.f1.length x.f1:=by
  obtain⟨_,_,rfl,rfl,⟨_,_,rfl,⟨D,J,rfl,U,g1⟩,s2⟩⟩:=h;obtain rfl:=k76_open s2;exact⟨D,J,rfl,U,g1⟩
theorem k78_openM {w:World}{base:Nat}{ok:Nat→Prop}{x:S78}{cs:List Value}(h:k78.M w base ok x cs):∃ D,cs=[.int .i64 x.f0,D,.int .i64 x.f2.f0,.int .i64 x.f2.f1,.int .i64 x.f2.f2]∧(Kd.int .i64).R 3 w base ok D x.f1:=by
  obtain⟨_,_,rfl,rfl,⟨_,_,rfl,⟨D,rfl,g1⟩,s2⟩⟩:=h;obtain rfl:=k76_openM s2;exact⟨D,rfl,g1⟩
theorem k78_mkM (w:World)(base:Nat)(ok:Nat→Prop)(x:S78){D:Value}(g1:(Kd.int .i64).R 3 w base ok D x.f1):k78.M w base ok x [.int .i64 x.f0,D,.int .i64 x.f2.f0,.int .i64 x.f2.f1,.int .i64 x.f2.f2]:=⟨[.int .i64 x.f0],[D,.int .i64 x.f2.f0,.int .i64 x.f2.f1,.int .i64 x.f2.f2],rfl,rfl,⟨[D],[.int .i64 x.f2.f0,.int .i64 x.f2.f1,.int .i64 x.f2.f2],rfl,⟨D,rfl,g1⟩,(k76_mkM w base ok x.f2)⟩⟩
structure S80 where
  f0:S76
  f1:Int
  f2:S78
def z80:S80:=⟨z76,(0:Int),z78⟩
def k80:Kd S80:=Kd.iso (Kd.pair k76 (Kd.pair (Kd.int .i64) k78)) (fun x:S80=>(x.f0,x.f1,x.f2))
theorem k80_open {w:World}{x:S80}{cs:List Value}(h:k80.K w x cs):∃ D J,cs=[.int .i64 x.f0.f0,.int .i64 x.f0.f1,.int .i64 x.f0.f2,.int .i64 x.f1,.int .i64 x.f2.f0,.slice D x.f2.f1.length J,.int .i64 x.f2.f2.f0,.int .i64 x.f2.f2.f1,.int .i64 x.f2.f2.f2]∧x.f2.f1.length≤J∧(Kd.int .i64).C w D x.f2.f1.length x.f2.f1:=by
  obtain⟨_,_,rfl,s0,⟨_,_,rfl,rfl,s4⟩⟩:=h;obtain rfl:=k76_open s0;obtain⟨D,J,rfl,U,g5⟩:=k78_open s4;exact⟨D,J,rfl,U,g5⟩
theorem k80_openM {w:World}{base:Nat}{ok:Nat→Prop}{x:S80}{cs:List Value}(h:k80.M w base ok x cs):∃ D,cs=[.int .i64 x.f0.f0,.int .i64 x.f0.f1,.int .i64 x.f0.f2,.int .i64 x.f1,.int .i64 x.f2.f0,D,.int .i64 x.f2.f2.f0,.int .i64 x.f2.f2.f1,.int .i64 x.f2.f2.f2]∧(Kd.int .i64).R 3 w base ok D x.f2.f1:=by
  obtain⟨_,_,rfl,s0,⟨_,_,rfl,rfl,s4⟩⟩:=h;obtain rfl:=k76_openM s0;obtain⟨D,rfl,g5⟩:=k78_openM s4;exact⟨D,rfl,g5⟩
theorem k80_mkM (w:World)(base:Nat)(ok:Nat→Prop)(x:S80){D:Value}(g5:(Kd.int .i64).R 3 w base ok D x.f2.f1):k80.M w base ok x [.int .i64 x.f0.f0,.int .i64 x.f0.f1,.int .i64 x.f0.f2,.int .i64 x.f1,.int .i64 x.f2.f0,D,.int .i64 x.f2.f2.f0,.int .i64 x.f2.f2.f1,.int .i64 x.f2.f2.f2]:=⟨[.int .i64 x.f0.f0,.int .i64 x.f0.f1,.int .i64 x.f0.f2],[.int .i64 x.f1,.int .i64 x.f2.f0,D,.int .i64 x.f2.f2.f0,.int .i64 x.f2.f2.f1,.int .i64 x.f2.f2.f2],rfl,(k76_mkM w base ok x.f0),⟨[.int .i64 x.f1],[.int .i64 x.f2.f0,D,.int .i64 x.f2.f2.f0,.int .i64 x.f2.f2.f1,.int .i64 x.f2.f2.f2],rfl,rfl,(k78_mkM w base ok x.f2 g5)⟩⟩
def rd_T80 (xs:List S80)(i:Int):S80:=xs.getD i.toNat z80
theorem at_T80 {w:World}{A:Option Addr}{n:Nat}{xs:List S80}(h:Kd.C k80 w A n xs)(i:Int)(h0:0≤i)(h1:i < n):∃ ad D J,A=some ad∧w.cell? (ad.add (i.toNat * 9))=some (.int .i64 (rd_T80 xs i).f0.f0)∧w.cell? ⟨(ad.add (i.toNat * 9)).block,(ad.add (i.toNat * 9)).off+1,none⟩=some (.int .i64 (rd_T80 xs i).f0.f1)∧w.cell? ⟨(ad.add (i.toNat * 9)).block,(ad.add (i.toNat * 9)).off+2,none⟩=some (.int .i64 (rd_T80 xs i).f0.f2)∧w.cell? ⟨(ad.add (i.toNat * 9)).block,(ad.add (i.toNat * 9)).off+3,none⟩=some (.int .i64 (rd_T80 xs i).f1)∧w.cell? ⟨(ad.add (i.toNat * 9)).block,(ad.add (i.toNat * 9)).off+4,none⟩=some (.int .i64 (rd_T80 xs i).f2.f0)∧w.cell? ⟨(ad.add (i.toNat * 9)).block,(ad.add (i.toNat * 9)).off+5,none⟩=some (.slice D (rd_T80 xs i).f2.f1.length J)∧w.cell? ⟨(ad.add (i.toNat * 9)).block,(ad.add (i.toNat * 9)).off+6,none⟩=some (.int .i64 (rd_T80 xs i).f2.f2.f0)∧w.cell? ⟨(ad.add (i.toNat * 9)).block,(ad.add (i.toNat * 9)).off+7,none⟩=some (.int .i64 (rd_T80 xs i).f2.f2.f1)∧w.cell? ⟨(ad.add (i.toNat * 9)).block,(ad.add (i.toNat * 9)).off+8,none⟩=some (.int .i64 (rd_T80 xs i).f2.f2.f2)∧(rd_T80 xs i).f2.f1.length≤J∧(Kd.int .i64).C w D (rd_T80 xs i).f2.f1.length (rd_T80 xs i).f2.f1:=by
  obtain⟨ad,c,e,_,hK,U⟩:=Kd.C_get h z80 i h0 h1;have hc:∀ j u,c[j]?=some u→w.cell? (ad.add (i.toNat * 9+j))=some u:=U;obtain⟨D,J,rfl,X,g5⟩:=k80_open hK;exact⟨ad,D,J,e,hc 0 _ rfl,by rw[←add_field _ _ 1 (by omega)];exact hc 1 _ rfl,by rw[←add_field _ _ 2 (by omega)];exact hc 2 _ rfl,by rw[←add_field _ _ 3 (by omega)];exact hc 3 _ rfl,by rw[←add_field _ _ 4 (by omega)];exact hc 4 _ rfl,by rw[←add_field _ _ 5 (by omega)];exact hc 5 _ rfl,by rw[←add_field _ _ 6 (by omega)];exact hc 6 _ rfl,by rw[←add_field _ _ 7 (by omega)];exact hc 7 _ rfl,by rw[←add_field _ _ 8 (by omega)];exact hc 8 _ rfl,X,g5⟩
structure S94 where
  f0:Int
  f1:S76
  f2:Int
def z94:S94:=⟨(0:Int),z76,(0:Int)⟩
def k94:Kd S94:=Kd.iso (Kd.pair (Kd.int .i64) (Kd.pair k76 (Kd.int .i64))) (fun x:S94=>(x.f0,x.f1,x.f2))
theorem k94_open {w:World}{x:S94}{cs:List Value}(h:k94.K w x cs):cs=[.int .i64 x.f0,.int .i64 x.f1.f0,.int .i64 x.f1.f1,.int .i64 x.f1.f2,.int .i64 x.f2]:=by
  obtain⟨_,_,rfl,rfl,⟨_,_,rfl,s1,rfl⟩⟩:=h;obtain rfl:=k76_open s1;exact rfl
theorem k94_mkM (w:World)(base:Nat)(ok:Nat→Prop)(x:S94)  : k94.M w base ok x [.int .i64 x.f0,.int .i64 x.f1.f0,.int .i64 x.f1.f1,.int .i64 x.f1.f2,.int .i64 x.f2]:=⟨[.int .i64 x.f0],[.int .i64 x.f1.f0,.int .i64 x.f1.f1,.int .i64 x.f1.f2,.int .i64 x.f2],rfl,rfl,⟨[.int .i64 x.f1.f0,.int .i64 x.f1.f1,.int .i64 x.f1.f2],[.int .i64 x.f2],rfl,(k76_mkM w base ok x.f1),rfl⟩⟩
def rd_T94 (xs:List S94)(i:Int):S94:=xs.getD i.toNat z94
theorem at_T94 {w:World}{A:Option Addr}{n:Nat}{xs:List S94}(h:Kd.C k94 w A n xs)(i:Int)(h0:0≤i)(h1:i < n):∃ ad ,A=some ad∧w.cell? (ad.add (i.toNat * 5))=some (.int .i64 (rd_T94 xs i).f0)∧w.cell? ⟨(ad.add (i.toNat * 5)).block,(ad.add (i.toNat * 5)).off+1,none⟩=some (.int .i64 (rd_T94 xs i).f1.f0)∧w.cell? ⟨(ad.add (i.toNat * 5)).block,(ad.add (i.toNat * 5)).off+2,none⟩=some (.int .i64 (rd_T94 xs i).f1.f1)∧w.cell? ⟨(ad.add (i.toNat * 5)).block,(ad.add (i.toNat * 5)).off+3,none⟩=some (.int .i64 (rd_T94 xs i).f1.f2)∧w.cell? ⟨(ad.add (i.toNat * 5)).block,(ad.add (i.toNat * 5)).off+4,none⟩=some (.int .i64 (rd_T94 xs i).f2):=by
  obtain⟨ad,c,e,_,hK,D⟩:=Kd.C_get h z94 i h0 h1;have hc:∀ j u,c[j]?=some u→w.cell? (ad.add (i.toNat * 5+j))=some u:=D;obtain rfl:=k94_open hK;exact⟨ad,e,hc 0 _ rfl,by rw[←add_field _ _ 1 (by omega)];exact hc 1 _ rfl,by rw[←add_field _ _ 2 (by omega)];exact hc 2 _ rfl,by rw[←add_field _ _ 3 (by omega)];exact hc 3 _ rfl,by rw[←add_field _ _ 4 (by omega)];exact hc 4 _ rfl⟩
structure S43 where
  f0:Int
  f1:(List Int)
  f2:(List Int)
  f3:(List Int)
def z43:S43:=⟨(0:Int),([]:List Int),([]:List Int),([]:List Int)⟩
def k43:Kd S43:=Kd.iso (Kd.pair (Kd.int .i64) (Kd.pair (Kd.slice 3 (Kd.int .i64)) (Kd.pair (Kd.slice 3 (Kd.int .i64)) (Kd.slice 3 (Kd.int .i64))))) (fun x:S43=>(x.f0,x.f1,x.f2,x.f3))
theorem k43_open {w:World}{x:S43}{cs:List Value}(h:k43.K w x cs):∃ D J U X Y Z,cs=[.int .i64 x.f0,.slice D x.f1.length J,.slice U x.f2.length X,.slice Y x.f3.length Z]∧x.f1.length≤J∧(Kd.int .i64).C w D x.f1.length x.f1∧x.f2.length≤X∧(Kd.int .i64).C w U x.f2.length x.f2∧x.f3.length≤Z∧(Kd.int .i64).C w Y x.f3.length x.f3:=by
  obtain⟨_,_,rfl,rfl,⟨_,_,rfl,⟨D,J,rfl,l1,g1⟩,⟨_,_,rfl,⟨U,X,rfl,l2,g2⟩,⟨Y,Z,rfl,l3,g3⟩⟩⟩⟩:=h;exact⟨D,J,U,X,Y,Z,rfl,l1,g1,l2,g2,l3,g3⟩
theorem k43_mkM (w:World)(base:Nat)(ok:Nat→Prop)(x:S43){U:Value}(g1:(Kd.int .i64).R 3 w base ok U x.f1){D:Value}(g2:(Kd.int .i64).R 3 w base ok D x.f2){J:Value}(g3:(Kd.int .i64).R 3 w base ok J x.f3):k43.M w base ok x [.int .i64 x.f0,U,D,J]:=⟨[.int .i64 x.f0],[U,D,J],rfl,rfl,⟨[U],[D,J],rfl,⟨U,rfl,g1⟩,⟨[D],[J],rfl,⟨D,rfl,g2⟩,⟨J,rfl,g3⟩⟩⟩⟩
def rd_T43 (xs:List S43)(i:Int):S43:=xs.getD i.toNat z43
theorem at_T43 {w:World}{A:Option Addr}{n:Nat}{xs:List S43}(h:Kd.C k43 w A n xs)(i:Int)(h0:0≤i)(h1:i < n):∃ ad D J U X Y Z,A=some ad∧w.cell? (ad.add (i.toNat * 4))=some (.int .i64 (rd_T43 xs i).f0)∧w.cell? ⟨(ad.add (i.toNat * 4)).block,(ad.add (i.toNat * 4)).off+1,none⟩=some (.slice D (rd_T43 xs i).f1.length J)∧w.cell? ⟨(ad.add (i.toNat * 4)).block,(ad.add (i.toNat * 4)).off+2,none⟩=some (.slice U (rd_T43 xs i).f2.length X)∧w.cell? ⟨(ad.add (i.toNat * 4)).block,(ad.add (i.toNat * 4)).off+3,none⟩=some (.slice Y (rd_T43 xs i).f3.length Z)∧(rd_T43 xs i).f1.length≤J∧(Kd.int .i64).C w D (rd_T43 xs i).f1.length (rd_T43 xs i).f1∧(rd_T43 xs i).f2.length≤X∧(Kd.int .i64).C w U (rd_T43 xs i).f2.length (rd_T43 xs i).f2∧(rd_T43 xs i).f3.length≤Z∧(Kd.int .i64).C w Y (rd_T43 xs i).f3.length (rd_T43 xs i).f3:=by
  obtain⟨ad,c,e,_,hK,aa⟩:=Kd.C_get h z43 i h0 h1;have hc:∀ j u,c[j]?=some u→w.cell? (ad.add (i.toNat * 4+j))=some u:=aa;obtain⟨D,J,U,X,Y,Z,rfl,l1,g1,l2,g2,l3,g3⟩:=k43_open hK;exact⟨ad,D,J,U,X,Y,Z,e,hc 0 _ rfl,by rw[←add_field _ _ 1 (by omega)];exact hc 1 _ rfl,by rw[←add_field _ _ 2 (by omega)];exact hc 2 _ rfl,by rw[←add_field _ _ 3 (by omega)];exact hc 3 _ rfl,l1,g1,l2,g2,l3,g3⟩
end Go.Proofs.YtgfplmagpljmpaaGreat.MFnExactIsFaithful
