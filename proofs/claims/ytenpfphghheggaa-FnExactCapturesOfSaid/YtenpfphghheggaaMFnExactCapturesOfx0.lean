import Derived.Test.YtenpfphghheggaaRun
import Derived.Test.YtenpfphghheggaaShr2
import Derived.Test.YtenpfphghheggaaProg
import Derived.Below
import Derived.Deep.Draws
import Derived.Deep.AppendLies
import Derived.Maps.AppendAt
import Derived.OwnWalk
import Derived.Laws.BytesArg
import Derived.Laws.MakeOwn
import Derived.Laws.OwnMore
import Derived.Deep.OwnRows
import Derived.Tactics
import Derived.Lib.ConvBytes
import Derived.Laws.Slices
import Derived.WalkKit
import Derived.KernelRfl
import Derived.RowKit3
import Derived.Deep.LoopGhost
import Derived.Deep.QuietTactic
import Derived.BigQuiet
import Derived.WideLaws
import Derived.Deep.DeepCutAuto
import Derived.Deep.CutBlock
import Derived.Deep.RegionHeld3
import Derived.Laws.Rows
import Derived.Lib.AppendStr
import Derived.ArgAppend
import Derived.Laws.IdiomCopy
import Derived.OrdersHeld
import Derived.Laws.BitsLemmas
import Derived.RowKit
import Derived.Test.YtenpfphghheggaaWWords
import Derived.Test.YtenpfphghheggaaWLast
import Derived.Test.YtenpfphghheggaaWTab
import Derived.Test.YtenpfphghheggaaWFour
import Derived.Test.YtenpfphghheggaaWQPut
import Derived.Test.YtenpfphghheggaaWApart
import Derived.Test.YtenpfphghheggaaWArr
import Derived.Test.YtenpfphghheggaaWZeros
import Derived.Test.YtenpfphghheggaaWFoot
import Derived.Test.YtenpfphghheggaaWKept
import Derived.Test.YtenpfphghheggaaWShare
import Derived.Test.YtenpfphghheggaaWN
import Derived.Test.YtenpfphghheggaaWFootNe
import Derived.Test.YtenpfphghheggaaWAt
import Derived.Test.YtenpfphghheggaaWEqStruct
import Derived.Test.YtenpfphghheggaaWRepsOne
import Derived.Test.YtenpfphghheggaaWInv
import Derived.Test.YtenpfphghheggaaWInvWords
import Derived.Test.YtenpfphghheggaaWGuard
import Derived.Test.YtenpfphghheggaaWNEv
import Derived.Test.YtenpfphghheggaaWMore
import Derived.Test.YtenpfphghheggaaFnV
namespace Go.Proofs.Ytenpfphghheggaa.MFnExactCapturesOf
open Go.RowKit Go.Proofs.YtenpfphghheggaaW.PrintWords Go.Proofs.YtenpfphghheggaaW.PrintLast Go.Proofs.YtenpfphghheggaaW.PrintMore
attribute [local go_sem] max2_int min2_int max_two min_two max_three min_three max_four min_four
set_option linter.unusedVariables false
set_option linter.unusedSimpArgs false
def errW:Option Int→Value
  | none=>.nilIface
  | some c=>.iface 0 (.int .i64 c)
theorem errW_none:errW none = .nilIface:=rfl
theorem errW_some (c:Int):errW (some c) = .iface 0 (.int .i64 c):=rfl
theorem info3:(Try.prog.info? 3).map (fun i=>(i.zero,i.size,i.bytes))=some (some (.int .i64 0),1,8):=by kernel_rfl
theorem info52:(Try.prog.info? 52).map (fun i=>(i.zero,i.size,i.bytes))=some (some (.agg #[(.int .i64 0),(.int .i64 0),(.int .i64 0)]),3,24):=by kernel_rfl
theorem info54:(Try.prog.info? 54).map (fun i=>(i.zero,i.size,i.bytes))=some (some (.agg #[(.int .i64 0),(.int .i64 0),(.int .i64 0),(.int .i64 0),(.int .i64 0)]),5,40):=by kernel_rfl
theorem info61:(Try.prog.info? 61).map (fun i=>(i.zero,i.size,i.bytes))=some (some (.agg #[(.int .i64 0),(.int .i64 0),(.int .i64 0),(.int .i64 0),(.int .i64 0),(.slice none 0 0),(.int .i64 0),(.int .i64 0),(.int .i64 0)]),9,88):=by kernel_rfl
theorem info63:(Try.prog.info? 63).map (fun i=>(i.zero,i.size,i.bytes))=some (some (.agg #[(.int .i64 0),(.int .i64 0),(.int .i64 0),(.int .i64 0)]),4,32):=by kernel_rfl
theorem info86:(Try.prog.info? 86).map (fun i=>(i.zero,i.size,i.bytes))=some (some (.agg #[(.int .i64 0),(.int .i64 0),(.int .i64 0),(.int .i64 0),(.int .i64 0),(.slice none 0 0),(.int .i64 0),(.int .i64 0),(.int .i64 0)]),9,88):=by kernel_rfl
structure S65 where
  f0:Int
  f1:Int
  f2:Int
  f3:Int
def z65:S65:=⟨(0:Int),(0:Int),(0:Int),(0:Int)⟩
def k65:Kd S65:=Kd.iso (Kd.pair (Kd.int .i64) (Kd.pair (Kd.int .i64) (Kd.pair (Kd.int .i64) (Kd.int .i64)))) (fun x:S65=>(x.f0,x.f1,x.f2,x.f3))
theorem k65_open {w:World}{x:S65}{cs:List Value}(h:k65.K w x cs):cs=[.int .i64 x.f0,.int .i64 x.f1,.int .i64 x.f2,.int .i64 x.f3]:=by
  obtain⟨_,_,rfl,rfl,⟨_,_,rfl,rfl,⟨_,_,rfl,rfl,rfl⟩⟩⟩:=h;exact rfl
def rd_T65 (xs:List S65)(i:Int):S65:=xs.getD i.toNat z65
theorem at_T65 {w:World}{A:Option Addr}{n:Nat}{xs:List S65}(h:Kd.C k65 w A n xs)(i:Int)(h0:0≤i)(h1:i < n):∃ ad ,A=some ad∧w.cell? (ad.add (i.toNat * 4))=some (.int .i64 (rd_T65 xs i).f0)∧w.cell? ⟨(ad.add (i.toNat * 4)).block,(ad.add (i.toNat * 4)).off+1,none⟩=some (.int .i64 (rd_T65 xs i).f1)∧w.cell? ⟨(ad.add (i.toNat * 4)).block,(ad.add (i.toNat * 4)).off+2,none⟩=some (.int .i64 (rd_T65 xs i).f2)∧w.cell? ⟨(ad.add (i.toNat * 4)).block,(ad.add (i.toNat * 4)).off+3,none⟩=some (.int .i64 (rd_T65 xs i).f3):=by
  obtain⟨ad,c,e,_,hK,D⟩:=Kd.C_get h z65 i h0 h1;have hc:∀ j u,c[j]?=some u→w.cell? (ad.add (i.toNat * 4+j))=some u:=D;obtain rfl:=k65_open hK;exact⟨ad,e,hc 0 _ rfl,by rw[←add_field _ _ 1 (by omega)];exact hc 1 _ rfl,by rw[←add_field _ _ 2 (by omega)];exact hc 2 _ rfl,by rw[←add_field _ _ 3 (by omega)];exact hc 3 _ rfl⟩
structure S74 where
  f0:Int
  f1:Int
  f2:Int
def z74:S74:=⟨(0:Int),(0:Int),(0:Int)⟩
def k74:Kd S74:=Kd.iso (Kd.pair (Kd.int .i64) (Kd.pair (Kd.int .i64) (Kd.int .i64))) (fun x:S74=>(x.f0,x.f1,x.f2))
theorem k74_open {w:World}{x:S74}{cs:List Value}(h:k74.K w x cs):cs=[.int .i64 x.f0,.int .i64 x.f1,.int .i64 x.f2]:=by
  obtain⟨_,_,rfl,rfl,⟨_,_,rfl,rfl,rfl⟩⟩:=h;exact rfl
structure S76 where
  f0:Int
  f1:(List Int)
  f2:S74
def z76:S76:=⟨(0:Int),([]:List Int),z74⟩
def k76:Kd S76:=Kd.iso (Kd.pair (Kd.int .i64) (Kd.pair (Kd.slice 3 (Kd.int .i64)) k74)) (fun x:S76=>(x.f0,x.f1,x.f2))
theorem k76_open {w:World}{x:S76}{cs:List Value}(h:k76.K w x cs):∃ D J,cs=[.int .i64 x.f0,.slice D x.f1.length J,.int .i64 x.f2.f0,.int .i64 x.f2.f1,.int .i64 x.f2.f2]∧x.f1.length≤J∧(Kd.int .i64).C w D x.f1.length x.f1:=by
  obtain⟨_,_,rfl,rfl,⟨_,_,rfl,⟨D,J,rfl,U,g1⟩,s2⟩⟩:=h;obtain rfl:=k74_open s2;exact⟨D,J,rfl,U,g1⟩
structure S78 where
  f0:S74
  f1:Int
  f2:S76
def z78:S78:=⟨z74,(0:Int),z76⟩
def k78:Kd S78:=Kd.iso (Kd.pair k74 (Kd.pair (Kd.int .i64) k76)) (fun x:S78=>(x.f0,x.f1,x.f2))
theorem k78_open {w:World}{x:S78}{cs:List Value}(h:k78.K w x cs):∃ D J,cs=[.int .i64 x.f0.f0,.int .i64 x.f0.f1,.int .i64 x.f0.f2,.int .i64 x.f1,.int .i64 x.f2.f0,.slice D x.f2.f1.length J,.int .i64 x.f2.f2.f0,.int .i64 x.f2.f2.f1,.int .i64 x.f2.f2.f2]∧x.f2.f1.length≤J∧(Kd.int .i64).C w D x.f2.f1.length x.f2.f1:=by
  obtain⟨_,_,rfl,s0,⟨_,_,rfl,rfl,s4⟩⟩:=h;obtain rfl:=k74_open s0;obtain⟨D,J,rfl,U,g5⟩:=k76_open s4;exact⟨D,J,rfl,U,g5⟩
def rd_T78 (xs:List S78)(i:Int):S78:=xs.getD i.toNat z78
theorem at_T78 {w:World}{A:Option Addr}{n:Nat}{xs:List S78}(h:Kd.C k78 w A n xs)(i:Int)(h0:0≤i)(h1:i < n):∃ ad D J,A=some ad∧w.cell? (ad.add (i.toNat * 9))=some (.int .i64 (rd_T78 xs i).f0.f0)∧w.cell? ⟨(ad.add (i.toNat * 9)).block,(ad.add (i.toNat * 9)).off+1,none⟩=some (.int .i64 (rd_T78 xs i).f0.f1)∧w.cell? ⟨(ad.add (i.toNat * 9)).block,(ad.add (i.toNat * 9)).off+2,none⟩=some (.int .i64 (rd_T78 xs i).f0.f2)∧w.cell? ⟨(ad.add (i.toNat * 9)).block,(ad.add (i.toNat * 9)).off+3,none⟩=some (.int .i64 (rd_T78 xs i).f1)∧w.cell? ⟨(ad.add (i.toNat * 9)).block,(ad.add (i.toNat * 9)).off+4,none⟩=some (.int .i64 (rd_T78 xs i).f2.f0)∧w.cell? ⟨(ad.add (i.toNat * 9)).block,(ad.add (i.toNat * 9)).off+5,none⟩=some (.slice D (rd_T78 xs i).f2.f1.length J)∧w.cell? ⟨(ad.add (i.toNat * 9)).block,(ad.add (i.toNat * 9)).off+6,none⟩=some (.int .i64 (rd_T78 xs i).f2.f2.f0)∧w.cell? ⟨(ad.add (i.toNat * 9)).block,(ad.add (i.toNat * 9)).off+7,none⟩=some (.int .i64 (rd_T78 xs i).f2.f2.f1)∧w.cell? ⟨(ad.add (i.toNat * 9)).block,(ad.add (i.toNat * 9)).off+8,none⟩=some (.int .i64 (rd_T78 xs i).f2.f2.f2)∧(rd_T78 xs i).f2.f1.length≤J∧(Kd.int .i64).C w D (rd_T78 xs i).f2.f1.length (rd_T78 xs i).f2.f1:=by
  obtain⟨ad,c,e,_,hK,U⟩:=Kd.C_get h z78 i h0 h1;have hc:∀ j u,c[j]?=some u→w.cell? (ad.add (i.toNat * 9+j))=some u:=U;obtain⟨D,J,rfl,X,g5⟩:=k78_open hK;exact⟨ad,D,J,e,hc 0 _ rfl,by rw[←add_field _ _ 1 (by omega)];exact hc 1 _ rfl,by rw[←add_field _ _ 2 (by omega)];exact hc 2 _ rfl,by rw[←add_field _ _ 3 (by omega)];exact hc 3 _ rfl,by rw[←add_field _ _ 4 (by omega)];exact hc 4 _ rfl,by rw[←add_field _ _ 5 (by omega)];exact hc 5 _ rfl,by rw[←add_field _ _ 6 (by omega)];exact hc 6 _ rfl,by rw[←add_field _ _ 7 (by omega)];exact hc 7 _ rfl,by rw[←add_field _ _ 8 (by omega)];exact hc 8 _ rfl,X,g5⟩
structure S63 where
  f0:Int
  f1:Int
  f2:Int
  f3:Int
def z63:S63:=⟨(0:Int),(0:Int),(0:Int),(0:Int)⟩
def k63:Kd S63:=Kd.iso (Kd.pair (Kd.int .i64) (Kd.pair (Kd.int .i64) (Kd.pair (Kd.int .i64) (Kd.int .i64)))) (fun x:S63=>(x.f0,x.f1,x.f2,x.f3))
theorem k63_open {w:World}{x:S63}{cs:List Value}(h:k63.K w x cs):cs=[.int .i64 x.f0,.int .i64 x.f1,.int .i64 x.f2,.int .i64 x.f3]:=by
  obtain⟨_,_,rfl,rfl,⟨_,_,rfl,rfl,⟨_,_,rfl,rfl,rfl⟩⟩⟩:=h;exact rfl
theorem k63_openM {w:World}{base:Nat}{ok:Nat→Prop}{x:S63}{cs:List Value}(h:k63.M w base ok x cs):cs=[.int .i64 x.f0,.int .i64 x.f1,.int .i64 x.f2,.int .i64 x.f3]:=by
  obtain⟨_,_,rfl,rfl,⟨_,_,rfl,rfl,⟨_,_,rfl,rfl,rfl⟩⟩⟩:=h;exact rfl
theorem k63_mkM (w:World)(base:Nat)(ok:Nat→Prop)(x:S63)  : k63.M w base ok x [.int .i64 x.f0,.int .i64 x.f1,.int .i64 x.f2,.int .i64 x.f3]:=⟨[.int .i64 x.f0],[.int .i64 x.f1,.int .i64 x.f2,.int .i64 x.f3],rfl,rfl,⟨[.int .i64 x.f1],[.int .i64 x.f2,.int .i64 x.f3],rfl,rfl,⟨[.int .i64 x.f2],[.int .i64 x.f3],rfl,rfl,rfl⟩⟩⟩
def rd_T63 (xs:List S63)(i:Int):S63:=xs.getD i.toNat z63
theorem at_T63 {w:World}{A:Option Addr}{n:Nat}{xs:List S63}(h:Kd.C k63 w A n xs)(i:Int)(h0:0≤i)(h1:i < n):∃ ad ,A=some ad∧w.cell? (ad.add (i.toNat * 4))=some (.int .i64 (rd_T63 xs i).f0)∧w.cell? ⟨(ad.add (i.toNat * 4)).block,(ad.add (i.toNat * 4)).off+1,none⟩=some (.int .i64 (rd_T63 xs i).f1)∧w.cell? ⟨(ad.add (i.toNat * 4)).block,(ad.add (i.toNat * 4)).off+2,none⟩=some (.int .i64 (rd_T63 xs i).f2)∧w.cell? ⟨(ad.add (i.toNat * 4)).block,(ad.add (i.toNat * 4)).off+3,none⟩=some (.int .i64 (rd_T63 xs i).f3):=by
  obtain⟨ad,c,e,_,hK,D⟩:=Kd.C_get h z63 i h0 h1;have hc:∀ j u,c[j]?=some u→w.cell? (ad.add (i.toNat * 4+j))=some u:=D;obtain rfl:=k63_open hK;exact⟨ad,e,hc 0 _ rfl,by rw[←add_field _ _ 1 (by omega)];exact hc 1 _ rfl,by rw[←add_field _ _ 2 (by omega)];exact hc 2 _ rfl,by rw[←add_field _ _ 3 (by omega)];exact hc 3 _ rfl⟩
structure S52 where
  f0:Int
  f1:Int
  f2:Int
def z52:S52:=⟨(0:Int),(0:Int),(0:Int)⟩
def k52:Kd S52:=Kd.iso (Kd.pair (Kd.int .i64) (Kd.pair (Kd.int .i64) (Kd.int .i64))) (fun x:S52=>(x.f0,x.f1,x.f2))
theorem k52_open {w:World}{x:S52}{cs:List Value}(h:k52.K w x cs):cs=[.int .i64 x.f0,.int .i64 x.f1,.int .i64 x.f2]:=by
  obtain⟨_,_,rfl,rfl,⟨_,_,rfl,rfl,rfl⟩⟩:=h;exact rfl
theorem k52_openM {w:World}{base:Nat}{ok:Nat→Prop}{x:S52}{cs:List Value}(h:k52.M w base ok x cs):cs=[.int .i64 x.f0,.int .i64 x.f1,.int .i64 x.f2]:=by
  obtain⟨_,_,rfl,rfl,⟨_,_,rfl,rfl,rfl⟩⟩:=h;exact rfl
theorem k52_mkM (w:World)(base:Nat)(ok:Nat→Prop)(x:S52)  : k52.M w base ok x [.int .i64 x.f0,.int .i64 x.f1,.int .i64 x.f2]:=⟨[.int .i64 x.f0],[.int .i64 x.f1,.int .i64 x.f2],rfl,rfl,⟨[.int .i64 x.f1],[.int .i64 x.f2],rfl,rfl,rfl⟩⟩
def rd_T52 (xs:List S52)(i:Int):S52:=xs.getD i.toNat z52
theorem at_T52 {w:World}{A:Option Addr}{n:Nat}{xs:List S52}(h:Kd.C k52 w A n xs)(i:Int)(h0:0≤i)(h1:i < n):∃ ad ,A=some ad∧w.cell? (ad.add (i.toNat * 3))=some (.int .i64 (rd_T52 xs i).f0)∧w.cell? ⟨(ad.add (i.toNat * 3)).block,(ad.add (i.toNat * 3)).off+1,none⟩=some (.int .i64 (rd_T52 xs i).f1)∧w.cell? ⟨(ad.add (i.toNat * 3)).block,(ad.add (i.toNat * 3)).off+2,none⟩=some (.int .i64 (rd_T52 xs i).f2):=by
  obtain⟨ad,c,e,_,hK,D⟩:=Kd.C_get h z52 i h0 h1;have hc:∀ j u,c[j]?=some u→w.cell? (ad.add (i.toNat * 3+j))=some u:=D;obtain rfl:=k52_open hK;exact⟨ad,e,hc 0 _ rfl,by rw[←add_field _ _ 1 (by omega)];exact hc 1 _ rfl,by rw[←add_field _ _ 2 (by omega)];exact hc 2 _ rfl⟩
structure S56 where
  f0:Int
  f1:(List Int)
  f2:S52
def z56:S56:=⟨(0:Int),([]:List Int),z52⟩
def k56:Kd S56:=Kd.iso (Kd.pair (Kd.int .i64) (Kd.pair (Kd.slice 3 (Kd.int .i64)) k52)) (fun x:S56=>(x.f0,x.f1,x.f2))
theorem k56_open {w:World}{x:S56}{cs:List Value}(h:k56.K w x cs):∃ D J,cs=[.int .i64 x.f0,.slice D x.f1.length J,.int .i64 x.f2.f0,.int .i64 x.f2.f1,.int .i64 x.f2.f2]∧x.f1.length≤J∧(Kd.int .i64).C w D x.f1.length x.f1:=by
  obtain⟨_,_,rfl,rfl,⟨_,_,rfl,⟨D,J,rfl,U,g1⟩,s2⟩⟩:=h;obtain rfl:=k52_open s2;exact⟨D,J,rfl,U,g1⟩
theorem k56_openM {w:World}{base:Nat}{ok:Nat→Prop}{x:S56}{cs:List Value}(h:k56.M w base ok x cs):∃ D,cs=[.int .i64 x.f0,D,.int .i64 x.f2.f0,.int .i64 x.f2.f1,.int .i64 x.f2.f2]∧(Kd.int .i64).R 3 w base ok D x.f1:=by
  obtain⟨_,_,rfl,rfl,⟨_,_,rfl,⟨D,rfl,g1⟩,s2⟩⟩:=h;obtain rfl:=k52_openM s2;exact⟨D,rfl,g1⟩
theorem k56_mkM (w:World)(base:Nat)(ok:Nat→Prop)(x:S56){D:Value}(g1:(Kd.int .i64).R 3 w base ok D x.f1):k56.M w base ok x [.int .i64 x.f0,D,.int .i64 x.f2.f0,.int .i64 x.f2.f1,.int .i64 x.f2.f2]:=⟨[.int .i64 x.f0],[D,.int .i64 x.f2.f0,.int .i64 x.f2.f1,.int .i64 x.f2.f2],rfl,rfl,⟨[D],[.int .i64 x.f2.f0,.int .i64 x.f2.f1,.int .i64 x.f2.f2],rfl,⟨D,rfl,g1⟩,(k52_mkM w base ok x.f2)⟩⟩
structure S86 where
  f0:S52
  f1:Int
  f2:S56
def z86:S86:=⟨z52,(0:Int),z56⟩
def k86:Kd S86:=Kd.iso (Kd.pair k52 (Kd.pair (Kd.int .i64) k56)) (fun x:S86=>(x.f0,x.f1,x.f2))
theorem k86_open {w:World}{x:S86}{cs:List Value}(h:k86.K w x cs):∃ D J,cs=[.int .i64 x.f0.f0,.int .i64 x.f0.f1,.int .i64 x.f0.f2,.int .i64 x.f1,.int .i64 x.f2.f0,.slice D x.f2.f1.length J,.int .i64 x.f2.f2.f0,.int .i64 x.f2.f2.f1,.int .i64 x.f2.f2.f2]∧x.f2.f1.length≤J∧(Kd.int .i64).C w D x.f2.f1.length x.f2.f1:=by
  obtain⟨_,_,rfl,s0,⟨_,_,rfl,rfl,s4⟩⟩:=h;obtain rfl:=k52_open s0;obtain⟨D,J,rfl,U,g5⟩:=k56_open s4;exact⟨D,J,rfl,U,g5⟩
theorem k86_openM {w:World}{base:Nat}{ok:Nat→Prop}{x:S86}{cs:List Value}(h:k86.M w base ok x cs):∃ D,cs=[.int .i64 x.f0.f0,.int .i64 x.f0.f1,.int .i64 x.f0.f2,.int .i64 x.f1,.int .i64 x.f2.f0,D,.int .i64 x.f2.f2.f0,.int .i64 x.f2.f2.f1,.int .i64 x.f2.f2.f2]∧(Kd.int .i64).R 3 w base ok D x.f2.f1:=by
  obtain⟨_,_,rfl,s0,⟨_,_,rfl,rfl,s4⟩⟩:=h;obtain rfl:=k52_openM s0;obtain⟨D,rfl,g5⟩:=k56_openM s4;exact⟨D,rfl,g5⟩
theorem k86_mkM (w:World)(base:Nat)(ok:Nat→Prop)(x:S86){D:Value}(g5:(Kd.int .i64).R 3 w base ok D x.f2.f1):k86.M w base ok x [.int .i64 x.f0.f0,.int .i64 x.f0.f1,.int .i64 x.f0.f2,.int .i64 x.f1,.int .i64 x.f2.f0,D,.int .i64 x.f2.f2.f0,.int .i64 x.f2.f2.f1,.int .i64 x.f2.f2.f2]:=⟨[.int .i64 x.f0.f0,.int .i64 x.f0.f1,.int .i64 x.f0.f2],[.int .i64 x.f1,.int .i64 x.f2.f0,D,.int .i64 x.f2.f2.f0,.int .i64 x.f2.f2.f1,.int .i64 x.f2.f2.f2],rfl,(k52_mkM w base ok x.f0),⟨[.int .i64 x.f1],[.int .i64 x.f2.f0,D,.int .i64 x.f2.f2.f0,.int .i64 x.f2.f2.f1,.int .i64 x.f2.f2.f2],rfl,rfl,(k56_mkM w base ok x.f2 g5)⟩⟩
def rd_T86 (xs:List S86)(i:Int):S86:=xs.getD i.toNat z86
theorem at_T86 {w:World}{A:Option Addr}{n:Nat}{xs:List S86}(h:Kd.C k86 w A n xs)(i:Int)(h0:0≤i)(h1:i < n):∃ ad D J,A=some ad∧w.cell? (ad.add (i.toNat * 9))=some (.int .i64 (rd_T86 xs i).f0.f0)∧w.cell? ⟨(ad.add (i.toNat * 9)).block,(ad.add (i.toNat * 9)).off+1,none⟩=some (.int .i64 (rd_T86 xs i).f0.f1)∧w.cell? ⟨(ad.add (i.toNat * 9)).block,(ad.add (i.toNat * 9)).off+2,none⟩=some (.int .i64 (rd_T86 xs i).f0.f2)∧w.cell? ⟨(ad.add (i.toNat * 9)).block,(ad.add (i.toNat * 9)).off+3,none⟩=some (.int .i64 (rd_T86 xs i).f1)∧w.cell? ⟨(ad.add (i.toNat * 9)).block,(ad.add (i.toNat * 9)).off+4,none⟩=some (.int .i64 (rd_T86 xs i).f2.f0)∧w.cell? ⟨(ad.add (i.toNat * 9)).block,(ad.add (i.toNat * 9)).off+5,none⟩=some (.slice D (rd_T86 xs i).f2.f1.length J)∧w.cell? ⟨(ad.add (i.toNat * 9)).block,(ad.add (i.toNat * 9)).off+6,none⟩=some (.int .i64 (rd_T86 xs i).f2.f2.f0)∧w.cell? ⟨(ad.add (i.toNat * 9)).block,(ad.add (i.toNat * 9)).off+7,none⟩=some (.int .i64 (rd_T86 xs i).f2.f2.f1)∧w.cell? ⟨(ad.add (i.toNat * 9)).block,(ad.add (i.toNat * 9)).off+8,none⟩=some (.int .i64 (rd_T86 xs i).f2.f2.f2)∧(rd_T86 xs i).f2.f1.length≤J∧(Kd.int .i64).C w D (rd_T86 xs i).f2.f1.length (rd_T86 xs i).f2.f1:=by
  obtain⟨ad,c,e,_,hK,U⟩:=Kd.C_get h z86 i h0 h1;have hc:∀ j u,c[j]?=some u→w.cell? (ad.add (i.toNat * 9+j))=some u:=U;obtain⟨D,J,rfl,X,g5⟩:=k86_open hK;exact⟨ad,D,J,e,hc 0 _ rfl,by rw[←add_field _ _ 1 (by omega)];exact hc 1 _ rfl,by rw[←add_field _ _ 2 (by omega)];exact hc 2 _ rfl,by rw[←add_field _ _ 3 (by omega)];exact hc 3 _ rfl,by rw[←add_field _ _ 4 (by omega)];exact hc 4 _ rfl,by rw[←add_field _ _ 5 (by omega)];exact hc 5 _ rfl,by rw[←add_field _ _ 6 (by omega)];exact hc 6 _ rfl,by rw[←add_field _ _ 7 (by omega)];exact hc 7 _ rfl,by rw[←add_field _ _ 8 (by omega)];exact hc 8 _ rfl,X,g5⟩
structure S54 where
  f0:Int
  f1:S52
  f2:Int
def z54:S54:=⟨(0:Int),z52,(0:Int)⟩
def k54:Kd S54:=Kd.iso (Kd.pair (Kd.int .i64) (Kd.pair k52 (Kd.int .i64))) (fun x:S54=>(x.f0,x.f1,x.f2))
theorem k54_open {w:World}{x:S54}{cs:List Value}(h:k54.K w x cs):cs=[.int .i64 x.f0,.int .i64 x.f1.f0,.int .i64 x.f1.f1,.int .i64 x.f1.f2,.int .i64 x.f2]:=by
  obtain⟨_,_,rfl,rfl,⟨_,_,rfl,s1,rfl⟩⟩:=h;obtain rfl:=k52_open s1;exact rfl
theorem k54_mkM (w:World)(base:Nat)(ok:Nat→Prop)(x:S54)  : k54.M w base ok x [.int .i64 x.f0,.int .i64 x.f1.f0,.int .i64 x.f1.f1,.int .i64 x.f1.f2,.int .i64 x.f2]:=⟨[.int .i64 x.f0],[.int .i64 x.f1.f0,.int .i64 x.f1.f1,.int .i64 x.f1.f2,.int .i64 x.f2],rfl,rfl,⟨[.int .i64 x.f1.f0,.int .i64 x.f1.f1,.int .i64 x.f1.f2],[.int .i64 x.f2],rfl,(k52_mkM w base ok x.f1),rfl⟩⟩
def rd_T54 (xs:List S54)(i:Int):S54:=xs.getD i.toNat z54
theorem at_T54 {w:World}{A:Option Addr}{n:Nat}{xs:List S54}(h:Kd.C k54 w A n xs)(i:Int)(h0:0≤i)(h1:i < n):∃ ad ,A=some ad∧w.cell? (ad.add (i.toNat * 5))=some (.int .i64 (rd_T54 xs i).f0)∧w.cell? ⟨(ad.add (i.toNat * 5)).block,(ad.add (i.toNat * 5)).off+1,none⟩=some (.int .i64 (rd_T54 xs i).f1.f0)∧w.cell? ⟨(ad.add (i.toNat * 5)).block,(ad.add (i.toNat * 5)).off+2,none⟩=some (.int .i64 (rd_T54 xs i).f1.f1)∧w.cell? ⟨(ad.add (i.toNat * 5)).block,(ad.add (i.toNat * 5)).off+3,none⟩=some (.int .i64 (rd_T54 xs i).f1.f2)∧w.cell? ⟨(ad.add (i.toNat * 5)).block,(ad.add (i.toNat * 5)).off+4,none⟩=some (.int .i64 (rd_T54 xs i).f2):=by
  obtain⟨ad,c,e,_,hK,D⟩:=Kd.C_get h z54 i h0 h1;have hc:∀ j u,c[j]?=some u→w.cell? (ad.add (i.toNat * 5+j))=some u:=D;obtain rfl:=k54_open hK;exact⟨ad,e,hc 0 _ rfl,by rw[←add_field _ _ 1 (by omega)];exact hc 1 _ rfl,by rw[←add_field _ _ 2 (by omega)];exact hc 2 _ rfl,by rw[←add_field _ _ 3 (by omega)];exact hc 3 _ rfl,by rw[←add_field _ _ 4 (by omega)];exact hc 4 _ rfl⟩
structure S48 where
  f0:Int
  f1:(List Int)
  f2:(List Int)
  f3:(List Int)
def z48:S48:=⟨(0:Int),([]:List Int),([]:List Int),([]:List Int)⟩
def k48:Kd S48:=Kd.iso (Kd.pair (Kd.int .i64) (Kd.pair (Kd.slice 3 (Kd.int .i64)) (Kd.pair (Kd.slice 3 (Kd.int .i64)) (Kd.slice 3 (Kd.int .i64))))) (fun x:S48=>(x.f0,x.f1,x.f2,x.f3))
theorem k48_open {w:World}{x:S48}{cs:List Value}(h:k48.K w x cs):∃ D J U X Y Z,cs=[.int .i64 x.f0,.slice D x.f1.length J,.slice U x.f2.length X,.slice Y x.f3.length Z]∧x.f1.length≤J∧(Kd.int .i64).C w D x.f1.length x.f1∧x.f2.length≤X∧(Kd.int .i64).C w U x.f2.length x.f2∧x.f3.length≤Z∧(Kd.int .i64).C w Y x.f3.length x.f3:=by
  obtain⟨_,_,rfl,rfl,⟨_,_,rfl,⟨D,J,rfl,l1,g1⟩,⟨_,_,rfl,⟨U,X,rfl,l2,g2⟩,⟨Y,Z,rfl,l3,g3⟩⟩⟩⟩:=h;exact⟨D,J,U,X,Y,Z,rfl,l1,g1,l2,g2,l3,g3⟩
theorem k48_mkM (w:World)(base:Nat)(ok:Nat→Prop)(x:S48){U:Value}(g1:(Kd.int .i64).R 3 w base ok U x.f1){D:Value}(g2:(Kd.int .i64).R 3 w base ok D x.f2){J:Value}(g3:(Kd.int .i64).R 3 w base ok J x.f3):k48.M w base ok x [.int .i64 x.f0,U,D,J]:=⟨[.int .i64 x.f0],[U,D,J],rfl,rfl,⟨[U],[D,J],rfl,⟨U,rfl,g1⟩,⟨[D],[J],rfl,⟨D,rfl,g2⟩,⟨J,rfl,g3⟩⟩⟩⟩
def rd_T48 (xs:List S48)(i:Int):S48:=xs.getD i.toNat z48
theorem at_T48 {w:World}{A:Option Addr}{n:Nat}{xs:List S48}(h:Kd.C k48 w A n xs)(i:Int)(h0:0≤i)(h1:i < n):∃ ad D J U X Y Z,A=some ad∧w.cell? (ad.add (i.toNat * 4))=some (.int .i64 (rd_T48 xs i).f0)∧w.cell? ⟨(ad.add (i.toNat * 4)).block,(ad.add (i.toNat * 4)).off+1,none⟩=some (.slice D (rd_T48 xs i).f1.length J)∧w.cell? ⟨(ad.add (i.toNat * 4)).block,(ad.add (i.toNat * 4)).off+2,none⟩=some (.slice U (rd_T48 xs i).f2.length X)∧w.cell? ⟨(ad.add (i.toNat * 4)).block,(ad.add (i.toNat * 4)).off+3,none⟩=some (.slice Y (rd_T48 xs i).f3.length Z)∧(rd_T48 xs i).f1.length≤J∧(Kd.int .i64).C w D (rd_T48 xs i).f1.length (rd_T48 xs i).f1∧(rd_T48 xs i).f2.length≤X∧(Kd.int .i64).C w U (rd_T48 xs i).f2.length (rd_T48 xs i).f2∧(rd_T48 xs i).f3.length≤Z∧(Kd.int .i64).C w Y (rd_T48 xs i).f3.length (rd_T48 xs i).f3:=by
  obtain⟨ad,c,e,_,hK,aa⟩:=Kd.C_get h z48 i h0 h1;have hc:∀ j u,c[j]?=some u→w.cell? (ad.add (i.toNat * 4+j))=some u:=aa;obtain⟨D,J,U,X,Y,Z,rfl,l1,g1,l2,g2,l3,g3⟩:=k48_open hK;exact⟨ad,D,J,U,X,Y,Z,e,hc 0 _ rfl,by rw[←add_field _ _ 1 (by omega)];exact hc 1 _ rfl,by rw[←add_field _ _ 2 (by omega)];exact hc 2 _ rfl,by rw[←add_field _ _ 3 (by omega)];exact hc 3 _ rfl,l1,g1,l2,g2,l3,g3⟩
structure S61 where
  f0:S52
  f1:Int
  f2:S56
def z61:S61:=⟨z52,(0:Int),z56⟩
def k61:Kd S61:=Kd.iso (Kd.pair k52 (Kd.pair (Kd.int .i64) k56)) (fun x:S61=>(x.f0,x.f1,x.f2))
theorem k61_open {w:World}{x:S61}{cs:List Value}(h:k61.K w x cs):∃ D J,cs=[.int .i64 x.f0.f0,.int .i64 x.f0.f1,.int .i64 x.f0.f2,.int .i64 x.f1,.int .i64 x.f2.f0,.slice D x.f2.f1.length J,.int .i64 x.f2.f2.f0,.int .i64 x.f2.f2.f1,.int .i64 x.f2.f2.f2]∧x.f2.f1.length≤J∧(Kd.int .i64).C w D x.f2.f1.length x.f2.f1:=by
  obtain⟨_,_,rfl,s0,⟨_,_,rfl,rfl,s4⟩⟩:=h;obtain rfl:=k52_open s0;obtain⟨D,J,rfl,U,g5⟩:=k56_open s4;exact⟨D,J,rfl,U,g5⟩
theorem k61_openM {w:World}{base:Nat}{ok:Nat→Prop}{x:S61}{cs:List Value}(h:k61.M w base ok x cs):∃ D,cs=[.int .i64 x.f0.f0,.int .i64 x.f0.f1,.int .i64 x.f0.f2,.int .i64 x.f1,.int .i64 x.f2.f0,D,.int .i64 x.f2.f2.f0,.int .i64 x.f2.f2.f1,.int .i64 x.f2.f2.f2]∧(Kd.int .i64).R 3 w base ok D x.f2.f1:=by
  obtain⟨_,_,rfl,s0,⟨_,_,rfl,rfl,s4⟩⟩:=h;obtain rfl:=k52_openM s0;obtain⟨D,rfl,g5⟩:=k56_openM s4;exact⟨D,rfl,g5⟩
theorem k61_mkM (w:World)(base:Nat)(ok:Nat→Prop)(x:S61){D:Value}(g5:(Kd.int .i64).R 3 w base ok D x.f2.f1):k61.M w base ok x [.int .i64 x.f0.f0,.int .i64 x.f0.f1,.int .i64 x.f0.f2,.int .i64 x.f1,.int .i64 x.f2.f0,D,.int .i64 x.f2.f2.f0,.int .i64 x.f2.f2.f1,.int .i64 x.f2.f2.f2]:=⟨[.int .i64 x.f0.f0,.int .i64 x.f0.f1,.int .i64 x.f0.f2],[.int .i64 x.f1,.int .i64 x.f2.f0,D,.int .i64 x.f2.f2.f0,.int .i64 x.f2.f2.f1,.int .i64 x.f2.f2.f2],rfl,(k52_mkM w base ok x.f0),⟨[.int .i64 x.f1],[.int .i64 x.f2.f0,D,.int .i64 x.f2.f2.f0,.int .i64 x.f2.f2.f1,.int .i64 x.f2.f2.f2],rfl,rfl,(k56_mkM w base ok x.f2 g5)⟩⟩
def rd_T61 (xs:List S61)(i:Int):S61:=xs.getD i.toNat z61
theorem at_T61 {w:World}{A:Option Addr}{n:Nat}{xs:List S61}(h:Kd.C k61 w A n xs)(i:Int)(h0:0≤i)(h1:i < n):∃ ad D J,A=some ad∧w.cell? (ad.add (i.toNat * 9))=some (.int .i64 (rd_T61 xs i).f0.f0)∧w.cell? ⟨(ad.add (i.toNat * 9)).block,(ad.add (i.toNat * 9)).off+1,none⟩=some (.int .i64 (rd_T61 xs i).f0.f1)∧w.cell? ⟨(ad.add (i.toNat * 9)).block,(ad.add (i.toNat * 9)).off+2,none⟩=some (.int .i64 (rd_T61 xs i).f0.f2)∧w.cell? ⟨(ad.add (i.toNat * 9)).block,(ad.add (i.toNat * 9)).off+3,none⟩=some (.int .i64 (rd_T61 xs i).f1)∧w.cell? ⟨(ad.add (i.toNat * 9)).block,(ad.add (i.toNat * 9)).off+4,none⟩=some (.int .i64 (rd_T61 xs i).f2.f0)∧w.cell? ⟨(ad.add (i.toNat * 9)).block,(ad.add (i.toNat * 9)).off+5,none⟩=some (.slice D (rd_T61 xs i).f2.f1.length J)∧w.cell? ⟨(ad.add (i.toNat * 9)).block,(ad.add (i.toNat * 9)).off+6,none⟩=some (.int .i64 (rd_T61 xs i).f2.f2.f0)∧w.cell? ⟨(ad.add (i.toNat * 9)).block,(ad.add (i.toNat * 9)).off+7,none⟩=some (.int .i64 (rd_T61 xs i).f2.f2.f1)∧w.cell? ⟨(ad.add (i.toNat * 9)).block,(ad.add (i.toNat * 9)).off+8,none⟩=some (.int .i64 (rd_T61 xs i).f2.f2.f2)∧(rd_T61 xs i).f2.f1.length≤J∧(Kd.int .i64).C w D (rd_T61 xs i).f2.f1.length (rd_T61 xs i).f2.f1:=by
  obtain⟨ad,c,e,_,hK,U⟩:=Kd.C_get h z61 i h0 h1;have hc:∀ j u,c[j]?=some u→w.cell? (ad.add (i.toNat * 9+j))=some u:=U;obtain⟨D,J,rfl,X,g5⟩:=k61_open hK;exact⟨ad,D,J,e,hc 0 _ rfl,by rw[←add_field _ _ 1 (by omega)];exact hc 1 _ rfl,by rw[←add_field _ _ 2 (by omega)];exact hc 2 _ rfl,by rw[←add_field _ _ 3 (by omega)];exact hc 3 _ rfl,by rw[←add_field _ _ 4 (by omega)];exact hc 4 _ rfl,by rw[←add_field _ _ 5 (by omega)];exact hc 5 _ rfl,by rw[←add_field _ _ 6 (by omega)];exact hc 6 _ rfl,by rw[←add_field _ _ 7 (by omega)];exact hc 7 _ rfl,by rw[←add_field _ _ 8 (by omega)];exact hc 8 _ rfl,X,g5⟩
end Go.Proofs.Ytenpfphghheggaa.MFnExactCapturesOf
