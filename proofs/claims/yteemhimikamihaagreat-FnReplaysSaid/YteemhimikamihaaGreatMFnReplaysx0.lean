import Derived.Test.YteemhimikamihaaGreatRun
import Derived.Test.YteemhimikamihaaGreatShr2
import Derived.Test.YteemhimikamihaaGreatProg
import Derived.Below
import Derived.Deep.Draws
import Derived.Deep.AppendLies
import Derived.Maps.AppendAt
import Derived.OwnWalk
import Derived.Laws.BytesArg
import Derived.Laws.MakeOwn
import Derived.Laws.OwnMore
import Derived.Deep.OwnRows
import Derived.Tactics
import Derived.Lib.ConvBytes
import Derived.Laws.Slices
import Derived.WalkKit
import Derived.KernelRfl
import Derived.RowKit3
import Derived.Deep.LoopGhost
import Derived.Deep.QuietTactic
import Derived.BigQuiet
import Derived.WideLaws
import Derived.Deep.DeepCutAuto
import Derived.Deep.CutBlock
import Derived.Deep.RegionHeld3
import Derived.Laws.Rows
import Derived.Lib.AppendStr
import Derived.ArgAppend
import Derived.Laws.IdiomCopy
import Derived.OrdersHeld
import Derived.Laws.BitsLemmas
import Derived.RowKit
import Derived.Test.YteemhimikamihaaGreatWWords
import Derived.Test.YteemhimikamihaaGreatWLast
import Derived.Test.YteemhimikamihaaGreatWTab
import Derived.Test.YteemhimikamihaaGreatWFour
import Derived.Test.YteemhimikamihaaGreatWQPut
import Derived.Test.YteemhimikamihaaGreatWApart
import Derived.Test.YteemhimikamihaaGreatWArr
import Derived.Test.YteemhimikamihaaGreatWZeros
import Derived.Test.YteemhimikamihaaGreatWFoot
import Derived.Test.YteemhimikamihaaGreatWKept
import Derived.Test.YteemhimikamihaaGreatWShare
import Derived.Test.YteemhimikamihaaGreatWN
import Derived.Test.YteemhimikamihaaGreatWFootNe
import Derived.Test.YteemhimikamihaaGreatWAt
import Derived.Test.YteemhimikamihaaGreatWEqStruct
import Derived.Test.YteemhimikamihaaGreatWRepsOne
import Derived.Test.YteemhimikamihaaGreatWInv
import Derived.Test.YteemhimikamihaaGreatWInvWords
import Derived.Test.YteemhimikamihaaGreatWGuard
import Derived.Test.YteemhimikamihaaGreatWNEv
import Derived.Test.YteemhimikamihaaGreatWMore
import Derived.Test.YteemhimikamihaaGreatFnV
namespace Go.Proofs.YteemhimikamihaaGreat.MFnReplays
open Go.RowKit Go.Proofs.YteemhimikamihaaGreatW.PrintWords Go.Proofs.YteemhimikamihaaGreatW.PrintLast Go.Proofs.YteemhimikamihaaGreatW.PrintMore
attribute [local go_sem] max2_int min2_int max_two min_two max_three min_three max_four min_four
set_option linter.unusedVariables false
set_option linter.unusedSimpArgs false
def errW:Option Int→Value
  | none=>.nilIface
  | some c=>.iface 0 (.int .i64 c)
theorem errW_none:errW none = .nilIface:=rfl
theorem errW_some (c:Int):errW (some c) = .iface 0 (.int .i64 c):=rfl
theorem info3:(Tryz.prog.info? 3).map (fun i=>(i.zero,i.size,i.bytes))=some (some (.int .i64 0),1,8):=by kernel_rfl
theorem info48:(Tryz.prog.info? 48).map (fun i=>(i.zero,i.size,i.bytes))=some (some (.agg #[(.int .i64 0),(.int .i64 0),(.int .i64 0)]),3,24):=by kernel_rfl
theorem info50:(Tryz.prog.info? 50).map (fun i=>(i.zero,i.size,i.bytes))=some (some (.agg #[(.int .i64 0),(.int .i64 0),(.int .i64 0),(.int .i64 0),(.int .i64 0)]),5,40):=by kernel_rfl
theorem info57:(Tryz.prog.info? 57).map (fun i=>(i.zero,i.size,i.bytes))=some (some (.agg #[(.int .i64 0),(.int .i64 0),(.int .i64 0),(.int .i64 0)]),4,32):=by kernel_rfl
theorem info83:(Tryz.prog.info? 83).map (fun i=>(i.zero,i.size,i.bytes))=some (some (.agg #[(.int .i64 0),(.int .i64 0),(.int .i64 0),(.int .i64 0),(.int .i64 0),(.slice none 0 0),(.int .i64 0),(.int .i64 0),(.int .i64 0)]),9,88):=by kernel_rfl
structure S57 where
  f0:Int
  f1:Int
  f2:Int
  f3:Int
def z57:S57:=⟨(0:Int),(0:Int),(0:Int),(0:Int)⟩
def k57:Kd S57:=Kd.iso (Kd.pair (Kd.int .i64) (Kd.pair (Kd.int .i64) (Kd.pair (Kd.int .i64) (Kd.int .i64)))) (fun x:S57=>(x.f0,x.f1,x.f2,x.f3))
theorem k57_open {w:World}{x:S57}{cs:List Value}(h:k57.K w x cs):cs=[.int .i64 x.f0,.int .i64 x.f1,.int .i64 x.f2,.int .i64 x.f3]:=by
  obtain⟨_,_,rfl,rfl,⟨_,_,rfl,rfl,⟨_,_,rfl,rfl,rfl⟩⟩⟩:=h;exact rfl
theorem k57_openM {w:World}{base:Nat}{ok:Nat→Prop}{x:S57}{cs:List Value}(h:k57.M w base ok x cs):cs=[.int .i64 x.f0,.int .i64 x.f1,.int .i64 x.f2,.int .i64 x.f3]:=by
  obtain⟨_,_,rfl,rfl,⟨_,_,rfl,rfl,⟨_,_,rfl,rfl,rfl⟩⟩⟩:=h;exact rfl
theorem k57_mkM (w:World)(base:Nat)(ok:Nat→Prop)(x:S57)  : k57.M w base ok x [.int .i64 x.f0,.int .i64 x.f1,.int .i64 x.f2,.int .i64 x.f3]:=⟨[.int .i64 x.f0],[.int .i64 x.f1,.int .i64 x.f2,.int .i64 x.f3],rfl,rfl,⟨[.int .i64 x.f1],[.int .i64 x.f2,.int .i64 x.f3],rfl,rfl,⟨[.int .i64 x.f2],[.int .i64 x.f3],rfl,rfl,rfl⟩⟩⟩
def rd_T57 (xs:List S57)(i:Int):S57:=xs.getD i.toNat z57
theorem at_T57 {w:World}{A:Option Addr}{n:Nat}{xs:List S57}(h:Kd.C k57 w A n xs)(i:Int)(h0:0≤i)(h1:i < n):∃ ad ,A=some ad∧w.cell? (ad.add (i.toNat * 4))=some (.int .i64 (rd_T57 xs i).f0)∧w.cell? ⟨(ad.add (i.toNat * 4)).block,(ad.add (i.toNat * 4)).off+1,none⟩=some (.int .i64 (rd_T57 xs i).f1)∧w.cell? ⟨(ad.add (i.toNat * 4)).block,(ad.add (i.toNat * 4)).off+2,none⟩=some (.int .i64 (rd_T57 xs i).f2)∧w.cell? ⟨(ad.add (i.toNat * 4)).block,(ad.add (i.toNat * 4)).off+3,none⟩=some (.int .i64 (rd_T57 xs i).f3):=by
  obtain⟨ad,c,e,_,hK,D⟩:=Kd.C_get h z57 i h0 h1;have hc:∀ j u,c[j]?=some u→w.cell? (ad.add (i.toNat * 4+j))=some u:=D;obtain rfl:=k57_open hK;exact⟨ad,e,hc 0 _ rfl,by rw[←add_field _ _ 1 (by omega)];exact hc 1 _ rfl,by rw[←add_field _ _ 2 (by omega)];exact hc 2 _ rfl,by rw[←add_field _ _ 3 (by omega)];exact hc 3 _ rfl⟩
structure S48 where
  f0:Int
  f1:Int
  f2:Int
def z48:S48:=⟨(0:Int),(0:Int),(0:Int)⟩
def k48:Kd S48:=Kd.iso (Kd.pair (Kd.int .i64) (Kd.pair (Kd.int .i64) (Kd.int .i64))) (fun x:S48=>(x.f0,x.f1,x.f2))
theorem k48_open {w:World}{x:S48}{cs:List Value}(h:k48.K w x cs):cs=[.int .i64 x.f0,.int .i64 x.f1,.int .i64 x.f2]:=by
  obtain⟨_,_,rfl,rfl,⟨_,_,rfl,rfl,rfl⟩⟩:=h;exact rfl
theorem k48_openM {w:World}{base:Nat}{ok:Nat→Prop}{x:S48}{cs:List Value}(h:k48.M w base ok x cs):cs=[.int .i64 x.f0,.int .i64 x.f1,.int .i64 x.f2]:=by
  obtain⟨_,_,rfl,rfl,⟨_,_,rfl,rfl,rfl⟩⟩:=h;exact rfl
theorem k48_mkM (w:World)(base:Nat)(ok:Nat→Prop)(x:S48)  : k48.M w base ok x [.int .i64 x.f0,.int .i64 x.f1,.int .i64 x.f2]:=⟨[.int .i64 x.f0],[.int .i64 x.f1,.int .i64 x.f2],rfl,rfl,⟨[.int .i64 x.f1],[.int .i64 x.f2],rfl,rfl,rfl⟩⟩
def rd_T48 (xs:List S48)(i:Int):S48:=xs.getD i.toNat z48
theorem at_T48 {w:World}{A:Option Addr}{n:Nat}{xs:List S48}(h:Kd.C k48 w A n xs)(i:Int)(h0:0≤i)(h1:i < n):∃ ad ,A=some ad∧w.cell? (ad.add (i.toNat * 3))=some (.int .i64 (rd_T48 xs i).f0)∧w.cell? ⟨(ad.add (i.toNat * 3)).block,(ad.add (i.toNat * 3)).off+1,none⟩=some (.int .i64 (rd_T48 xs i).f1)∧w.cell? ⟨(ad.add (i.toNat * 3)).block,(ad.add (i.toNat * 3)).off+2,none⟩=some (.int .i64 (rd_T48 xs i).f2):=by
  obtain⟨ad,c,e,_,hK,D⟩:=Kd.C_get h z48 i h0 h1;have hc:∀ j u,c[j]?=some u→w.cell? (ad.add (i.toNat * 3+j))=some u:=D;obtain rfl:=k48_open hK;exact⟨ad,e,hc 0 _ rfl,by rw[←add_field _ _ 1 (by omega)];exact hc 1 _ rfl,by rw[←add_field _ _ 2 (by omega)];exact hc 2 _ rfl⟩
structure S81 where
  f0:Int
  f1:(List Int)
  f2:S48
def z81:S81:=⟨(0:Int),([]:List Int),z48⟩
def k81:Kd S81:=Kd.iso (Kd.pair (Kd.int .i64) (Kd.pair (Kd.slice 3 (Kd.int .i64)) k48)) (fun x:S81=>(x.f0,x.f1,x.f2))
theorem k81_open {w:World}{x:S81}{cs:List Value}(h:k81.K w x cs):∃ D J,cs=[.int .i64 x.f0,.slice D x.f1.length J,.int .i64 x.f2.f0,.int .i64 x.f2.f1,.int .i64 x.f2.f2]∧x.f1.length≤J∧(Kd.int .i64).C w D x.f1.length x.f1:=by
  obtain⟨_,_,rfl,rfl,⟨_,_,rfl,⟨D,J,rfl,U,g1⟩,s2⟩⟩:=h;obtain rfl:=k48_open s2;exact⟨D,J,rfl,U,g1⟩
theorem k81_openM {w:World}{base:Nat}{ok:Nat→Prop}{x:S81}{cs:List Value}(h:k81.M w base ok x cs):∃ D,cs=[.int .i64 x.f0,D,.int .i64 x.f2.f0,.int .i64 x.f2.f1,.int .i64 x.f2.f2]∧(Kd.int .i64).R 3 w base ok D x.f1:=by
  obtain⟨_,_,rfl,rfl,⟨_,_,rfl,⟨D,rfl,g1⟩,s2⟩⟩:=h;obtain rfl:=k48_openM s2;exact⟨D,rfl,g1⟩
theorem k81_mkM (w:World)(base:Nat)(ok:Nat→Prop)(x:S81){D:Value}(g1:(Kd.int .i64).R 3 w base ok D x.f1):k81.M w base ok x [.int .i64 x.f0,D,.int .i64 x.f2.f0,.int .i64 x.f2.f1,.int .i64 x.f2.f2]:=⟨[.int .i64 x.f0],[D,.int .i64 x.f2.f0,.int .i64 x.f2.f1,.int .i64 x.f2.f2],rfl,rfl,⟨[D],[.int .i64 x.f2.f0,.int .i64 x.f2.f1,.int .i64 x.f2.f2],rfl,⟨D,rfl,g1⟩,(k48_mkM w base ok x.f2)⟩⟩
structure S83 where
  f0:S48
  f1:Int
  f2:S81
def z83:S83:=⟨z48,(0:Int),z81⟩
def k83:Kd S83:=Kd.iso (Kd.pair k48 (Kd.pair (Kd.int .i64) k81)) (fun x:S83=>(x.f0,x.f1,x.f2))
theorem k83_open {w:World}{x:S83}{cs:List Value}(h:k83.K w x cs):∃ D J,cs=[.int .i64 x.f0.f0,.int .i64 x.f0.f1,.int .i64 x.f0.f2,.int .i64 x.f1,.int .i64 x.f2.f0,.slice D x.f2.f1.length J,.int .i64 x.f2.f2.f0,.int .i64 x.f2.f2.f1,.int .i64 x.f2.f2.f2]∧x.f2.f1.length≤J∧(Kd.int .i64).C w D x.f2.f1.length x.f2.f1:=by
  obtain⟨_,_,rfl,s0,⟨_,_,rfl,rfl,s4⟩⟩:=h;obtain rfl:=k48_open s0;obtain⟨D,J,rfl,U,g5⟩:=k81_open s4;exact⟨D,J,rfl,U,g5⟩
theorem k83_openM {w:World}{base:Nat}{ok:Nat→Prop}{x:S83}{cs:List Value}(h:k83.M w base ok x cs):∃ D,cs=[.int .i64 x.f0.f0,.int .i64 x.f0.f1,.int .i64 x.f0.f2,.int .i64 x.f1,.int .i64 x.f2.f0,D,.int .i64 x.f2.f2.f0,.int .i64 x.f2.f2.f1,.int .i64 x.f2.f2.f2]∧(Kd.int .i64).R 3 w base ok D x.f2.f1:=by
  obtain⟨_,_,rfl,s0,⟨_,_,rfl,rfl,s4⟩⟩:=h;obtain rfl:=k48_openM s0;obtain⟨D,rfl,g5⟩:=k81_openM s4;exact⟨D,rfl,g5⟩
theorem k83_mkM (w:World)(base:Nat)(ok:Nat→Prop)(x:S83){D:Value}(g5:(Kd.int .i64).R 3 w base ok D x.f2.f1):k83.M w base ok x [.int .i64 x.f0.f0,.int .i64 x.f0.f1,.int .i64 x.f0.f2,.int .i64 x.f1,.int .i64 x.f2.f0,D,.int .i64 x.f2.f2.f0,.int .i64 x.f2.f2.f1,.int .i64 x.f2.f2.f2]:=⟨[.int .i64 x.f0.f0,.int .i64 x.f0.f1,.int .i64 x.f0.f2],[.int .i64 x.f1,.int .i64 x.f2.f0,D,.int .i64 x.f2.f2.f0,.int .i64 x.f2.f2.f1,.int .i64 x.f2.f2.f2],rfl,(k48_mkM w base ok x.f0),⟨[.int .i64 x.f1],[.int .i64 x.f2.f0,D,.int .i64 x.f2.f2.f0,.int .i64 x.f2.f2.f1,.int .i64 x.f2.f2.f2],rfl,rfl,(k81_mkM w base ok x.f2 g5)⟩⟩
def rd_T83 (xs:List S83)(i:Int):S83:=xs.getD i.toNat z83
theorem at_T83 {w:World}{A:Option Addr}{n:Nat}{xs:List S83}(h:Kd.C k83 w A n xs)(i:Int)(h0:0≤i)(h1:i < n):∃ ad D J,A=some ad∧w.cell? (ad.add (i.toNat * 9))=some (.int .i64 (rd_T83 xs i).f0.f0)∧w.cell? ⟨(ad.add (i.toNat * 9)).block,(ad.add (i.toNat * 9)).off+1,none⟩=some (.int .i64 (rd_T83 xs i).f0.f1)∧w.cell? ⟨(ad.add (i.toNat * 9)).block,(ad.add (i.toNat * 9)).off+2,none⟩=some (.int .i64 (rd_T83 xs i).f0.f2)∧w.cell? ⟨(ad.add (i.toNat * 9)).block,(ad.add (i.toNat * 9)).off+3,none⟩=some (.int .i64 (rd_T83 xs i).f1)∧w.cell? ⟨(ad.add (i.toNat * 9)).block,(ad.add (i.toNat * 9)).off+4,none⟩=some (.int .i64 (rd_T83 xs i).f2.f0)∧w.cell? ⟨(ad.add (i.toNat * 9)).block,(ad.add (i.toNat * 9)).off+5,none⟩=some (.slice D (rd_T83 xs i).f2.f1.length J)∧w.cell? ⟨(ad.add (i.toNat * 9)).block,(ad.add (i.toNat * 9)).off+6,none⟩=some (.int .i64 (rd_T83 xs i).f2.f2.f0)∧w.cell? ⟨(ad.add (i.toNat * 9)).block,(ad.add (i.toNat * 9)).off+7,none⟩=some (.int .i64 (rd_T83 xs i).f2.f2.f1)∧w.cell? ⟨(ad.add (i.toNat * 9)).block,(ad.add (i.toNat * 9)).off+8,none⟩=some (.int .i64 (rd_T83 xs i).f2.f2.f2)∧(rd_T83 xs i).f2.f1.length≤J∧(Kd.int .i64).C w D (rd_T83 xs i).f2.f1.length (rd_T83 xs i).f2.f1:=by
  obtain⟨ad,c,e,_,hK,U⟩:=Kd.C_get h z83 i h0 h1;have hc:∀ j u,c[j]?=some u→w.cell? (ad.add (i.toNat * 9+j))=some u:=U;obtain⟨D,J,rfl,X,g5⟩:=k83_open hK;exact⟨ad,D,J,e,hc 0 _ rfl,by rw[←add_field _ _ 1 (by omega)];exact hc 1 _ rfl,by rw[←add_field _ _ 2 (by omega)];exact hc 2 _ rfl,by rw[←add_field _ _ 3 (by omega)];exact hc 3 _ rfl,by rw[←add_field _ _ 4 (by omega)];exact hc 4 _ rfl,by rw[←add_field _ _ 5 (by omega)];exact hc 5 _ rfl,by rw[←add_field _ _ 6 (by omega)];exact hc 6 _ rfl,by rw[←add_field _ _ 7 (by omega)];exact hc 7 _ rfl,by rw[←add_field _ _ 8 (by omega)];exact hc 8 _ rfl,X,g5⟩
structure S50 where
  f0:Int
  f1:S48
  f2:Int
def z50:S50:=⟨(0:Int),z48,(0:Int)⟩
def k50:Kd S50:=Kd.iso (Kd.pair (Kd.int .i64) (Kd.pair k48 (Kd.int .i64))) (fun x:S50=>(x.f0,x.f1,x.f2))
theorem k50_open {w:World}{x:S50}{cs:List Value}(h:k50.K w x cs):cs=[.int .i64 x.f0,.int .i64 x.f1.f0,.int .i64 x.f1.f1,.int .i64 x.f1.f2,.int .i64 x.f2]:=by
  obtain⟨_,_,rfl,rfl,⟨_,_,rfl,s1,rfl⟩⟩:=h;obtain rfl:=k48_open s1;exact rfl
theorem k50_openM {w:World}{base:Nat}{ok:Nat→Prop}{x:S50}{cs:List Value}(h:k50.M w base ok x cs):cs=[.int .i64 x.f0,.int .i64 x.f1.f0,.int .i64 x.f1.f1,.int .i64 x.f1.f2,.int .i64 x.f2]:=by
  obtain⟨_,_,rfl,rfl,⟨_,_,rfl,s1,rfl⟩⟩:=h;obtain rfl:=k48_openM s1;exact rfl
theorem k50_mkM (w:World)(base:Nat)(ok:Nat→Prop)(x:S50)  : k50.M w base ok x [.int .i64 x.f0,.int .i64 x.f1.f0,.int .i64 x.f1.f1,.int .i64 x.f1.f2,.int .i64 x.f2]:=⟨[.int .i64 x.f0],[.int .i64 x.f1.f0,.int .i64 x.f1.f1,.int .i64 x.f1.f2,.int .i64 x.f2],rfl,rfl,⟨[.int .i64 x.f1.f0,.int .i64 x.f1.f1,.int .i64 x.f1.f2],[.int .i64 x.f2],rfl,(k48_mkM w base ok x.f1),rfl⟩⟩
def rd_T50 (xs:List S50)(i:Int):S50:=xs.getD i.toNat z50
theorem at_T50 {w:World}{A:Option Addr}{n:Nat}{xs:List S50}(h:Kd.C k50 w A n xs)(i:Int)(h0:0≤i)(h1:i < n):∃ ad ,A=some ad∧w.cell? (ad.add (i.toNat * 5))=some (.int .i64 (rd_T50 xs i).f0)∧w.cell? ⟨(ad.add (i.toNat * 5)).block,(ad.add (i.toNat * 5)).off+1,none⟩=some (.int .i64 (rd_T50 xs i).f1.f0)∧w.cell? ⟨(ad.add (i.toNat * 5)).block,(ad.add (i.toNat * 5)).off+2,none⟩=some (.int .i64 (rd_T50 xs i).f1.f1)∧w.cell? ⟨(ad.add (i.toNat * 5)).block,(ad.add (i.toNat * 5)).off+3,none⟩=some (.int .i64 (rd_T50 xs i).f1.f2)∧w.cell? ⟨(ad.add (i.toNat * 5)).block,(ad.add (i.toNat * 5)).off+4,none⟩=some (.int .i64 (rd_T50 xs i).f2):=by
  obtain⟨ad,c,e,_,hK,D⟩:=Kd.C_get h z50 i h0 h1;have hc:∀ j u,c[j]?=some u→w.cell? (ad.add (i.toNat * 5+j))=some u:=D;obtain rfl:=k50_open hK;exact⟨ad,e,hc 0 _ rfl,by rw[←add_field _ _ 1 (by omega)];exact hc 1 _ rfl,by rw[←add_field _ _ 2 (by omega)];exact hc 2 _ rfl,by rw[←add_field _ _ 3 (by omega)];exact hc 3 _ rfl,by rw[←add_field _ _ 4 (by omega)];exact hc 4 _ rfl⟩
structure S35 where
  f0:Int
  f1:(List Int)
  f2:(List Int)
  f3:(List Int)
def z35:S35:=⟨(0:Int),([]:List Int),([]:List Int),([]:List Int)⟩
def k35:Kd S35:=Kd.iso (Kd.pair (Kd.int .i64) (Kd.pair (Kd.slice 3 (Kd.int .i64)) (Kd.pair (Kd.slice 3 (Kd.int .i64)) (Kd.slice 3 (Kd.int .i64))))) (fun x:S35=>(x.f0,x.f1,x.f2,x.f3))
theorem k35_open {w:World}{x:S35}{cs:List Value}(h:k35.K w x cs):∃ D J U X Y Z,cs=[.int .i64 x.f0,.slice D x.f1.length J,.slice U x.f2.length X,.slice Y x.f3.length Z]∧x.f1.length≤J∧(Kd.int .i64).C w D x.f1.length x.f1∧x.f2.length≤X∧(Kd.int .i64).C w U x.f2.length x.f2∧x.f3.length≤Z∧(Kd.int .i64).C w Y x.f3.length x.f3:=by
  obtain⟨_,_,rfl,rfl,⟨_,_,rfl,⟨D,J,rfl,l1,g1⟩,⟨_,_,rfl,⟨U,X,rfl,l2,g2⟩,⟨Y,Z,rfl,l3,g3⟩⟩⟩⟩:=h;exact⟨D,J,U,X,Y,Z,rfl,l1,g1,l2,g2,l3,g3⟩
theorem k35_openM {w:World}{base:Nat}{ok:Nat→Prop}{x:S35}{cs:List Value}(h:k35.M w base ok x cs):∃ D J U,cs=[.int .i64 x.f0,D,J,U]∧(Kd.int .i64).R 3 w base ok D x.f1∧(Kd.int .i64).R 3 w base ok J x.f2∧(Kd.int .i64).R 3 w base ok U x.f3:=by
  obtain⟨_,_,rfl,rfl,⟨_,_,rfl,⟨D,rfl,g1⟩,⟨_,_,rfl,⟨J,rfl,g2⟩,⟨U,rfl,g3⟩⟩⟩⟩:=h;exact⟨D,J,U,rfl,g1,g2,g3⟩
theorem k35_mkM (w:World)(base:Nat)(ok:Nat→Prop)(x:S35){U:Value}(g1:(Kd.int .i64).R 3 w base ok U x.f1){D:Value}(g2:(Kd.int .i64).R 3 w base ok D x.f2){J:Value}(g3:(Kd.int .i64).R 3 w base ok J x.f3):k35.M w base ok x [.int .i64 x.f0,U,D,J]:=⟨[.int .i64 x.f0],[U,D,J],rfl,rfl,⟨[U],[D,J],rfl,⟨U,rfl,g1⟩,⟨[D],[J],rfl,⟨D,rfl,g2⟩,⟨J,rfl,g3⟩⟩⟩⟩
def rd_T35 (xs:List S35)(i:Int):S35:=xs.getD i.toNat z35
theorem at_T35 {w:World}{A:Option Addr}{n:Nat}{xs:List S35}(h:Kd.C k35 w A n xs)(i:Int)(h0:0≤i)(h1:i < n):∃ ad D J U X Y Z,A=some ad∧w.cell? (ad.add (i.toNat * 4))=some (.int .i64 (rd_T35 xs i).f0)∧w.cell? ⟨(ad.add (i.toNat * 4)).block,(ad.add (i.toNat * 4)).off+1,none⟩=some (.slice D (rd_T35 xs i).f1.length J)∧w.cell? ⟨(ad.add (i.toNat * 4)).block,(ad.add (i.toNat * 4)).off+2,none⟩=some (.slice U (rd_T35 xs i).f2.length X)∧w.cell? ⟨(ad.add (i.toNat * 4)).block,(ad.add (i.toNat * 4)).off+3,none⟩=some (.slice Y (rd_T35 xs i).f3.length Z)∧(rd_T35 xs i).f1.length≤J∧(Kd.int .i64).C w D (rd_T35 xs i).f1.length (rd_T35 xs i).f1∧(rd_T35 xs i).f2.length≤X∧(Kd.int .i64).C w U (rd_T35 xs i).f2.length (rd_T35 xs i).f2∧(rd_T35 xs i).f3.length≤Z∧(Kd.int .i64).C w Y (rd_T35 xs i).f3.length (rd_T35 xs i).f3:=by
  obtain⟨ad,c,e,_,hK,aa⟩:=Kd.C_get h z35 i h0 h1;have hc:∀ j u,c[j]?=some u→w.cell? (ad.add (i.toNat * 4+j))=some u:=aa;obtain⟨D,J,U,X,Y,Z,rfl,l1,g1,l2,g2,l3,g3⟩:=k35_open hK;exact⟨ad,D,J,U,X,Y,Z,e,hc 0 _ rfl,by rw[←add_field _ _ 1 (by omega)];exact hc 1 _ rfl,by rw[←add_field _ _ 2 (by omega)];exact hc 2 _ rfl,by rw[←add_field _ _ 3 (by omega)];exact hc 3 _ rfl,l1,g1,l2,g2,l3,g3⟩
end Go.Proofs.YteemhimikamihaaGreat.MFnReplays
