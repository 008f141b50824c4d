-- Written by a program of this session out of the translation's own print. Not trusted: Lean checks it.
import Derived.Test.YthojdjnchhkafaaRun
import Derived.Test.YthojdjnchhkafaaShr2
import Derived.Test.YthojdjnchhkafaaProg
import Derived.Below
import Derived.Deep.Draws
import Derived.Deep.AppendLies
import Derived.Maps.AppendAt
import Derived.OwnWalk
import Derived.Laws.BytesArg
import Derived.Laws.MakeOwn
import Derived.Laws.OwnMore
import Derived.Deep.OwnRows
import Derived.Tactics
import Derived.Lib.ConvBytes
import Derived.Laws.Slices
import Derived.WalkKit
import Derived.KernelRfl
import Derived.RowKit3
import Derived.Deep.LoopGhost
import Derived.Deep.QuietTactic
import Derived.BigQuiet
import Derived.WideLaws
import Derived.Deep.DeepCutAuto
import Derived.Deep.CutBlock
import Derived.Deep.RegionHeld3
import Derived.Laws.Rows
import Derived.Lib.AppendStr
import Derived.ArgAppend
import Derived.Laws.IdiomCopy
import Derived.OrdersHeld
import Derived.Laws.BitsLemmas
import Derived.RowKit
import Derived.Test.YthojdjnchhkafaaWWords
import Derived.Test.YthojdjnchhkafaaWLast
import Derived.Test.YthojdjnchhkafaaWTab
import Derived.Test.YthojdjnchhkafaaWFour
import Derived.Test.YthojdjnchhkafaaWQPut
import Derived.Test.YthojdjnchhkafaaWApart
import Derived.Test.YthojdjnchhkafaaWArr
import Derived.Test.YthojdjnchhkafaaWZeros
import Derived.Test.YthojdjnchhkafaaWFoot
import Derived.Test.YthojdjnchhkafaaWKept
import Derived.Test.YthojdjnchhkafaaWShare
import Derived.Test.YthojdjnchhkafaaWN
import Derived.Test.YthojdjnchhkafaaWFootNe
import Derived.Test.YthojdjnchhkafaaWAt
import Derived.Test.YthojdjnchhkafaaWEqStruct
import Derived.Test.YthojdjnchhkafaaWRepsOne
import Derived.Test.YthojdjnchhkafaaWInv
import Derived.Test.YthojdjnchhkafaaWInvWords
import Derived.Test.YthojdjnchhkafaaWGuard
import Derived.Test.YthojdjnchhkafaaWNEv
import Derived.Test.YthojdjnchhkafaaWMore
import Derived.Test.YthojdjnchhkafaaFnV
namespace Go.Proofs.Ythojdjnchhkafaa.MFnExactTraceVisit
open Go.RowKit Go.Proofs.YthojdjnchhkafaaW.PrintWords Go.Proofs.YthojdjnchhkafaaW.PrintLast Go.Proofs.YthojdjnchhkafaaW.PrintMore
attribute [local go_sem] max2_int min2_int max_two min_two max_three min_three max_four min_four   -- for this text's walks alone
set_option linter.unusedVariables false
set_option linter.unusedSimpArgs false



def errW:Option Int→Value
  | none=>.nilIface
  | some c=>.iface 0 (.int .i64 c)
theorem errW_none:errW none = .nilIface:=rfl
theorem errW_some (c:Int):errW (some c) = .iface 0 (.int .i64 c):=rfl

theorem info3:(Try.prog.info? 3).map (fun i=>(i.zero,i.size,i.bytes))=some (some (.int .i64 0),1,8):=by kernel_rfl
theorem info50:(Try.prog.info? 50).map (fun i=>(i.zero,i.size,i.bytes))=some (some (.agg #[(.int .i64 0),(.int .i64 0),(.int .i64 0),(.int .i64 0)]),4,32):=by kernel_rfl
theorem info73:(Try.prog.info? 73).map (fun i=>(i.zero,i.size,i.bytes))=some (some (.agg #[(.int .i64 0),(.int .i64 0),(.int .i64 0)]),3,24):=by kernel_rfl
theorem info79:(Try.prog.info? 79).map (fun i=>(i.zero,i.size,i.bytes))=some (some (.agg #[(.int .i64 0),(.int .i64 0),(.int .i64 0),(.int .i64 0),(.int .i64 0)]),5,40):=by kernel_rfl
theorem info84:(Try.prog.info? 84).map (fun i=>(i.zero,i.size,i.bytes))=some (some (.agg #[(.int .i64 0),(.int .i64 0),(.int .i64 0),(.int .i64 0),(.int .i64 0),(.slice none 0 0),(.int .i64 0),(.int .i64 0),(.int .i64 0)]),9,88):=by kernel_rfl
-- the values' own types
/-! #### struct type 52 -/
structure S52 where
  f0:Int
  f1:Int
  f2:Int
  f3:Int
def z52:S52:=⟨(0:Int),(0:Int),(0:Int),(0:Int)⟩
def k52:Kd S52:=Kd.iso (Kd.pair (Kd.int .i64) (Kd.pair (Kd.int .i64) (Kd.pair (Kd.int .i64) (Kd.int .i64)))) (fun x:S52=>(x.f0,x.f1,x.f2,x.f3))
theorem k52_open {w:World}{x:S52}{cs:List Value}(h:k52.K w x cs):cs=[.int .i64 x.f0,.int .i64 x.f1,.int .i64 x.f2,.int .i64 x.f3]:=by
  obtain⟨_,_,rfl,rfl,⟨_,_,rfl,rfl,⟨_,_,rfl,rfl,rfl⟩⟩⟩:=h;exact rfl
theorem k52_openM {w:World}{base:Nat}{ok:Nat→Prop}{x:S52}{cs:List Value}(h:k52.M w base ok x cs):cs=[.int .i64 x.f0,.int .i64 x.f1,.int .i64 x.f2,.int .i64 x.f3]:=by
  obtain⟨_,_,rfl,rfl,⟨_,_,rfl,rfl,⟨_,_,rfl,rfl,rfl⟩⟩⟩:=h;exact rfl
theorem k52_mk (w:World)(x:S52)  : k52.K w x [.int .i64 x.f0,.int .i64 x.f1,.int .i64 x.f2,.int .i64 x.f3]:=⟨[.int .i64 x.f0],[.int .i64 x.f1,.int .i64 x.f2,.int .i64 x.f3],rfl,rfl,⟨[.int .i64 x.f1],[.int .i64 x.f2,.int .i64 x.f3],rfl,rfl,⟨[.int .i64 x.f2],[.int .i64 x.f3],rfl,rfl,rfl⟩⟩⟩
theorem k52_mkM (w:World)(base:Nat)(ok:Nat→Prop)(x:S52)  : k52.M w base ok x [.int .i64 x.f0,.int .i64 x.f1,.int .i64 x.f2,.int .i64 x.f3]:=⟨[.int .i64 x.f0],[.int .i64 x.f1,.int .i64 x.f2,.int .i64 x.f3],rfl,rfl,⟨[.int .i64 x.f1],[.int .i64 x.f2,.int .i64 x.f3],rfl,rfl,⟨[.int .i64 x.f2],[.int .i64 x.f3],rfl,rfl,rfl⟩⟩⟩
def rd_T52 (xs:List S52)(i:Int):S52:=xs.getD i.toNat z52
theorem at_T52 {w:World}{A:Option Addr}{n:Nat}{xs:List S52}(h:Kd.C k52 w A n xs)(i:Int)(h0:0≤i)(h1:i < n):∃ ad ,A=some ad∧w.cell? (ad.add (i.toNat * 4))=some (.int .i64 (rd_T52 xs i).f0)∧w.cell? ⟨(ad.add (i.toNat * 4)).block,(ad.add (i.toNat * 4)).off+1,none⟩=some (.int .i64 (rd_T52 xs i).f1)∧w.cell? ⟨(ad.add (i.toNat * 4)).block,(ad.add (i.toNat * 4)).off+2,none⟩=some (.int .i64 (rd_T52 xs i).f2)∧w.cell? ⟨(ad.add (i.toNat * 4)).block,(ad.add (i.toNat * 4)).off+3,none⟩=some (.int .i64 (rd_T52 xs i).f3):=by
  obtain⟨ad,c,e,_,hK,D⟩:=Kd.C_get h z52 i h0 h1;have hc:∀ j u,c[j]?=some u→w.cell? (ad.add (i.toNat * 4+j))=some u:=D;obtain rfl:=k52_open hK;exact⟨ad,e,hc 0 _ rfl,by rw[←add_field _ _ 1 (by omega)];exact hc 1 _ rfl,by rw[←add_field _ _ 2 (by omega)];exact hc 2 _ rfl,by rw[←add_field _ _ 3 (by omega)];exact hc 3 _ rfl⟩

/-! #### struct type 64 -/
structure S64 where
  f0:Int
  f1:Int
  f2:Int
def z64:S64:=⟨(0:Int),(0:Int),(0:Int)⟩
def k64:Kd S64:=Kd.iso (Kd.pair (Kd.int .i64) (Kd.pair (Kd.int .i64) (Kd.int .i64))) (fun x:S64=>(x.f0,x.f1,x.f2))
theorem k64_open {w:World}{x:S64}{cs:List Value}(h:k64.K w x cs):cs=[.int .i64 x.f0,.int .i64 x.f1,.int .i64 x.f2]:=by
  obtain⟨_,_,rfl,rfl,⟨_,_,rfl,rfl,rfl⟩⟩:=h;exact rfl
theorem k64_openM {w:World}{base:Nat}{ok:Nat→Prop}{x:S64}{cs:List Value}(h:k64.M w base ok x cs):cs=[.int .i64 x.f0,.int .i64 x.f1,.int .i64 x.f2]:=by
  obtain⟨_,_,rfl,rfl,⟨_,_,rfl,rfl,rfl⟩⟩:=h;exact rfl
theorem k64_mk (w:World)(x:S64)  : k64.K w x [.int .i64 x.f0,.int .i64 x.f1,.int .i64 x.f2]:=⟨[.int .i64 x.f0],[.int .i64 x.f1,.int .i64 x.f2],rfl,rfl,⟨[.int .i64 x.f1],[.int .i64 x.f2],rfl,rfl,rfl⟩⟩
theorem k64_mkM (w:World)(base:Nat)(ok:Nat→Prop)(x:S64)  : k64.M w base ok x [.int .i64 x.f0,.int .i64 x.f1,.int .i64 x.f2]:=⟨[.int .i64 x.f0],[.int .i64 x.f1,.int .i64 x.f2],rfl,rfl,⟨[.int .i64 x.f1],[.int .i64 x.f2],rfl,rfl,rfl⟩⟩
def rd_T64 (xs:List S64)(i:Int):S64:=xs.getD i.toNat z64
theorem at_T64 {w:World}{A:Option Addr}{n:Nat}{xs:List S64}(h:Kd.C k64 w A n xs)(i:Int)(h0:0≤i)(h1:i < n):∃ ad ,A=some ad∧w.cell? (ad.add (i.toNat * 3))=some (.int .i64 (rd_T64 xs i).f0)∧w.cell? ⟨(ad.add (i.toNat * 3)).block,(ad.add (i.toNat * 3)).off+1,none⟩=some (.int .i64 (rd_T64 xs i).f1)∧w.cell? ⟨(ad.add (i.toNat * 3)).block,(ad.add (i.toNat * 3)).off+2,none⟩=some (.int .i64 (rd_T64 xs i).f2):=by
  obtain⟨ad,c,e,_,hK,D⟩:=Kd.C_get h z64 i h0 h1;have hc:∀ j u,c[j]?=some u→w.cell? (ad.add (i.toNat * 3+j))=some u:=D;obtain rfl:=k64_open hK;exact⟨ad,e,hc 0 _ rfl,by rw[←add_field _ _ 1 (by omega)];exact hc 1 _ rfl,by rw[←add_field _ _ 2 (by omega)];exact hc 2 _ rfl⟩

def rd_L3 (xs:List (List Int))(i:Int):(List Int):=xs.getD i.toNat ([]:List Int)
theorem at_L3 {w:World}{A:Option Addr}{n:Nat}{xs:List (List Int)}(h:Kd.C (Kd.slice 3 (Kd.int .i64)) w A n xs)(i:Int)(h0:0≤i)(h1:i < n):∃ ad D I,A=some ad∧w.cell? (ad.add i.toNat)=some (.slice D (rd_L3 xs i).length I)∧(rd_L3 xs i).length≤I∧(Kd.int .i64).C w D (rd_L3 xs i).length (rd_L3 xs i):=by
  obtain⟨ad,c,e,_,hK,J⟩:=Kd.C_get h ([]:List Int) i h0 h1;have hc:∀ j u,c[j]?=some u→w.cell? (ad.add (i.toNat * 1+j))=some u:=J;obtain⟨D,I,rfl,L,g0⟩:=hK;exact⟨ad,D,I,e,by have hq:=hc 0 _ rfl;rwa [Nat.mul_one,Nat.add_zero] at hq,L,g0⟩

/-! #### struct type 66 -/
structure S66 where
  f0:Int
  f1:(List Int)
  f2:S64
def z66:S66:=⟨(0:Int),([]:List Int),z64⟩
def k66:Kd S66:=Kd.iso (Kd.pair (Kd.int .i64) (Kd.pair (Kd.slice 3 (Kd.int .i64)) k64)) (fun x:S66=>(x.f0,x.f1,x.f2))
theorem k66_open {w:World}{x:S66}{cs:List Value}(h:k66.K w x cs):∃ D I,cs=[.int .i64 x.f0,.slice D x.f1.length I,.int .i64 x.f2.f0,.int .i64 x.f2.f1,.int .i64 x.f2.f2]∧x.f1.length≤I∧(Kd.int .i64).C w D x.f1.length x.f1:=by
  obtain⟨_,_,rfl,rfl,⟨_,_,rfl,⟨D,I,rfl,J,g1⟩,s2⟩⟩:=h;obtain rfl:=k64_open s2;exact⟨D,I,rfl,J,g1⟩
theorem k66_openM {w:World}{base:Nat}{ok:Nat→Prop}{x:S66}{cs:List Value}(h:k66.M w base ok x cs):∃ D,cs=[.int .i64 x.f0,D,.int .i64 x.f2.f0,.int .i64 x.f2.f1,.int .i64 x.f2.f2]∧(Kd.int .i64).R 3 w base ok D x.f1:=by
  obtain⟨_,_,rfl,rfl,⟨_,_,rfl,⟨D,rfl,g1⟩,s2⟩⟩:=h;obtain rfl:=k64_openM s2;exact⟨D,rfl,g1⟩
theorem k66_mk (w:World)(x:S66){D:Option Addr}{I:Nat}(J:x.f1.length≤I)(g1:(Kd.int .i64).C w D x.f1.length x.f1):k66.K w x [.int .i64 x.f0,.slice D x.f1.length I,.int .i64 x.f2.f0,.int .i64 x.f2.f1,.int .i64 x.f2.f2]:=⟨[.int .i64 x.f0],[.slice D x.f1.length I,.int .i64 x.f2.f0,.int .i64 x.f2.f1,.int .i64 x.f2.f2],rfl,rfl,⟨[.slice D x.f1.length I],[.int .i64 x.f2.f0,.int .i64 x.f2.f1,.int .i64 x.f2.f2],rfl,⟨D,I,rfl,J,g1⟩,(k64_mk w x.f2)⟩⟩
theorem k66_mkM (w:World)(base:Nat)(ok:Nat→Prop)(x:S66){D:Value}(g1:(Kd.int .i64).R 3 w base ok D x.f1):k66.M w base ok x [.int .i64 x.f0,D,.int .i64 x.f2.f0,.int .i64 x.f2.f1,.int .i64 x.f2.f2]:=⟨[.int .i64 x.f0],[D,.int .i64 x.f2.f0,.int .i64 x.f2.f1,.int .i64 x.f2.f2],rfl,rfl,⟨[D],[.int .i64 x.f2.f0,.int .i64 x.f2.f1,.int .i64 x.f2.f2],rfl,⟨D,rfl,g1⟩,(k64_mkM w base ok x.f2)⟩⟩
def rd_T66 (xs:List S66)(i:Int):S66:=xs.getD i.toNat z66
theorem at_T66 {w:World}{A:Option Addr}{n:Nat}{xs:List S66}(h:Kd.C k66 w A n xs)(i:Int)(h0:0≤i)(h1:i < n):∃ ad D I,A=some ad∧w.cell? (ad.add (i.toNat * 5))=some (.int .i64 (rd_T66 xs i).f0)∧w.cell? ⟨(ad.add (i.toNat * 5)).block,(ad.add (i.toNat * 5)).off+1,none⟩=some (.slice D (rd_T66 xs i).f1.length I)∧w.cell? ⟨(ad.add (i.toNat * 5)).block,(ad.add (i.toNat * 5)).off+2,none⟩=some (.int .i64 (rd_T66 xs i).f2.f0)∧w.cell? ⟨(ad.add (i.toNat * 5)).block,(ad.add (i.toNat * 5)).off+3,none⟩=some (.int .i64 (rd_T66 xs i).f2.f1)∧w.cell? ⟨(ad.add (i.toNat * 5)).block,(ad.add (i.toNat * 5)).off+4,none⟩=some (.int .i64 (rd_T66 xs i).f2.f2)∧(rd_T66 xs i).f1.length≤I∧(Kd.int .i64).C w D (rd_T66 xs i).f1.length (rd_T66 xs i).f1:=by
  obtain⟨ad,c,e,_,hK,J⟩:=Kd.C_get h z66 i h0 h1;have hc:∀ j u,c[j]?=some u→w.cell? (ad.add (i.toNat * 5+j))=some u:=J;obtain⟨D,I,rfl,L,g1⟩:=k66_open hK;exact⟨ad,D,I,e,hc 0 _ rfl,by rw[←add_field _ _ 1 (by omega)];exact hc 1 _ rfl,by rw[←add_field _ _ 2 (by omega)];exact hc 2 _ rfl,by rw[←add_field _ _ 3 (by omega)];exact hc 3 _ rfl,by rw[←add_field _ _ 4 (by omega)];exact hc 4 _ rfl,L,g1⟩

/-! #### struct type 68 -/
structure S68 where
  f0:S64
  f1:Int
  f2:S66
def z68:S68:=⟨z64,(0:Int),z66⟩
def k68:Kd S68:=Kd.iso (Kd.pair k64 (Kd.pair (Kd.int .i64) k66)) (fun x:S68=>(x.f0,x.f1,x.f2))
theorem k68_open {w:World}{x:S68}{cs:List Value}(h:k68.K w x cs):∃ D I,cs=[.int .i64 x.f0.f0,.int .i64 x.f0.f1,.int .i64 x.f0.f2,.int .i64 x.f1,.int .i64 x.f2.f0,.slice D x.f2.f1.length I,.int .i64 x.f2.f2.f0,.int .i64 x.f2.f2.f1,.int .i64 x.f2.f2.f2]∧x.f2.f1.length≤I∧(Kd.int .i64).C w D x.f2.f1.length x.f2.f1:=by
  obtain⟨_,_,rfl,s0,⟨_,_,rfl,rfl,s4⟩⟩:=h;obtain rfl:=k64_open s0;obtain⟨D,I,rfl,J,g5⟩:=k66_open s4;exact⟨D,I,rfl,J,g5⟩
theorem k68_openM {w:World}{base:Nat}{ok:Nat→Prop}{x:S68}{cs:List Value}(h:k68.M w base ok x cs):∃ D,cs=[.int .i64 x.f0.f0,.int .i64 x.f0.f1,.int .i64 x.f0.f2,.int .i64 x.f1,.int .i64 x.f2.f0,D,.int .i64 x.f2.f2.f0,.int .i64 x.f2.f2.f1,.int .i64 x.f2.f2.f2]∧(Kd.int .i64).R 3 w base ok D x.f2.f1:=by
  obtain⟨_,_,rfl,s0,⟨_,_,rfl,rfl,s4⟩⟩:=h;obtain rfl:=k64_openM s0;obtain⟨D,rfl,g5⟩:=k66_openM s4;exact⟨D,rfl,g5⟩
theorem k68_mk (w:World)(x:S68){D:Option Addr}{I:Nat}(J:x.f2.f1.length≤I)(g5:(Kd.int .i64).C w D x.f2.f1.length x.f2.f1):k68.K w x [.int .i64 x.f0.f0,.int .i64 x.f0.f1,.int .i64 x.f0.f2,.int .i64 x.f1,.int .i64 x.f2.f0,.slice D x.f2.f1.length I,.int .i64 x.f2.f2.f0,.int .i64 x.f2.f2.f1,.int .i64 x.f2.f2.f2]:=⟨[.int .i64 x.f0.f0,.int .i64 x.f0.f1,.int .i64 x.f0.f2],[.int .i64 x.f1,.int .i64 x.f2.f0,.slice D x.f2.f1.length I,.int .i64 x.f2.f2.f0,.int .i64 x.f2.f2.f1,.int .i64 x.f2.f2.f2],rfl,(k64_mk w x.f0),⟨[.int .i64 x.f1],[.int .i64 x.f2.f0,.slice D x.f2.f1.length I,.int .i64 x.f2.f2.f0,.int .i64 x.f2.f2.f1,.int .i64 x.f2.f2.f2],rfl,rfl,(k66_mk w x.f2 J g5)⟩⟩
theorem k68_mkM (w:World)(base:Nat)(ok:Nat→Prop)(x:S68){D:Value}(g5:(Kd.int .i64).R 3 w base ok D x.f2.f1):k68.M w base ok x [.int .i64 x.f0.f0,.int .i64 x.f0.f1,.int .i64 x.f0.f2,.int .i64 x.f1,.int .i64 x.f2.f0,D,.int .i64 x.f2.f2.f0,.int .i64 x.f2.f2.f1,.int .i64 x.f2.f2.f2]:=⟨[.int .i64 x.f0.f0,.int .i64 x.f0.f1,.int .i64 x.f0.f2],[.int .i64 x.f1,.int .i64 x.f2.f0,D,.int .i64 x.f2.f2.f0,.int .i64 x.f2.f2.f1,.int .i64 x.f2.f2.f2],rfl,(k64_mkM w base ok x.f0),⟨[.int .i64 x.f1],[.int .i64 x.f2.f0,D,.int .i64 x.f2.f2.f0,.int .i64 x.f2.f2.f1,.int .i64 x.f2.f2.f2],rfl,rfl,(k66_mkM w base ok x.f2 g5)⟩⟩
def rd_T68 (xs:List S68)(i:Int):S68:=xs.getD i.toNat z68
theorem at_T68 {w:World}{A:Option Addr}{n:Nat}{xs:List S68}(h:Kd.C k68 w A n xs)(i:Int)(h0:0≤i)(h1:i < n):∃ ad D I,A=some ad∧w.cell? (ad.add (i.toNat * 9))=some (.int .i64 (rd_T68 xs i).f0.f0)∧w.cell? ⟨(ad.add (i.toNat * 9)).block,(ad.add (i.toNat * 9)).off+1,none⟩=some (.int .i64 (rd_T68 xs i).f0.f1)∧w.cell? ⟨(ad.add (i.toNat * 9)).block,(ad.add (i.toNat * 9)).off+2,none⟩=some (.int .i64 (rd_T68 xs i).f0.f2)∧w.cell? ⟨(ad.add (i.toNat * 9)).block,(ad.add (i.toNat * 9)).off+3,none⟩=some (.int .i64 (rd_T68 xs i).f1)∧w.cell? ⟨(ad.add (i.toNat * 9)).block,(ad.add (i.toNat * 9)).off+4,none⟩=some (.int .i64 (rd_T68 xs i).f2.f0)∧w.cell? ⟨(ad.add (i.toNat * 9)).block,(ad.add (i.toNat * 9)).off+5,none⟩=some (.slice D (rd_T68 xs i).f2.f1.length I)∧w.cell? ⟨(ad.add (i.toNat * 9)).block,(ad.add (i.toNat * 9)).off+6,none⟩=some (.int .i64 (rd_T68 xs i).f2.f2.f0)∧w.cell? ⟨(ad.add (i.toNat * 9)).block,(ad.add (i.toNat * 9)).off+7,none⟩=some (.int .i64 (rd_T68 xs i).f2.f2.f1)∧w.cell? ⟨(ad.add (i.toNat * 9)).block,(ad.add (i.toNat * 9)).off+8,none⟩=some (.int .i64 (rd_T68 xs i).f2.f2.f2)∧(rd_T68 xs i).f2.f1.length≤I∧(Kd.int .i64).C w D (rd_T68 xs i).f2.f1.length (rd_T68 xs i).f2.f1:=by
  obtain⟨ad,c,e,_,hK,J⟩:=Kd.C_get h z68 i h0 h1;have hc:∀ j u,c[j]?=some u→w.cell? (ad.add (i.toNat * 9+j))=some u:=J;obtain⟨D,I,rfl,L,g5⟩:=k68_open hK;exact⟨ad,D,I,e,hc 0 _ rfl,by rw[←add_field _ _ 1 (by omega)];exact hc 1 _ rfl,by rw[←add_field _ _ 2 (by omega)];exact hc 2 _ rfl,by rw[←add_field _ _ 3 (by omega)];exact hc 3 _ rfl,by rw[←add_field _ _ 4 (by omega)];exact hc 4 _ rfl,by rw[←add_field _ _ 5 (by omega)];exact hc 5 _ rfl,by rw[←add_field _ _ 6 (by omega)];exact hc 6 _ rfl,by rw[←add_field _ _ 7 (by omega)];exact hc 7 _ rfl,by rw[←add_field _ _ 8 (by omega)];exact hc 8 _ rfl,L,g5⟩

/-! #### struct type 50 -/
structure S50 where
  f0:Int
  f1:Int
  f2:Int
  f3:Int
def z50:S50:=⟨(0:Int),(0:Int),(0:Int),(0:Int)⟩
def k50:Kd S50:=Kd.iso (Kd.pair (Kd.int .i64) (Kd.pair (Kd.int .i64) (Kd.pair (Kd.int .i64) (Kd.int .i64)))) (fun x:S50=>(x.f0,x.f1,x.f2,x.f3))
theorem k50_open {w:World}{x:S50}{cs:List Value}(h:k50.K w x cs):cs=[.int .i64 x.f0,.int .i64 x.f1,.int .i64 x.f2,.int .i64 x.f3]:=by
  obtain⟨_,_,rfl,rfl,⟨_,_,rfl,rfl,⟨_,_,rfl,rfl,rfl⟩⟩⟩:=h;exact rfl
theorem k50_openM {w:World}{base:Nat}{ok:Nat→Prop}{x:S50}{cs:List Value}(h:k50.M w base ok x cs):cs=[.int .i64 x.f0,.int .i64 x.f1,.int .i64 x.f2,.int .i64 x.f3]:=by
  obtain⟨_,_,rfl,rfl,⟨_,_,rfl,rfl,⟨_,_,rfl,rfl,rfl⟩⟩⟩:=h;exact rfl
theorem k50_mk (w:World)(x:S50)  : k50.K w x [.int .i64 x.f0,.int .i64 x.f1,.int .i64 x.f2,.int .i64 x.f3]:=⟨[.int .i64 x.f0],[.int .i64 x.f1,.int .i64 x.f2,.int .i64 x.f3],rfl,rfl,⟨[.int .i64 x.f1],[.int .i64 x.f2,.int .i64 x.f3],rfl,rfl,⟨[.int .i64 x.f2],[.int .i64 x.f3],rfl,rfl,rfl⟩⟩⟩
theorem k50_mkM (w:World)(base:Nat)(ok:Nat→Prop)(x:S50)  : k50.M w base ok x [.int .i64 x.f0,.int .i64 x.f1,.int .i64 x.f2,.int .i64 x.f3]:=⟨[.int .i64 x.f0],[.int .i64 x.f1,.int .i64 x.f2,.int .i64 x.f3],rfl,rfl,⟨[.int .i64 x.f1],[.int .i64 x.f2,.int .i64 x.f3],rfl,rfl,⟨[.int .i64 x.f2],[.int .i64 x.f3],rfl,rfl,rfl⟩⟩⟩
def rd_T50 (xs:List S50)(i:Int):S50:=xs.getD i.toNat z50
theorem at_T50 {w:World}{A:Option Addr}{n:Nat}{xs:List S50}(h:Kd.C k50 w A n xs)(i:Int)(h0:0≤i)(h1:i < n):∃ ad ,A=some ad∧w.cell? (ad.add (i.toNat * 4))=some (.int .i64 (rd_T50 xs i).f0)∧w.cell? ⟨(ad.add (i.toNat * 4)).block,(ad.add (i.toNat * 4)).off+1,none⟩=some (.int .i64 (rd_T50 xs i).f1)∧w.cell? ⟨(ad.add (i.toNat * 4)).block,(ad.add (i.toNat * 4)).off+2,none⟩=some (.int .i64 (rd_T50 xs i).f2)∧w.cell? ⟨(ad.add (i.toNat * 4)).block,(ad.add (i.toNat * 4)).off+3,none⟩=some (.int .i64 (rd_T50 xs i).f3):=by
  obtain⟨ad,c,e,_,hK,D⟩:=Kd.C_get h z50 i h0 h1;have hc:∀ j u,c[j]?=some u→w.cell? (ad.add (i.toNat * 4+j))=some u:=D;obtain rfl:=k50_open hK;exact⟨ad,e,hc 0 _ rfl,by rw[←add_field _ _ 1 (by omega)];exact hc 1 _ rfl,by rw[←add_field _ _ 2 (by omega)];exact hc 2 _ rfl,by rw[←add_field _ _ 3 (by omega)];exact hc 3 _ rfl⟩

/-! #### struct type 73 -/
structure S73 where
  f0:Int
  f1:Int
  f2:Int
def z73:S73:=⟨(0:Int),(0:Int),(0:Int)⟩
def k73:Kd S73:=Kd.iso (Kd.pair (Kd.int .i64) (Kd.pair (Kd.int .i64) (Kd.int .i64))) (fun x:S73=>(x.f0,x.f1,x.f2))
theorem k73_open {w:World}{x:S73}{cs:List Value}(h:k73.K w x cs):cs=[.int .i64 x.f0,.int .i64 x.f1,.int .i64 x.f2]:=by
  obtain⟨_,_,rfl,rfl,⟨_,_,rfl,rfl,rfl⟩⟩:=h;exact rfl
theorem k73_openM {w:World}{base:Nat}{ok:Nat→Prop}{x:S73}{cs:List Value}(h:k73.M w base ok x cs):cs=[.int .i64 x.f0,.int .i64 x.f1,.int .i64 x.f2]:=by
  obtain⟨_,_,rfl,rfl,⟨_,_,rfl,rfl,rfl⟩⟩:=h;exact rfl
theorem k73_mk (w:World)(x:S73)  : k73.K w x [.int .i64 x.f0,.int .i64 x.f1,.int .i64 x.f2]:=⟨[.int .i64 x.f0],[.int .i64 x.f1,.int .i64 x.f2],rfl,rfl,⟨[.int .i64 x.f1],[.int .i64 x.f2],rfl,rfl,rfl⟩⟩
theorem k73_mkM (w:World)(base:Nat)(ok:Nat→Prop)(x:S73)  : k73.M w base ok x [.int .i64 x.f0,.int .i64 x.f1,.int .i64 x.f2]:=⟨[.int .i64 x.f0],[.int .i64 x.f1,.int .i64 x.f2],rfl,rfl,⟨[.int .i64 x.f1],[.int .i64 x.f2],rfl,rfl,rfl⟩⟩
def rd_T73 (xs:List S73)(i:Int):S73:=xs.getD i.toNat z73
theorem at_T73 {w:World}{A:Option Addr}{n:Nat}{xs:List S73}(h:Kd.C k73 w A n xs)(i:Int)(h0:0≤i)(h1:i < n):∃ ad ,A=some ad∧w.cell? (ad.add (i.toNat * 3))=some (.int .i64 (rd_T73 xs i).f0)∧w.cell? ⟨(ad.add (i.toNat * 3)).block,(ad.add (i.toNat * 3)).off+1,none⟩=some (.int .i64 (rd_T73 xs i).f1)∧w.cell? ⟨(ad.add (i.toNat * 3)).block,(ad.add (i.toNat * 3)).off+2,none⟩=some (.int .i64 (rd_T73 xs i).f2):=by
  obtain⟨ad,c,e,_,hK,D⟩:=Kd.C_get h z73 i h0 h1;have hc:∀ j u,c[j]?=some u→w.cell? (ad.add (i.toNat * 3+j))=some u:=D;obtain rfl:=k73_open hK;exact⟨ad,e,hc 0 _ rfl,by rw[←add_field _ _ 1 (by omega)];exact hc 1 _ rfl,by rw[←add_field _ _ 2 (by omega)];exact hc 2 _ rfl⟩

/-! #### struct type 82 -/
structure S82 where
  f0:Int
  f1:(List Int)
  f2:S73
def z82:S82:=⟨(0:Int),([]:List Int),z73⟩
def k82:Kd S82:=Kd.iso (Kd.pair (Kd.int .i64) (Kd.pair (Kd.slice 3 (Kd.int .i64)) k73)) (fun x:S82=>(x.f0,x.f1,x.f2))
theorem k82_open {w:World}{x:S82}{cs:List Value}(h:k82.K w x cs):∃ D I,cs=[.int .i64 x.f0,.slice D x.f1.length I,.int .i64 x.f2.f0,.int .i64 x.f2.f1,.int .i64 x.f2.f2]∧x.f1.length≤I∧(Kd.int .i64).C w D x.f1.length x.f1:=by
  obtain⟨_,_,rfl,rfl,⟨_,_,rfl,⟨D,I,rfl,J,g1⟩,s2⟩⟩:=h;obtain rfl:=k73_open s2;exact⟨D,I,rfl,J,g1⟩
theorem k82_openM {w:World}{base:Nat}{ok:Nat→Prop}{x:S82}{cs:List Value}(h:k82.M w base ok x cs):∃ D,cs=[.int .i64 x.f0,D,.int .i64 x.f2.f0,.int .i64 x.f2.f1,.int .i64 x.f2.f2]∧(Kd.int .i64).R 3 w base ok D x.f1:=by
  obtain⟨_,_,rfl,rfl,⟨_,_,rfl,⟨D,rfl,g1⟩,s2⟩⟩:=h;obtain rfl:=k73_openM s2;exact⟨D,rfl,g1⟩
theorem k82_mk (w:World)(x:S82){D:Option Addr}{I:Nat}(J:x.f1.length≤I)(g1:(Kd.int .i64).C w D x.f1.length x.f1):k82.K w x [.int .i64 x.f0,.slice D x.f1.length I,.int .i64 x.f2.f0,.int .i64 x.f2.f1,.int .i64 x.f2.f2]:=⟨[.int .i64 x.f0],[.slice D x.f1.length I,.int .i64 x.f2.f0,.int .i64 x.f2.f1,.int .i64 x.f2.f2],rfl,rfl,⟨[.slice D x.f1.length I],[.int .i64 x.f2.f0,.int .i64 x.f2.f1,.int .i64 x.f2.f2],rfl,⟨D,I,rfl,J,g1⟩,(k73_mk w x.f2)⟩⟩
theorem k82_mkM (w:World)(base:Nat)(ok:Nat→Prop)(x:S82){D:Value}(g1:(Kd.int .i64).R 3 w base ok D x.f1):k82.M w base ok x [.int .i64 x.f0,D,.int .i64 x.f2.f0,.int .i64 x.f2.f1,.int .i64 x.f2.f2]:=⟨[.int .i64 x.f0],[D,.int .i64 x.f2.f0,.int .i64 x.f2.f1,.int .i64 x.f2.f2],rfl,rfl,⟨[D],[.int .i64 x.f2.f0,.int .i64 x.f2.f1,.int .i64 x.f2.f2],rfl,⟨D,rfl,g1⟩,(k73_mkM w base ok x.f2)⟩⟩
def rd_T82 (xs:List S82)(i:Int):S82:=xs.getD i.toNat z82
theorem at_T82 {w:World}{A:Option Addr}{n:Nat}{xs:List S82}(h:Kd.C k82 w A n xs)(i:Int)(h0:0≤i)(h1:i < n):∃ ad D I,A=some ad∧w.cell? (ad.add (i.toNat * 5))=some (.int .i64 (rd_T82 xs i).f0)∧w.cell? ⟨(ad.add (i.toNat * 5)).block,(ad.add (i.toNat * 5)).off+1,none⟩=some (.slice D (rd_T82 xs i).f1.length I)∧w.cell? ⟨(ad.add (i.toNat * 5)).block,(ad.add (i.toNat * 5)).off+2,none⟩=some (.int .i64 (rd_T82 xs i).f2.f0)∧w.cell? ⟨(ad.add (i.toNat * 5)).block,(ad.add (i.toNat * 5)).off+3,none⟩=some (.int .i64 (rd_T82 xs i).f2.f1)∧w.cell? ⟨(ad.add (i.toNat * 5)).block,(ad.add (i.toNat * 5)).off+4,none⟩=some (.int .i64 (rd_T82 xs i).f2.f2)∧(rd_T82 xs i).f1.length≤I∧(Kd.int .i64).C w D (rd_T82 xs i).f1.length (rd_T82 xs i).f1:=by
  obtain⟨ad,c,e,_,hK,J⟩:=Kd.C_get h z82 i h0 h1;have hc:∀ j u,c[j]?=some u→w.cell? (ad.add (i.toNat * 5+j))=some u:=J;obtain⟨D,I,rfl,L,g1⟩:=k82_open hK;exact⟨ad,D,I,e,hc 0 _ rfl,by rw[←add_field _ _ 1 (by omega)];exact hc 1 _ rfl,by rw[←add_field _ _ 2 (by omega)];exact hc 2 _ rfl,by rw[←add_field _ _ 3 (by omega)];exact hc 3 _ rfl,by rw[←add_field _ _ 4 (by omega)];exact hc 4 _ rfl,L,g1⟩

/-! #### struct type 84 -/
structure S84 where
  f0:S73
  f1:Int
  f2:S82
def z84:S84:=⟨z73,(0:Int),z82⟩
def k84:Kd S84:=Kd.iso (Kd.pair k73 (Kd.pair (Kd.int .i64) k82)) (fun x:S84=>(x.f0,x.f1,x.f2))
theorem k84_open {w:World}{x:S84}{cs:List Value}(h:k84.K w x cs):∃ D I,cs=[.int .i64 x.f0.f0,.int .i64 x.f0.f1,.int .i64 x.f0.f2,.int .i64 x.f1,.int .i64 x.f2.f0,.slice D x.f2.f1.length I,.int .i64 x.f2.f2.f0,.int .i64 x.f2.f2.f1,.int .i64 x.f2.f2.f2]∧x.f2.f1.length≤I∧(Kd.int .i64).C w D x.f2.f1.length x.f2.f1:=by
  obtain⟨_,_,rfl,s0,⟨_,_,rfl,rfl,s4⟩⟩:=h;obtain rfl:=k73_open s0;obtain⟨D,I,rfl,J,g5⟩:=k82_open s4;exact⟨D,I,rfl,J,g5⟩
theorem k84_openM {w:World}{base:Nat}{ok:Nat→Prop}{x:S84}{cs:List Value}(h:k84.M w base ok x cs):∃ D,cs=[.int .i64 x.f0.f0,.int .i64 x.f0.f1,.int .i64 x.f0.f2,.int .i64 x.f1,.int .i64 x.f2.f0,D,.int .i64 x.f2.f2.f0,.int .i64 x.f2.f2.f1,.int .i64 x.f2.f2.f2]∧(Kd.int .i64).R 3 w base ok D x.f2.f1:=by
  obtain⟨_,_,rfl,s0,⟨_,_,rfl,rfl,s4⟩⟩:=h;obtain rfl:=k73_openM s0;obtain⟨D,rfl,g5⟩:=k82_openM s4;exact⟨D,rfl,g5⟩
theorem k84_mk (w:World)(x:S84){D:Option Addr}{I:Nat}(J:x.f2.f1.length≤I)(g5:(Kd.int .i64).C w D x.f2.f1.length x.f2.f1):k84.K w x [.int .i64 x.f0.f0,.int .i64 x.f0.f1,.int .i64 x.f0.f2,.int .i64 x.f1,.int .i64 x.f2.f0,.slice D x.f2.f1.length I,.int .i64 x.f2.f2.f0,.int .i64 x.f2.f2.f1,.int .i64 x.f2.f2.f2]:=⟨[.int .i64 x.f0.f0,.int .i64 x.f0.f1,.int .i64 x.f0.f2],[.int .i64 x.f1,.int .i64 x.f2.f0,.slice D x.f2.f1.length I,.int .i64 x.f2.f2.f0,.int .i64 x.f2.f2.f1,.int .i64 x.f2.f2.f2],rfl,(k73_mk w x.f0),⟨[.int .i64 x.f1],[.int .i64 x.f2.f0,.slice D x.f2.f1.length I,.int .i64 x.f2.f2.f0,.int .i64 x.f2.f2.f1,.int .i64 x.f2.f2.f2],rfl,rfl,(k82_mk w x.f2 J g5)⟩⟩
theorem k84_mkM (w:World)(base:Nat)(ok:Nat→Prop)(x:S84){D:Value}(g5:(Kd.int .i64).R 3 w base ok D x.f2.f1):k84.M w base ok x [.int .i64 x.f0.f0,.int .i64 x.f0.f1,.int .i64 x.f0.f2,.int .i64 x.f1,.int .i64 x.f2.f0,D,.int .i64 x.f2.f2.f0,.int .i64 x.f2.f2.f1,.int .i64 x.f2.f2.f2]:=⟨[.int .i64 x.f0.f0,.int .i64 x.f0.f1,.int .i64 x.f0.f2],[.int .i64 x.f1,.int .i64 x.f2.f0,D,.int .i64 x.f2.f2.f0,.int .i64 x.f2.f2.f1,.int .i64 x.f2.f2.f2],rfl,(k73_mkM w base ok x.f0),⟨[.int .i64 x.f1],[.int .i64 x.f2.f0,D,.int .i64 x.f2.f2.f0,.int .i64 x.f2.f2.f1,.int .i64 x.f2.f2.f2],rfl,rfl,(k82_mkM w base ok x.f2 g5)⟩⟩
def rd_T84 (xs:List S84)(i:Int):S84:=xs.getD i.toNat z84
theorem at_T84 {w:World}{A:Option Addr}{n:Nat}{xs:List S84}(h:Kd.C k84 w A n xs)(i:Int)(h0:0≤i)(h1:i < n):∃ ad D I,A=some ad∧w.cell? (ad.add (i.toNat * 9))=some (.int .i64 (rd_T84 xs i).f0.f0)∧w.cell? ⟨(ad.add (i.toNat * 9)).block,(ad.add (i.toNat * 9)).off+1,none⟩=some (.int .i64 (rd_T84 xs i).f0.f1)∧w.cell? ⟨(ad.add (i.toNat * 9)).block,(ad.add (i.toNat * 9)).off+2,none⟩=some (.int .i64 (rd_T84 xs i).f0.f2)∧w.cell? ⟨(ad.add (i.toNat * 9)).block,(ad.add (i.toNat * 9)).off+3,none⟩=some (.int .i64 (rd_T84 xs i).f1)∧w.cell? ⟨(ad.add (i.toNat * 9)).block,(ad.add (i.toNat * 9)).off+4,none⟩=some (.int .i64 (rd_T84 xs i).f2.f0)∧w.cell? ⟨(ad.add (i.toNat * 9)).block,(ad.add (i.toNat * 9)).off+5,none⟩=some (.slice D (rd_T84 xs i).f2.f1.length I)∧w.cell? ⟨(ad.add (i.toNat * 9)).block,(ad.add (i.toNat * 9)).off+6,none⟩=some (.int .i64 (rd_T84 xs i).f2.f2.f0)∧w.cell? ⟨(ad.add (i.toNat * 9)).block,(ad.add (i.toNat * 9)).off+7,none⟩=some (.int .i64 (rd_T84 xs i).f2.f2.f1)∧w.cell? ⟨(ad.add (i.toNat * 9)).block,(ad.add (i.toNat * 9)).off+8,none⟩=some (.int .i64 (rd_T84 xs i).f2.f2.f2)∧(rd_T84 xs i).f2.f1.length≤I∧(Kd.int .i64).C w D (rd_T84 xs i).f2.f1.length (rd_T84 xs i).f2.f1:=by
  obtain⟨ad,c,e,_,hK,J⟩:=Kd.C_get h z84 i h0 h1;have hc:∀ j u,c[j]?=some u→w.cell? (ad.add (i.toNat * 9+j))=some u:=J;obtain⟨D,I,rfl,L,g5⟩:=k84_open hK;exact⟨ad,D,I,e,hc 0 _ rfl,by rw[←add_field _ _ 1 (by omega)];exact hc 1 _ rfl,by rw[←add_field _ _ 2 (by omega)];exact hc 2 _ rfl,by rw[←add_field _ _ 3 (by omega)];exact hc 3 _ rfl,by rw[←add_field _ _ 4 (by omega)];exact hc 4 _ rfl,by rw[←add_field _ _ 5 (by omega)];exact hc 5 _ rfl,by rw[←add_field _ _ 6 (by omega)];exact hc 6 _ rfl,by rw[←add_field _ _ 7 (by omega)];exact hc 7 _ rfl,by rw[←add_field _ _ 8 (by omega)];exact hc 8 _ rfl,L,g5⟩

/-! #### struct type 79 -/
structure S79 where
  f0:Int
  f1:S73
  f2:Int
def z79:S79:=⟨(0:Int),z73,(0:Int)⟩
def k79:Kd S79:=Kd.iso (Kd.pair (Kd.int .i64) (Kd.pair k73 (Kd.int .i64))) (fun x:S79=>(x.f0,x.f1,x.f2))
theorem k79_open {w:World}{x:S79}{cs:List Value}(h:k79.K w x cs):cs=[.int .i64 x.f0,.int .i64 x.f1.f0,.int .i64 x.f1.f1,.int .i64 x.f1.f2,.int .i64 x.f2]:=by
  obtain⟨_,_,rfl,rfl,⟨_,_,rfl,s1,rfl⟩⟩:=h;obtain rfl:=k73_open s1;exact rfl
theorem k79_openM {w:World}{base:Nat}{ok:Nat→Prop}{x:S79}{cs:List Value}(h:k79.M w base ok x cs):cs=[.int .i64 x.f0,.int .i64 x.f1.f0,.int .i64 x.f1.f1,.int .i64 x.f1.f2,.int .i64 x.f2]:=by
  obtain⟨_,_,rfl,rfl,⟨_,_,rfl,s1,rfl⟩⟩:=h;obtain rfl:=k73_openM s1;exact rfl
theorem k79_mk (w:World)(x:S79)  : k79.K w x [.int .i64 x.f0,.int .i64 x.f1.f0,.int .i64 x.f1.f1,.int .i64 x.f1.f2,.int .i64 x.f2]:=⟨[.int .i64 x.f0],[.int .i64 x.f1.f0,.int .i64 x.f1.f1,.int .i64 x.f1.f2,.int .i64 x.f2],rfl,rfl,⟨[.int .i64 x.f1.f0,.int .i64 x.f1.f1,.int .i64 x.f1.f2],[.int .i64 x.f2],rfl,(k73_mk w x.f1),rfl⟩⟩
theorem k79_mkM (w:World)(base:Nat)(ok:Nat→Prop)(x:S79)  : k79.M w base ok x [.int .i64 x.f0,.int .i64 x.f1.f0,.int .i64 x.f1.f1,.int .i64 x.f1.f2,.int .i64 x.f2]:=⟨[.int .i64 x.f0],[.int .i64 x.f1.f0,.int .i64 x.f1.f1,.int .i64 x.f1.f2,.int .i64 x.f2],rfl,rfl,⟨[.int .i64 x.f1.f0,.int .i64 x.f1.f1,.int .i64 x.f1.f2],[.int .i64 x.f2],rfl,(k73_mkM w base ok x.f1),rfl⟩⟩
def rd_T79 (xs:List S79)(i:Int):S79:=xs.getD i.toNat z79
theorem at_T79 {w:World}{A:Option Addr}{n:Nat}{xs:List S79}(h:Kd.C k79 w A n xs)(i:Int)(h0:0≤i)(h1:i < n):∃ ad ,A=some ad∧w.cell? (ad.add (i.toNat * 5))=some (.int .i64 (rd_T79 xs i).f0)∧w.cell? ⟨(ad.add (i.toNat * 5)).block,(ad.add (i.toNat * 5)).off+1,none⟩=some (.int .i64 (rd_T79 xs i).f1.f0)∧w.cell? ⟨(ad.add (i.toNat * 5)).block,(ad.add (i.toNat * 5)).off+2,none⟩=some (.int .i64 (rd_T79 xs i).f1.f1)∧w.cell? ⟨(ad.add (i.toNat * 5)).block,(ad.add (i.toNat * 5)).off+3,none⟩=some (.int .i64 (rd_T79 xs i).f1.f2)∧w.cell? ⟨(ad.add (i.toNat * 5)).block,(ad.add (i.toNat * 5)).off+4,none⟩=some (.int .i64 (rd_T79 xs i).f2):=by
  obtain⟨ad,c,e,_,hK,D⟩:=Kd.C_get h z79 i h0 h1;have hc:∀ j u,c[j]?=some u→w.cell? (ad.add (i.toNat * 5+j))=some u:=D;obtain rfl:=k79_open hK;exact⟨ad,e,hc 0 _ rfl,by rw[←add_field _ _ 1 (by omega)];exact hc 1 _ rfl,by rw[←add_field _ _ 2 (by omega)];exact hc 2 _ rfl,by rw[←add_field _ _ 3 (by omega)];exact hc 3 _ rfl,by rw[←add_field _ _ 4 (by omega)];exact hc 4 _ rfl⟩

/-! #### struct type 57 -/
structure S57 where
  f0:Int
  f1:(List Int)
  f2:(List Int)
  f3:(List Int)
def z57:S57:=⟨(0:Int),([]:List Int),([]:List Int),([]:List Int)⟩
def k57:Kd S57:=Kd.iso (Kd.pair (Kd.int .i64) (Kd.pair (Kd.slice 3 (Kd.int .i64)) (Kd.pair (Kd.slice 3 (Kd.int .i64)) (Kd.slice 3 (Kd.int .i64))))) (fun x:S57=>(x.f0,x.f1,x.f2,x.f3))
theorem k57_open {w:World}{x:S57}{cs:List Value}(h:k57.K w x cs):∃ D I J L U X,cs=[.int .i64 x.f0,.slice D x.f1.length I,.slice J x.f2.length L,.slice U x.f3.length X]∧x.f1.length≤I∧(Kd.int .i64).C w D x.f1.length x.f1∧x.f2.length≤L∧(Kd.int .i64).C w J x.f2.length x.f2∧x.f3.length≤X∧(Kd.int .i64).C w U x.f3.length x.f3:=by
  obtain⟨_,_,rfl,rfl,⟨_,_,rfl,⟨D,I,rfl,Y,g1⟩,⟨_,_,rfl,⟨J,L,rfl,Z,g2⟩,⟨U,X,rfl,l3,g3⟩⟩⟩⟩:=h;exact⟨D,I,J,L,U,X,rfl,Y,g1,Z,g2,l3,g3⟩
theorem k57_openM {w:World}{base:Nat}{ok:Nat→Prop}{x:S57}{cs:List Value}(h:k57.M w base ok x cs):∃ D I J,cs=[.int .i64 x.f0,D,I,J]∧(Kd.int .i64).R 3 w base ok D x.f1∧(Kd.int .i64).R 3 w base ok I x.f2∧(Kd.int .i64).R 3 w base ok J x.f3:=by
  obtain⟨_,_,rfl,rfl,⟨_,_,rfl,⟨D,rfl,g1⟩,⟨_,_,rfl,⟨I,rfl,g2⟩,⟨J,rfl,g3⟩⟩⟩⟩:=h;exact⟨D,I,J,rfl,g1,g2,g3⟩
theorem k57_mk (w:World)(x:S57){U:Option Addr}{X:Nat}(Y:x.f1.length≤X)(g1:(Kd.int .i64).C w U x.f1.length x.f1){D:Option Addr}{I:Nat}(Z:x.f2.length≤I)(g2:(Kd.int .i64).C w D x.f2.length x.f2){J:Option Addr}{L:Nat}(l3:x.f3.length≤L)(g3:(Kd.int .i64).C w J x.f3.length x.f3):k57.K w x [.int .i64 x.f0,.slice U x.f1.length X,.slice D x.f2.length I,.slice J x.f3.length L]:=⟨[.int .i64 x.f0],[.slice U x.f1.length X,.slice D x.f2.length I,.slice J x.f3.length L],rfl,rfl,⟨[.slice U x.f1.length X],[.slice D x.f2.length I,.slice J x.f3.length L],rfl,⟨U,X,rfl,Y,g1⟩,⟨[.slice D x.f2.length I],[.slice J x.f3.length L],rfl,⟨D,I,rfl,Z,g2⟩,⟨J,L,rfl,l3,g3⟩⟩⟩⟩
theorem k57_mkM (w:World)(base:Nat)(ok:Nat→Prop)(x:S57){J:Value}(g1:(Kd.int .i64).R 3 w base ok J x.f1){D:Value}(g2:(Kd.int .i64).R 3 w base ok D x.f2){I:Value}(g3:(Kd.int .i64).R 3 w base ok I x.f3):k57.M w base ok x [.int .i64 x.f0,J,D,I]:=⟨[.int .i64 x.f0],[J,D,I],rfl,rfl,⟨[J],[D,I],rfl,⟨J,rfl,g1⟩,⟨[D],[I],rfl,⟨D,rfl,g2⟩,⟨I,rfl,g3⟩⟩⟩⟩
def rd_T57 (xs:List S57)(i:Int):S57:=xs.getD i.toNat z57
theorem at_T57 {w:World}{A:Option Addr}{n:Nat}{xs:List S57}(h:Kd.C k57 w A n xs)(i:Int)(h0:0≤i)(h1:i < n):∃ ad D I J L U X,A=some ad∧w.cell? (ad.add (i.toNat * 4))=some (.int .i64 (rd_T57 xs i).f0)∧w.cell? ⟨(ad.add (i.toNat * 4)).block,(ad.add (i.toNat * 4)).off+1,none⟩=some (.slice D (rd_T57 xs i).f1.length I)∧w.cell? ⟨(ad.add (i.toNat * 4)).block,(ad.add (i.toNat * 4)).off+2,none⟩=some (.slice J (rd_T57 xs i).f2.length L)∧w.cell? ⟨(ad.add (i.toNat * 4)).block,(ad.add (i.toNat * 4)).off+3,none⟩=some (.slice U (rd_T57 xs i).f3.length X)∧(rd_T57 xs i).f1.length≤I∧(Kd.int .i64).C w D (rd_T57 xs i).f1.length (rd_T57 xs i).f1∧(rd_T57 xs i).f2.length≤L∧(Kd.int .i64).C w J (rd_T57 xs i).f2.length (rd_T57 xs i).f2∧(rd_T57 xs i).f3.length≤X∧(Kd.int .i64).C w U (rd_T57 xs i).f3.length (rd_T57 xs i).f3:=by
  obtain⟨ad,c,e,_,hK,Y⟩:=Kd.C_get h z57 i h0 h1;have hc:∀ j u,c[j]?=some u→w.cell? (ad.add (i.toNat * 4+j))=some u:=Y;obtain⟨D,I,J,L,U,X,rfl,Z,g1,l2,g2,l3,g3⟩:=k57_open hK;exact⟨ad,D,I,J,L,U,X,e,hc 0 _ rfl,by rw[←add_field _ _ 1 (by omega)];exact hc 1 _ rfl,by rw[←add_field _ _ 2 (by omega)];exact hc 2 _ rfl,by rw[←add_field _ _ 3 (by omega)];exact hc 3 _ rfl,Z,g1,l2,g2,l3,g3⟩

/-! #### struct type 57, its three rows told apart -/
def k57a:Kd S57 where
  sz:=4
  E:=[3]
  K:=k57.K
  M:=fun w base ok x cs=>∃(f:Nat→Nat)(D I J:Value),cs=[.int .i64 x.f0,D,I,J]∧(Kd.int .i64).R 3 w base (fun k=>ok k∧f k=1) D x.f1∧(Kd.int .i64).R 3 w base (fun k=>ok k∧f k=2) I x.f2∧(Kd.int .i64).R 3 w base (fun k=>ok k∧f k=3) J x.f3
  K_len:=fun h=>k57.K_len h
  K_one:=fun h=>k57.K_one h
  K_below:=fun hb h=>k57.K_below hb h
  K_of_M:=fun {w base ok x cs} h=>by
    obtain⟨f,D,I,J,rfl,g1,g2,g3⟩:=h;exact k57.K_of_M (k57_mkM w base ok x (Kd.R_mono g1 (fun _ hk=>hk.1)) (Kd.R_mono g2 (fun _ hk=>hk.1)) (Kd.R_mono g3 (fun _ hk=>hk.1)))
  M_mono:=fun hok h=>by
    obtain⟨f,D,I,J,rfl,g1,g2,g3⟩:=h;exact⟨f,D,I,J,rfl,Kd.R_mono g1 (fun k hk=>⟨hok k hk.1,hk.2⟩),Kd.R_mono g2 (fun k hk=>⟨hok k hk.1,hk.2⟩),Kd.R_mono g3 (fun k hk=>⟨hok k hk.1,hk.2⟩)⟩
  M_bound:=fun h=>by
    obtain⟨f,D,I,J,rfl,g1,g2,g3⟩:=h;exact⟨f,D,I,J,rfl,Kd.R_mono (Kd.R_bound g1) (fun k hk=>⟨⟨hk.1.1,hk.2⟩,hk.1.2⟩),Kd.R_mono (Kd.R_bound g2) (fun k hk=>⟨⟨hk.1.1,hk.2⟩,hk.1.2⟩),Kd.R_mono (Kd.R_bound g3) (fun k hk=>⟨⟨hk.1.1,hk.2⟩,hk.1.2⟩)⟩
  M_move:=fun hm h=>by
    obtain⟨f,D,I,J,rfl,g1,g2,g3⟩:=h;exact⟨f,D,I,J,rfl,Kd.R_move g1 (fun k hk=>hm k hk.1),Kd.R_move g2 (fun k hk=>hm k hk.1),Kd.R_move g3 (fun k hk=>hm k hk.1)⟩
  M_lower:=fun hb h=>by
    obtain⟨f,D,I,J,rfl,g1,g2,g3⟩:=h;exact⟨f,D,I,J,rfl,Kd.R_lower g1 hb,Kd.R_lower g2 hb,Kd.R_lower g3 hb⟩
theorem stH {α:Type}{d:Kd α}{e:Nat}{w D:World}{base:Nat}{ok oki:Nat→Prop}{v:Value}{xs:List α}{i:Int}{c:List Value}(h:Kd.H d e w base ok v xs i oki c)(hm:∀ k,ok k→¬oki k→k < w.heap.size→D.heap[k]?=w.heap[k]?):Kd.H d e D base ok v xs i oki c:=by
  obtain⟨ho,f,h⟩:=h;exact⟨ho,f,Kd.R_step h (fun k hk hlt=>hm k hk.1 hk.2 hlt)⟩
theorem k57a_mkM {w:World}{base:Nat}{okp:Nat→Prop}{x:S57}{D I J:Value}(g1:(Kd.int .i64).R 3 w base (fun k=>some k=D.ownBlock) D x.f1)(g2:(Kd.int .i64).R 3 w base (fun k=>some k=I.ownBlock) I x.f2)(g3:(Kd.int .i64).R 3 w base (fun k=>some k=J.ownBlock) J x.f3)
    (o1:∀ k,some k=D.ownBlock→okp k) (o2:∀ k,some k=I.ownBlock→okp k∧some k≠D.ownBlock) (o3:∀ k,some k=J.ownBlock→okp k∧some k≠D.ownBlock∧some k≠I.ownBlock):k57a.M w base okp x [.int .i64 x.f0,D,I,J] :=
  ⟨fun k=>if some k=D.ownBlock then 1 else if some k=I.ownBlock then 2 else 3,D,I,J,rfl,Kd.R_mono g1 (fun k hk=>⟨o1 k hk,if_pos hk⟩),Kd.R_mono g2 (fun k hk=>⟨(o2 k hk).1,(if_neg (o2 k hk).2).trans (if_pos hk)⟩),Kd.R_mono g3 (fun k hk=>⟨(o3 k hk).1,(if_neg (o3 k hk).2.1).trans (if_neg (o3 k hk).2.2)⟩)⟩
theorem st_row1 {W:World}{base g n cap:Nat}{ok:Nat→Prop}{xs:List S57}(h:Kd.S k57a 57 W base ok (.slice (some ⟨g,0,none⟩) n cap) xs)(i:Int)(h0:0≤i)(h1:i < n) :
    ∃(P:Nat→Prop)(v:Value),(∀ k,P k→ok k)∧W.cell? ((⟨g,0,none⟩:Addr).add (i.toNat * 4+1))=some v∧(Kd.int .i64).R 3 W base P v (rd_T57 xs i).f1 ∧
      ∀ (w':World) (m:List Int),(Kd.int .i64).R 3 w' base (fun k=>P k∨W.heap.size≤k) v m→(∀ k,¬P k→k < W.heap.size→w'.heap[k]?=W.heap[k]?)→Kd.S k57a 57 w' base ok (.slice (some ⟨g,0,none⟩) n cap) (xs.set i.toNat ⟨(rd_T57 xs i).f0,m,(rd_T57 xs i).f2,(rd_T57 xs i).f3⟩):=by
  obtain⟨oki,c,hcl,hM,hcc,hoki,hH⟩:=Kd.S_lend h z57 i h0 h1;obtain⟨f,D,I,J,rfl,g1,g2,g3⟩:=hM;refine⟨fun k=>oki k∧f k=1,D,fun k hk=>(hoki k hk.1).1,?_,g1,fun w' m hR hk=>?_⟩
  ·have h2:=hcc 1 D rfl;rw[add_at,Nat.zero_add];exact h2
  ·refine Kd.H_back (okp:=oki) (stH hH (fun k _ hn hl=>hk k (fun hP=>hn hP.1) hl)) ?_ (fun _ hk=>hk);exact⟨f,D,I,J,rfl,Kd.R_mono (Kd.R_tight rfl hR) (fun k e=>g1.1 k e.symm),Kd.R_step g2 (fun k ho hl=>hk k (fun hP=>by have:=hP.2;have:=ho.2;omega) hl),Kd.R_step g3 (fun k ho hl=>hk k (fun hP=>by have:=hP.2;have:=ho.2;omega) hl)⟩
theorem st_row2 {W:World}{base g n cap:Nat}{ok:Nat→Prop}{xs:List S57}(h:Kd.S k57a 57 W base ok (.slice (some ⟨g,0,none⟩) n cap) xs)(i:Int)(h0:0≤i)(h1:i < n) :
    ∃(P:Nat→Prop)(v:Value),(∀ k,P k→ok k)∧W.cell? ((⟨g,0,none⟩:Addr).add (i.toNat * 4+2))=some v∧(Kd.int .i64).R 3 W base P v (rd_T57 xs i).f2 ∧
      ∀ (w':World) (m:List Int),(Kd.int .i64).R 3 w' base (fun k=>P k∨W.heap.size≤k) v m→(∀ k,¬P k→k < W.heap.size→w'.heap[k]?=W.heap[k]?)→Kd.S k57a 57 w' base ok (.slice (some ⟨g,0,none⟩) n cap) (xs.set i.toNat ⟨(rd_T57 xs i).f0,(rd_T57 xs i).f1,m,(rd_T57 xs i).f3⟩):=by
  obtain⟨oki,c,hcl,hM,hcc,hoki,hH⟩:=Kd.S_lend h z57 i h0 h1;obtain⟨f,I,D,J,rfl,g1,g2,g3⟩:=hM;refine⟨fun k=>oki k∧f k=2,D,fun k hk=>(hoki k hk.1).1,?_,g2,fun w' m hR hk=>?_⟩
  ·have h2:=hcc 2 D rfl;rw[add_at,Nat.zero_add];exact h2
  ·refine Kd.H_back (okp:=oki) (stH hH (fun k _ hn hl=>hk k (fun hP=>hn hP.1) hl)) ?_ (fun _ hk=>hk);exact⟨f,I,D,J,rfl,Kd.R_step g1 (fun k ho hl=>hk k (fun hP=>by have:=hP.2;have:=ho.2;omega) hl),Kd.R_mono (Kd.R_tight rfl hR) (fun k e=>g2.1 k e.symm),Kd.R_step g3 (fun k ho hl=>hk k (fun hP=>by have:=hP.2;have:=ho.2;omega) hl)⟩
theorem st_row3 {W:World}{base g n cap:Nat}{ok:Nat→Prop}{xs:List S57}(h:Kd.S k57a 57 W base ok (.slice (some ⟨g,0,none⟩) n cap) xs)(i:Int)(h0:0≤i)(h1:i < n) :
    ∃(P:Nat→Prop)(v:Value),(∀ k,P k→ok k)∧W.cell? ((⟨g,0,none⟩:Addr).add (i.toNat * 4+3))=some v∧(Kd.int .i64).R 3 W base P v (rd_T57 xs i).f3 ∧
      ∀ (w':World) (m:List Int),(Kd.int .i64).R 3 w' base (fun k=>P k∨W.heap.size≤k) v m→(∀ k,¬P k→k < W.heap.size→w'.heap[k]?=W.heap[k]?)→Kd.S k57a 57 w' base ok (.slice (some ⟨g,0,none⟩) n cap) (xs.set i.toNat ⟨(rd_T57 xs i).f0,(rd_T57 xs i).f1,(rd_T57 xs i).f2,m⟩):=by
  obtain⟨oki,c,hcl,hM,hcc,hoki,hH⟩:=Kd.S_lend h z57 i h0 h1;obtain⟨f,I,J,D,rfl,g1,g2,g3⟩:=hM;refine⟨fun k=>oki k∧f k=3,D,fun k hk=>(hoki k hk.1).1,?_,g3,fun w' m hR hk=>?_⟩
  ·have h2:=hcc 3 D rfl;rw[add_at,Nat.zero_add];exact h2
  ·refine Kd.H_back (okp:=oki) (stH hH (fun k _ hn hl=>hk k (fun hP=>hn hP.1) hl)) ?_ (fun _ hk=>hk);exact⟨f,I,J,D,rfl,Kd.R_step g1 (fun k ho hl=>hk k (fun hP=>by have:=hP.2;have:=ho.2;omega) hl),Kd.R_step g2 (fun k ho hl=>hk k (fun hP=>by have:=hP.2;have:=ho.2;omega) hl),Kd.R_mono (Kd.R_tight rfl hR) (fun k e=>g3.1 k e.symm)⟩

end Go.Proofs.Ythojdjnchhkafaa.MFnExactTraceVisit
