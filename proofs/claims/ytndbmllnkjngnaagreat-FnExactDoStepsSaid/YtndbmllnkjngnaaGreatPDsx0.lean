/- Functions of the program, each with its contract, written by a program out of the translation. -/
import Derived.Test.YtndbmllnkjngnaaGreatProg
import Derived.Below
import Derived.Deep.Draws
import Derived.Deep.AppendLies
import Derived.Maps.AppendAt
import Derived.OwnWalk
import Derived.Laws.BytesArg
import Derived.Laws.MakeOwn
import Derived.Laws.OwnMore
import Derived.Deep.OwnRows
import Derived.Tactics
import Derived.Lib.ConvBytes
import Derived.Laws.Slices
import Derived.WalkKit
import Derived.KernelRfl
import Derived.RowKit3
import Derived.Deep.LoopGhost
import Derived.Deep.QuietTactic
import Derived.BigQuiet
import Derived.WideLaws
import Derived.Deep.DeepCutAuto
import Derived.Deep.CutBlock
import Derived.Deep.RegionHeld3
import Derived.Laws.Rows
import Derived.Lib.AppendStr
import Derived.ArgAppend
import Derived.Laws.IdiomCopy
import Derived.OrdersHeld
import Derived.Laws.BitsLemmas
import Derived.RowKit
import Derived.Lib.SliceRun
import Derived.Laws.Cover1
import Derived.Test.YtndbmllnkjngnaaGreatWWords
import Derived.Test.YtndbmllnkjngnaaGreatWLast
import Derived.Test.YtndbmllnkjngnaaGreatWTab
import Derived.Test.YtndbmllnkjngnaaGreatWFour
import Derived.Test.YtndbmllnkjngnaaGreatWQPut
import Derived.Test.YtndbmllnkjngnaaGreatWApart
import Derived.Test.YtndbmllnkjngnaaGreatWArr
import Derived.Test.YtndbmllnkjngnaaGreatWZeros
import Derived.Test.YtndbmllnkjngnaaGreatWFoot
import Derived.Test.YtndbmllnkjngnaaGreatWKept
import Derived.Test.YtndbmllnkjngnaaGreatWShare
import Derived.Test.YtndbmllnkjngnaaGreatWN
import Derived.Test.YtndbmllnkjngnaaGreatWFootNe
import Derived.Test.YtndbmllnkjngnaaGreatWAt
import Derived.Test.YtndbmllnkjngnaaGreatWEqStruct
import Derived.Test.YtndbmllnkjngnaaGreatWRepsOne
import Derived.Test.YtndbmllnkjngnaaGreatWInv
import Derived.Test.YtndbmllnkjngnaaGreatWInvWords
import Derived.Test.YtndbmllnkjngnaaGreatWGuard
import Derived.Test.YtndbmllnkjngnaaGreatWNEv
import Derived.Test.YtndbmllnkjngnaaGreatWMore
namespace Go.Proofs.YtndbmllnkjngnaaGreat.PDs
open Go.RowKit Go.Proofs.YtndbmllnkjngnaaGreatW.PrintWords Go.Proofs.YtndbmllnkjngnaaGreatW.PrintLast Go.Proofs.YtndbmllnkjngnaaGreatW.PrintMore
attribute [local go_sem] max2_int min2_int max_two min_two max_three min_three max_four min_four
set_option linter.unusedVariables false
set_option linter.unusedSimpArgs false
def errW:Option Int→Value
  |none=>.nilIface
  |some c=>.iface 0 (.int .i64 c)
theorem errW_none:errW none = .nilIface:=rfl
theorem errW_some (c:Int):errW (some c) = .iface 0 (.int .i64 c):=rfl
theorem info3:(Tryz.prog.info? 3).map (fun i=>(i.zero,i.size,i.bytes))=some (some (.int .i64 0),1,8):=by kernel_rfl
theorem info5:(Tryz.prog.info? 5).map (fun i=>(i.zero,i.size,i.bytes))=some (some (.int .u8 0),1,1):=by kernel_rfl
theorem info130:(Tryz.prog.info? 130).map (fun i=>(i.zero,i.size,i.bytes))=some (some (.agg #[(.int .i64 0),(.string ⟨#[]⟩),(.int .i64 0)]),3,32):=by kernel_rfl
theorem info133:(Tryz.prog.info? 133).map (fun i=>(i.zero,i.size,i.bytes))=some (some (.agg #[(.string ⟨#[]⟩),(.int .i64 0)]),2,24):=by kernel_rfl
theorem info135:(Tryz.prog.info? 135).map (fun i=>(i.zero,i.size,i.bytes))=some (some (.agg #[(.int .i64 0),(.string ⟨#[]⟩),(.string ⟨#[]⟩),(.int .i64 0)]),4,48):=by kernel_rfl
structure S121 where
  f0:Int
  f1:ByteArray
  f2:Int
def z121:S121:=⟨(0:Int),(⟨#[]⟩:ByteArray),(0:Int)⟩
def k121:Kd S121:=Kd.iso (Kd.pair (Kd.int .i64) (Kd.pair Kd.string (Kd.int .i64))) (fun x:S121=>(x.f0,x.f1,x.f2))
theorem k121_heap:Kd.Heap k121:=Kd.heap_iso _ (Kd.heap_pair (Kd.heap_int .i64) (Kd.heap_pair Kd.heap_string (Kd.heap_int .i64)))
theorem k121_open {w:World} {x:S121} {cs:List Value} (h:k121.K w x cs):cs = [.int .i64 x.f0,.string x.f1,.int .i64 x.f2]:=by
  obtain⟨_,_,rfl,rfl,⟨_,_,rfl,rfl,rfl⟩⟩:=h
  exact rfl
theorem k121_openM {w:World} {base:Nat} {ok:Nat→Prop} {x:S121} {cs:List Value} (h:k121.M w base ok x cs):cs = [.int .i64 x.f0,.string x.f1,.int .i64 x.f2]:=by
  obtain⟨_,_,rfl,rfl,⟨_,_,rfl,rfl,rfl⟩⟩:=h
  exact rfl
theorem k121_mk (w:World) (x:S121):k121.K w x [.int .i64 x.f0,.string x.f1,.int .i64 x.f2]:=⟨[.int .i64 x.f0],[.string x.f1,.int .i64 x.f2],rfl,rfl,⟨[.string x.f1],[.int .i64 x.f2],rfl,rfl,rfl⟩⟩
theorem k121_mkM (w:World) (base:Nat) (ok:Nat→Prop) (x:S121):k121.M w base ok x [.int .i64 x.f0,.string x.f1,.int .i64 x.f2]:=⟨[.int .i64 x.f0],[.string x.f1,.int .i64 x.f2],rfl,rfl,⟨[.string x.f1],[.int .i64 x.f2],rfl,rfl,rfl⟩⟩
theorem k121_mkF (W:World) (ok:Nat→Prop) (x:S121):Kd.FK k121 W ok x [.int .i64 x.f0,.string x.f1,.int .i64 x.f2]:=fun J _=>k121_mk J x
def rd_T121 (xs:List S121) (i:Int):S121:=xs.getD i.toNat z121
theorem at_T121 {w:World} {A:Option Addr} {n:Nat} {xs:List S121} (h:Kd.C k121 w A n xs) (i:Int) (U:0≤i) (X:i<n):∃ad,A=some ad∧w.cell? (ad.add (i.toNat*3))=some (.int .i64 (rd_T121 xs i).f0)∧w.cell? ⟨(ad.add (i.toNat*3)).block,(ad.add (i.toNat*3)).off+1,none⟩=some (.string (rd_T121 xs i).f1)∧w.cell? ⟨(ad.add (i.toNat*3)).block,(ad.add (i.toNat*3)).off+2,none⟩=some (.int .i64 (rd_T121 xs i).f2):=by
  obtain⟨ad,c,e,_,hK,D⟩:=Kd.C_get h z121 i U X
  have hc:∀j u,c[j]? = some u→w.cell? (ad.add (i.toNat*3+j))=some u:=D
  obtain rfl:=k121_open hK
  exact⟨ad,e,hc 0 _ rfl,by rw[←add_field _ _ 1 (by omega)];exact hc 1 _ rfl,by rw[←add_field _ _ 2 (by omega)];exact hc 2 _ rfl⟩
structure S124 where
  f0:ByteArray
  f1:Int
def z124:S124:=⟨(⟨#[]⟩:ByteArray),(0:Int)⟩
def k124:Kd S124:=Kd.iso (Kd.pair Kd.string (Kd.int .i64)) (fun x:S124=>(x.f0,x.f1))
theorem k124_heap:Kd.Heap k124:=Kd.heap_iso _ (Kd.heap_pair Kd.heap_string (Kd.heap_int .i64))
theorem k124_open {w:World} {x:S124} {cs:List Value} (h:k124.K w x cs):cs = [.string x.f0,.int .i64 x.f1]:=by
  obtain⟨_,_,rfl,rfl,rfl⟩:=h
  exact rfl
theorem k124_openM {w:World} {base:Nat} {ok:Nat→Prop} {x:S124} {cs:List Value} (h:k124.M w base ok x cs):cs = [.string x.f0,.int .i64 x.f1]:=by
  obtain⟨_,_,rfl,rfl,rfl⟩:=h
  exact rfl
theorem k124_mk (w:World) (x:S124):k124.K w x [.string x.f0,.int .i64 x.f1]:=⟨[.string x.f0],[.int .i64 x.f1],rfl,rfl,rfl⟩
theorem k124_mkM (w:World) (base:Nat) (ok:Nat→Prop) (x:S124):k124.M w base ok x [.string x.f0,.int .i64 x.f1]:=⟨[.string x.f0],[.int .i64 x.f1],rfl,rfl,rfl⟩
theorem k124_mkF (W:World) (ok:Nat→Prop) (x:S124):Kd.FK k124 W ok x [.string x.f0,.int .i64 x.f1]:=fun J _=>k124_mk J x
def rd_T124 (xs:List S124) (i:Int):S124:=xs.getD i.toNat z124
theorem at_T124 {w:World} {A:Option Addr} {n:Nat} {xs:List S124} (h:Kd.C k124 w A n xs) (i:Int) (U:0≤i) (X:i<n):∃ad,A=some ad∧w.cell? (ad.add (i.toNat*2))=some (.string (rd_T124 xs i).f0)∧w.cell? ⟨(ad.add (i.toNat*2)).block,(ad.add (i.toNat*2)).off+1,none⟩=some (.int .i64 (rd_T124 xs i).f1):=by
  obtain⟨ad,c,e,_,hK,D⟩:=Kd.C_get h z124 i U X
  have hc:∀j u,c[j]? = some u→w.cell? (ad.add (i.toNat*2+j))=some u:=D
  obtain rfl:=k124_open hK
  exact⟨ad,e,hc 0 _ rfl,by rw[←add_field _ _ 1 (by omega)];exact hc 1 _ rfl⟩
structure S127 where
  f0:Int
  f1:ByteArray
  f2:ByteArray
  f3:Int
def z127:S127:=⟨(0:Int),(⟨#[]⟩:ByteArray),(⟨#[]⟩:ByteArray),(0:Int)⟩
def k127:Kd S127:=Kd.iso (Kd.pair (Kd.int .i64) (Kd.pair Kd.string (Kd.pair Kd.string (Kd.int .i64)))) (fun x:S127=>(x.f0,x.f1,x.f2,x.f3))
theorem k127_heap:Kd.Heap k127:=Kd.heap_iso _ (Kd.heap_pair (Kd.heap_int .i64) (Kd.heap_pair Kd.heap_string (Kd.heap_pair Kd.heap_string (Kd.heap_int .i64))))
theorem k127_open {w:World} {x:S127} {cs:List Value} (h:k127.K w x cs):cs = [.int .i64 x.f0,.string x.f1,.string x.f2,.int .i64 x.f3]:=by
  obtain⟨_,_,rfl,rfl,⟨_,_,rfl,rfl,⟨_,_,rfl,rfl,rfl⟩⟩⟩:=h
  exact rfl
theorem k127_openM {w:World} {base:Nat} {ok:Nat→Prop} {x:S127} {cs:List Value} (h:k127.M w base ok x cs):cs = [.int .i64 x.f0,.string x.f1,.string x.f2,.int .i64 x.f3]:=by
  obtain⟨_,_,rfl,rfl,⟨_,_,rfl,rfl,⟨_,_,rfl,rfl,rfl⟩⟩⟩:=h
  exact rfl
theorem k127_mk (w:World) (x:S127):k127.K w x [.int .i64 x.f0,.string x.f1,.string x.f2,.int .i64 x.f3]:=⟨[.int .i64 x.f0],[.string x.f1,.string x.f2,.int .i64 x.f3],rfl,rfl,⟨[.string x.f1],[.string x.f2,.int .i64 x.f3],rfl,rfl,⟨[.string x.f2],[.int .i64 x.f3],rfl,rfl,rfl⟩⟩⟩
theorem k127_mkM (w:World) (base:Nat) (ok:Nat→Prop) (x:S127):k127.M w base ok x [.int .i64 x.f0,.string x.f1,.string x.f2,.int .i64 x.f3]:=⟨[.int .i64 x.f0],[.string x.f1,.string x.f2,.int .i64 x.f3],rfl,rfl,⟨[.string x.f1],[.string x.f2,.int .i64 x.f3],rfl,rfl,⟨[.string x.f2],[.int .i64 x.f3],rfl,rfl,rfl⟩⟩⟩
theorem k127_mkF (W:World) (ok:Nat→Prop) (x:S127):Kd.FK k127 W ok x [.int .i64 x.f0,.string x.f1,.string x.f2,.int .i64 x.f3]:=fun J _=>k127_mk J x
def rd_T127 (xs:List S127) (i:Int):S127:=xs.getD i.toNat z127
theorem at_T127 {w:World} {A:Option Addr} {n:Nat} {xs:List S127} (h:Kd.C k127 w A n xs) (i:Int) (U:0≤i) (X:i<n):∃ad,A=some ad∧w.cell? (ad.add (i.toNat*4))=some (.int .i64 (rd_T127 xs i).f0)∧w.cell? ⟨(ad.add (i.toNat*4)).block,(ad.add (i.toNat*4)).off+1,none⟩=some (.string (rd_T127 xs i).f1)∧w.cell? ⟨(ad.add (i.toNat*4)).block,(ad.add (i.toNat*4)).off+2,none⟩=some (.string (rd_T127 xs i).f2)∧w.cell? ⟨(ad.add (i.toNat*4)).block,(ad.add (i.toNat*4)).off+3,none⟩=some (.int .i64 (rd_T127 xs i).f3):=by
  obtain⟨ad,c,e,_,hK,D⟩:=Kd.C_get h z127 i U X
  have hc:∀j u,c[j]? = some u→w.cell? (ad.add (i.toNat*4+j))=some u:=D
  obtain rfl:=k127_open hK
  exact⟨ad,e,hc 0 _ rfl,by rw[←add_field _ _ 1 (by omega)];exact hc 1 _ rfl,by rw[←add_field _ _ 2 (by omega)];exact hc 2 _ rfl,by rw[←add_field _ _ 3 (by omega)];exact hc 3 _ rfl⟩
structure S130 where
  f0:Int
  f1:ByteArray
  f2:Int
def z130:S130:=⟨(0:Int),(⟨#[]⟩:ByteArray),(0:Int)⟩
def k130:Kd S130:=Kd.iso (Kd.pair (Kd.int .i64) (Kd.pair Kd.string (Kd.int .i64))) (fun x:S130=>(x.f0,x.f1,x.f2))
theorem k130_heap:Kd.Heap k130:=Kd.heap_iso _ (Kd.heap_pair (Kd.heap_int .i64) (Kd.heap_pair Kd.heap_string (Kd.heap_int .i64)))
theorem k130_open {w:World} {x:S130} {cs:List Value} (h:k130.K w x cs):cs = [.int .i64 x.f0,.string x.f1,.int .i64 x.f2]:=by
  obtain⟨_,_,rfl,rfl,⟨_,_,rfl,rfl,rfl⟩⟩:=h
  exact rfl
theorem k130_openM {w:World} {base:Nat} {ok:Nat→Prop} {x:S130} {cs:List Value} (h:k130.M w base ok x cs):cs = [.int .i64 x.f0,.string x.f1,.int .i64 x.f2]:=by
  obtain⟨_,_,rfl,rfl,⟨_,_,rfl,rfl,rfl⟩⟩:=h
  exact rfl
theorem k130_mk (w:World) (x:S130):k130.K w x [.int .i64 x.f0,.string x.f1,.int .i64 x.f2]:=⟨[.int .i64 x.f0],[.string x.f1,.int .i64 x.f2],rfl,rfl,⟨[.string x.f1],[.int .i64 x.f2],rfl,rfl,rfl⟩⟩
theorem k130_mkM (w:World) (base:Nat) (ok:Nat→Prop) (x:S130):k130.M w base ok x [.int .i64 x.f0,.string x.f1,.int .i64 x.f2]:=⟨[.int .i64 x.f0],[.string x.f1,.int .i64 x.f2],rfl,rfl,⟨[.string x.f1],[.int .i64 x.f2],rfl,rfl,rfl⟩⟩
theorem k130_mkF (W:World) (ok:Nat→Prop) (x:S130):Kd.FK k130 W ok x [.int .i64 x.f0,.string x.f1,.int .i64 x.f2]:=fun J _=>k130_mk J x
def rd_T130 (xs:List S130) (i:Int):S130:=xs.getD i.toNat z130
theorem at_T130 {w:World} {A:Option Addr} {n:Nat} {xs:List S130} (h:Kd.C k130 w A n xs) (i:Int) (U:0≤i) (X:i<n):∃ad,A=some ad∧w.cell? (ad.add (i.toNat*3))=some (.int .i64 (rd_T130 xs i).f0)∧w.cell? ⟨(ad.add (i.toNat*3)).block,(ad.add (i.toNat*3)).off+1,none⟩=some (.string (rd_T130 xs i).f1)∧w.cell? ⟨(ad.add (i.toNat*3)).block,(ad.add (i.toNat*3)).off+2,none⟩=some (.int .i64 (rd_T130 xs i).f2):=by
  obtain⟨ad,c,e,_,hK,D⟩:=Kd.C_get h z130 i U X
  have hc:∀j u,c[j]? = some u→w.cell? (ad.add (i.toNat*3+j))=some u:=D
  obtain rfl:=k130_open hK
  exact⟨ad,e,hc 0 _ rfl,by rw[←add_field _ _ 1 (by omega)];exact hc 1 _ rfl,by rw[←add_field _ _ 2 (by omega)];exact hc 2 _ rfl⟩
structure S133 where
  f0:ByteArray
  f1:Int
def z133:S133:=⟨(⟨#[]⟩:ByteArray),(0:Int)⟩
def k133:Kd S133:=Kd.iso (Kd.pair Kd.string (Kd.int .i64)) (fun x:S133=>(x.f0,x.f1))
theorem k133_heap:Kd.Heap k133:=Kd.heap_iso _ (Kd.heap_pair Kd.heap_string (Kd.heap_int .i64))
theorem k133_open {w:World} {x:S133} {cs:List Value} (h:k133.K w x cs):cs = [.string x.f0,.int .i64 x.f1]:=by
  obtain⟨_,_,rfl,rfl,rfl⟩:=h
  exact rfl
theorem k133_openM {w:World} {base:Nat} {ok:Nat→Prop} {x:S133} {cs:List Value} (h:k133.M w base ok x cs):cs = [.string x.f0,.int .i64 x.f1]:=by
  obtain⟨_,_,rfl,rfl,rfl⟩:=h
  exact rfl
theorem k133_mk (w:World) (x:S133):k133.K w x [.string x.f0,.int .i64 x.f1]:=⟨[.string x.f0],[.int .i64 x.f1],rfl,rfl,rfl⟩
theorem k133_mkM (w:World) (base:Nat) (ok:Nat→Prop) (x:S133):k133.M w base ok x [.string x.f0,.int .i64 x.f1]:=⟨[.string x.f0],[.int .i64 x.f1],rfl,rfl,rfl⟩
theorem k133_mkF (W:World) (ok:Nat→Prop) (x:S133):Kd.FK k133 W ok x [.string x.f0,.int .i64 x.f1]:=fun J _=>k133_mk J x
def rd_T133 (xs:List S133) (i:Int):S133:=xs.getD i.toNat z133
theorem at_T133 {w:World} {A:Option Addr} {n:Nat} {xs:List S133} (h:Kd.C k133 w A n xs) (i:Int) (U:0≤i) (X:i<n):∃ad,A=some ad∧w.cell? (ad.add (i.toNat*2))=some (.string (rd_T133 xs i).f0)∧w.cell? ⟨(ad.add (i.toNat*2)).block,(ad.add (i.toNat*2)).off+1,none⟩=some (.int .i64 (rd_T133 xs i).f1):=by
  obtain⟨ad,c,e,_,hK,D⟩:=Kd.C_get h z133 i U X
  have hc:∀j u,c[j]? = some u→w.cell? (ad.add (i.toNat*2+j))=some u:=D
  obtain rfl:=k133_open hK
  exact⟨ad,e,hc 0 _ rfl,by rw[←add_field _ _ 1 (by omega)];exact hc 1 _ rfl⟩
structure S135 where
  f0:Int
  f1:ByteArray
  f2:ByteArray
  f3:Int
def z135:S135:=⟨(0:Int),(⟨#[]⟩:ByteArray),(⟨#[]⟩:ByteArray),(0:Int)⟩
def k135:Kd S135:=Kd.iso (Kd.pair (Kd.int .i64) (Kd.pair Kd.string (Kd.pair Kd.string (Kd.int .i64)))) (fun x:S135=>(x.f0,x.f1,x.f2,x.f3))
theorem k135_heap:Kd.Heap k135:=Kd.heap_iso _ (Kd.heap_pair (Kd.heap_int .i64) (Kd.heap_pair Kd.heap_string (Kd.heap_pair Kd.heap_string (Kd.heap_int .i64))))
theorem k135_open {w:World} {x:S135} {cs:List Value} (h:k135.K w x cs):cs = [.int .i64 x.f0,.string x.f1,.string x.f2,.int .i64 x.f3]:=by
  obtain⟨_,_,rfl,rfl,⟨_,_,rfl,rfl,⟨_,_,rfl,rfl,rfl⟩⟩⟩:=h
  exact rfl
theorem k135_openM {w:World} {base:Nat} {ok:Nat→Prop} {x:S135} {cs:List Value} (h:k135.M w base ok x cs):cs = [.int .i64 x.f0,.string x.f1,.string x.f2,.int .i64 x.f3]:=by
  obtain⟨_,_,rfl,rfl,⟨_,_,rfl,rfl,⟨_,_,rfl,rfl,rfl⟩⟩⟩:=h
  exact rfl
theorem k135_mk (w:World) (x:S135):k135.K w x [.int .i64 x.f0,.string x.f1,.string x.f2,.int .i64 x.f3]:=⟨[.int .i64 x.f0],[.string x.f1,.string x.f2,.int .i64 x.f3],rfl,rfl,⟨[.string x.f1],[.string x.f2,.int .i64 x.f3],rfl,rfl,⟨[.string x.f2],[.int .i64 x.f3],rfl,rfl,rfl⟩⟩⟩
theorem k135_mkM (w:World) (base:Nat) (ok:Nat→Prop) (x:S135):k135.M w base ok x [.int .i64 x.f0,.string x.f1,.string x.f2,.int .i64 x.f3]:=⟨[.int .i64 x.f0],[.string x.f1,.string x.f2,.int .i64 x.f3],rfl,rfl,⟨[.string x.f1],[.string x.f2,.int .i64 x.f3],rfl,rfl,⟨[.string x.f2],[.int .i64 x.f3],rfl,rfl,rfl⟩⟩⟩
theorem k135_mkF (W:World) (ok:Nat→Prop) (x:S135):Kd.FK k135 W ok x [.int .i64 x.f0,.string x.f1,.string x.f2,.int .i64 x.f3]:=fun J _=>k135_mk J x
def rd_T135 (xs:List S135) (i:Int):S135:=xs.getD i.toNat z135
theorem at_T135 {w:World} {A:Option Addr} {n:Nat} {xs:List S135} (h:Kd.C k135 w A n xs) (i:Int) (U:0≤i) (X:i<n):∃ad,A=some ad∧w.cell? (ad.add (i.toNat*4))=some (.int .i64 (rd_T135 xs i).f0)∧w.cell? ⟨(ad.add (i.toNat*4)).block,(ad.add (i.toNat*4)).off+1,none⟩=some (.string (rd_T135 xs i).f1)∧w.cell? ⟨(ad.add (i.toNat*4)).block,(ad.add (i.toNat*4)).off+2,none⟩=some (.string (rd_T135 xs i).f2)∧w.cell? ⟨(ad.add (i.toNat*4)).block,(ad.add (i.toNat*4)).off+3,none⟩=some (.int .i64 (rd_T135 xs i).f3):=by
  obtain⟨ad,c,e,_,hK,D⟩:=Kd.C_get h z135 i U X
  have hc:∀j u,c[j]? = some u→w.cell? (ad.add (i.toNat*4+j))=some u:=D
  obtain rfl:=k135_open hK
  exact⟨ad,e,hc 0 _ rfl,by rw[←add_field _ _ 1 (by omega)];exact hc 1 _ rfl,by rw[←add_field _ _ 2 (by omega)];exact hc 2 _ rfl,by rw[←add_field _ _ 3 (by omega)];exact hc 3 _ rfl⟩
end Go.Proofs.YtndbmllnkjngnaaGreat.PDs
