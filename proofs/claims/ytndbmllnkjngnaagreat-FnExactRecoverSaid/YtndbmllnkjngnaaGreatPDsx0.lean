/- Functions of the program, each with its contract, written by a program out of the translation. -/
import Derived.Test.YtndbmllnkjngnaaGreatProg
import Derived.Below
import Derived.Deep.Draws
import Derived.Deep.AppendLies
import Derived.Maps.AppendAt
import Derived.OwnWalk
import Derived.Laws.BytesArg
import Derived.Laws.MakeOwn
import Derived.Laws.OwnMore
import Derived.Deep.OwnRows
import Derived.Tactics
import Derived.Lib.ConvBytes
import Derived.Laws.Slices
import Derived.WalkKit
import Derived.KernelRfl
import Derived.RowKit3
import Derived.Deep.LoopGhost
import Derived.Deep.QuietTactic
import Derived.BigQuiet
import Derived.WideLaws
import Derived.Deep.DeepCutAuto
import Derived.Deep.CutBlock
import Derived.Deep.RegionHeld3
import Derived.Laws.Rows
import Derived.Lib.AppendStr
import Derived.ArgAppend
import Derived.Laws.IdiomCopy
import Derived.OrdersHeld
import Derived.Laws.BitsLemmas
import Derived.RowKit
import Derived.Lib.SliceRun
import Derived.Laws.Cover1
import Derived.Test.YtndbmllnkjngnaaGreatWWords
import Derived.Test.YtndbmllnkjngnaaGreatZip
namespace Go.Proofs.YtndbmllnkjngnaaGreat.PDs
open Go.RowKit Go.Proofs.YtndbmllnkjngnaaGreatW.PrintWords Go.Proofs.YtndbmllnkjngnaaGreatW.PrintLast Go.Proofs.YtndbmllnkjngnaaGreatW.PrintMore
attribute [local go_sem] max2_int min2_int max_two min_two max_three min_three max_four min_four
set_option linter.unusedVariables false
set_option linter.unusedSimpArgs false
def errW:Option Int→Value
  |none=>.nilIface
  |some c=>.iface 0 (.int .i64 c)
theorem errW_none:errW none = .nilIface:=rfl
theorem errW_some (c:Int):errW (some c) = .iface 0 (.int .i64 c):=rfl
theorem info3:(Tryz.prog.info? 3).map (fun i=>(i.zero,i.size,i.bytes))=some (some (.int .i64 0),1,8):=by kernel_rfl
theorem info5:(Tryz.prog.info? 5).map (fun i=>(i.zero,i.size,i.bytes))=some (some (.int .u8 0),1,1):=by kernel_rfl
theorem info130:(Tryz.prog.info? 130).map (fun i=>(i.zero,i.size,i.bytes))=some (some (.agg #[(.int .i64 0),(.string ⟨#[]⟩),(.int .i64 0)]),3,32):=by kernel_rfl
theorem info133:(Tryz.prog.info? 133).map (fun i=>(i.zero,i.size,i.bytes))=some (some (.agg #[(.string ⟨#[]⟩),(.int .i64 0)]),2,24):=by kernel_rfl
theorem info135:(Tryz.prog.info? 135).map (fun i=>(i.zero,i.size,i.bytes))=some (some (.agg #[(.int .i64 0),(.string ⟨#[]⟩),(.string ⟨#[]⟩),(.int .i64 0)]),4,48):=by kernel_rfl
structure S121 where
  f0:Int
  f1:ByteArray
  f2:Int
def z121:S121:=⟨(0:Int),(⟨#[]⟩:ByteArray),(0:Int)⟩
def k121:Kd S121:=Kd.iso (Kd.pair (Kd.int .i64) (Kd.pair Kd.string (Kd.int .i64))) (fun x:S121=>(x.f0,x.f1,x.f2))
theorem k121_open {w:World} {x:S121} {cs:List Value} (h:k121.K w x cs):cs = [.int .i64 x.f0,.string x.f1,.int .i64 x.f2]:=by
  obtain⟨_,_,rfl,rfl,⟨_,_,rfl,rfl,rfl⟩⟩:=h
  exact rfl
theorem k121_mk (w:World) (x:S121):k121.K w x [.int .i64 x.f0,.string x.f1,.int .i64 x.f2]:=⟨[.int .i64 x.f0],[.string x.f1,.int .i64 x.f2],rfl,rfl,⟨[.string x.f1],[.int .i64 x.f2],rfl,rfl,rfl⟩⟩
def rd_T121 (xs:List S121) (i:Int):S121:=xs.getD i.toNat z121
theorem at_T121 {w:World} {A:Option Addr} {n:Nat} {xs:List S121} (h:Kd.C k121 w A n xs) (i:Int) (U:0≤i) (X:i<n):∃ad,A=some ad∧w.cell? (ad.add (i.toNat*3))=some (.int .i64 (rd_T121 xs i).f0)∧w.cell? ⟨(ad.add (i.toNat*3)).block,(ad.add (i.toNat*3)).off+1,none⟩=some (.string (rd_T121 xs i).f1)∧w.cell? ⟨(ad.add (i.toNat*3)).block,(ad.add (i.toNat*3)).off+2,none⟩=some (.int .i64 (rd_T121 xs i).f2):=by
  obtain⟨ad,c,e,_,hK,D⟩:=Kd.C_get h z121 i U X
  have hc:∀j u,c[j]? = some u→w.cell? (ad.add (i.toNat*3+j))=some u:=D
  obtain rfl:=k121_open hK
  exact⟨ad,e,hc 0 _ rfl,by rw[←add_field _ _ 1 (by omega)];exact hc 1 _ rfl,by rw[←add_field _ _ 2 (by omega)];exact hc 2 _ rfl⟩
structure S124 where
  f0:ByteArray
  f1:Int
def z124:S124:=⟨(⟨#[]⟩:ByteArray),(0:Int)⟩
def k124:Kd S124:=Kd.iso (Kd.pair Kd.string (Kd.int .i64)) (fun x:S124=>(x.f0,x.f1))
theorem k124_open {w:World} {x:S124} {cs:List Value} (h:k124.K w x cs):cs = [.string x.f0,.int .i64 x.f1]:=by
  obtain⟨_,_,rfl,rfl,rfl⟩:=h
  exact rfl
theorem k124_mk (w:World) (x:S124):k124.K w x [.string x.f0,.int .i64 x.f1]:=⟨[.string x.f0],[.int .i64 x.f1],rfl,rfl,rfl⟩
def rd_T124 (xs:List S124) (i:Int):S124:=xs.getD i.toNat z124
theorem at_T124 {w:World} {A:Option Addr} {n:Nat} {xs:List S124} (h:Kd.C k124 w A n xs) (i:Int) (U:0≤i) (X:i<n):∃ad,A=some ad∧w.cell? (ad.add (i.toNat*2))=some (.string (rd_T124 xs i).f0)∧w.cell? ⟨(ad.add (i.toNat*2)).block,(ad.add (i.toNat*2)).off+1,none⟩=some (.int .i64 (rd_T124 xs i).f1):=by
  obtain⟨ad,c,e,_,hK,D⟩:=Kd.C_get h z124 i U X
  have hc:∀j u,c[j]? = some u→w.cell? (ad.add (i.toNat*2+j))=some u:=D
  obtain rfl:=k124_open hK
  exact⟨ad,e,hc 0 _ rfl,by rw[←add_field _ _ 1 (by omega)];exact hc 1 _ rfl⟩
structure S127 where
  f0:Int
  f1:ByteArray
  f2:ByteArray
  f3:Int
def z127:S127:=⟨(0:Int),(⟨#[]⟩:ByteArray),(⟨#[]⟩:ByteArray),(0:Int)⟩
def k127:Kd S127:=Kd.iso (Kd.pair (Kd.int .i64) (Kd.pair Kd.string (Kd.pair Kd.string (Kd.int .i64)))) (fun x:S127=>(x.f0,x.f1,x.f2,x.f3))
theorem k127_open {w:World} {x:S127} {cs:List Value} (h:k127.K w x cs):cs = [.int .i64 x.f0,.string x.f1,.string x.f2,.int .i64 x.f3]:=by
  obtain⟨_,_,rfl,rfl,⟨_,_,rfl,rfl,⟨_,_,rfl,rfl,rfl⟩⟩⟩:=h
  exact rfl
theorem k127_mk (w:World) (x:S127):k127.K w x [.int .i64 x.f0,.string x.f1,.string x.f2,.int .i64 x.f3]:=⟨[.int .i64 x.f0],[.string x.f1,.string x.f2,.int .i64 x.f3],rfl,rfl,⟨[.string x.f1],[.string x.f2,.int .i64 x.f3],rfl,rfl,⟨[.string x.f2],[.int .i64 x.f3],rfl,rfl,rfl⟩⟩⟩
def rd_T127 (xs:List S127) (i:Int):S127:=xs.getD i.toNat z127
theorem at_T127 {w:World} {A:Option Addr} {n:Nat} {xs:List S127} (h:Kd.C k127 w A n xs) (i:Int) (U:0≤i) (X:i<n):∃ad,A=some ad∧w.cell? (ad.add (i.toNat*4))=some (.int .i64 (rd_T127 xs i).f0)∧w.cell? ⟨(ad.add (i.toNat*4)).block,(ad.add (i.toNat*4)).off+1,none⟩=some (.string (rd_T127 xs i).f1)∧w.cell? ⟨(ad.add (i.toNat*4)).block,(ad.add (i.toNat*4)).off+2,none⟩=some (.string (rd_T127 xs i).f2)∧w.cell? ⟨(ad.add (i.toNat*4)).block,(ad.add (i.toNat*4)).off+3,none⟩=some (.int .i64 (rd_T127 xs i).f3):=by
  obtain⟨ad,c,e,_,hK,D⟩:=Kd.C_get h z127 i U X
  have hc:∀j u,c[j]? = some u→w.cell? (ad.add (i.toNat*4+j))=some u:=D
  obtain rfl:=k127_open hK
  exact⟨ad,e,hc 0 _ rfl,by rw[←add_field _ _ 1 (by omega)];exact hc 1 _ rfl,by rw[←add_field _ _ 2 (by omega)];exact hc 2 _ rfl,by rw[←add_field _ _ 3 (by omega)];exact hc 3 _ rfl⟩
structure S130 where
  f0:Int
  f1:ByteArray
  f2:Int
def z130:S130:=⟨(0:Int),(⟨#[]⟩:ByteArray),(0:Int)⟩
def k130:Kd S130:=Kd.iso (Kd.pair (Kd.int .i64) (Kd.pair Kd.string (Kd.int .i64))) (fun x:S130=>(x.f0,x.f1,x.f2))
theorem k130_open {w:World} {x:S130} {cs:List Value} (h:k130.K w x cs):cs = [.int .i64 x.f0,.string x.f1,.int .i64 x.f2]:=by
  obtain⟨_,_,rfl,rfl,⟨_,_,rfl,rfl,rfl⟩⟩:=h
  exact rfl
theorem k130_openM {w:World} {base:Nat} {ok:Nat→Prop} {x:S130} {cs:List Value} (h:k130.M w base ok x cs):cs = [.int .i64 x.f0,.string x.f1,.int .i64 x.f2]:=by
  obtain⟨_,_,rfl,rfl,⟨_,_,rfl,rfl,rfl⟩⟩:=h
  exact rfl
theorem k130_mkM (w:World) (base:Nat) (ok:Nat→Prop) (x:S130):k130.M w base ok x [.int .i64 x.f0,.string x.f1,.int .i64 x.f2]:=⟨[.int .i64 x.f0],[.string x.f1,.int .i64 x.f2],rfl,rfl,⟨[.string x.f1],[.int .i64 x.f2],rfl,rfl,rfl⟩⟩
def rd_T130 (xs:List S130) (i:Int):S130:=xs.getD i.toNat z130
theorem at_T130 {w:World} {A:Option Addr} {n:Nat} {xs:List S130} (h:Kd.C k130 w A n xs) (i:Int) (U:0≤i) (X:i<n):∃ad,A=some ad∧w.cell? (ad.add (i.toNat*3))=some (.int .i64 (rd_T130 xs i).f0)∧w.cell? ⟨(ad.add (i.toNat*3)).block,(ad.add (i.toNat*3)).off+1,none⟩=some (.string (rd_T130 xs i).f1)∧w.cell? ⟨(ad.add (i.toNat*3)).block,(ad.add (i.toNat*3)).off+2,none⟩=some (.int .i64 (rd_T130 xs i).f2):=by
  obtain⟨ad,c,e,_,hK,D⟩:=Kd.C_get h z130 i U X
  have hc:∀j u,c[j]? = some u→w.cell? (ad.add (i.toNat*3+j))=some u:=D
  obtain rfl:=k130_open hK
  exact⟨ad,e,hc 0 _ rfl,by rw[←add_field _ _ 1 (by omega)];exact hc 1 _ rfl,by rw[←add_field _ _ 2 (by omega)];exact hc 2 _ rfl⟩
structure S133 where
  f0:ByteArray
  f1:Int
def z133:S133:=⟨(⟨#[]⟩:ByteArray),(0:Int)⟩
def k133:Kd S133:=Kd.iso (Kd.pair Kd.string (Kd.int .i64)) (fun x:S133=>(x.f0,x.f1))
theorem k133_heap:Kd.Heap k133:=Kd.heap_iso _ (Kd.heap_pair Kd.heap_string (Kd.heap_int .i64))
theorem k133_open {w:World} {x:S133} {cs:List Value} (h:k133.K w x cs):cs = [.string x.f0,.int .i64 x.f1]:=by
  obtain⟨_,_,rfl,rfl,rfl⟩:=h
  exact rfl
theorem k133_openM {w:World} {base:Nat} {ok:Nat→Prop} {x:S133} {cs:List Value} (h:k133.M w base ok x cs):cs = [.string x.f0,.int .i64 x.f1]:=by
  obtain⟨_,_,rfl,rfl,rfl⟩:=h
  exact rfl
theorem k133_mk (w:World) (x:S133):k133.K w x [.string x.f0,.int .i64 x.f1]:=⟨[.string x.f0],[.int .i64 x.f1],rfl,rfl,rfl⟩
theorem k133_mkM (w:World) (base:Nat) (ok:Nat→Prop) (x:S133):k133.M w base ok x [.string x.f0,.int .i64 x.f1]:=⟨[.string x.f0],[.int .i64 x.f1],rfl,rfl,rfl⟩
def rd_T133 (xs:List S133) (i:Int):S133:=xs.getD i.toNat z133
theorem at_T133 {w:World} {A:Option Addr} {n:Nat} {xs:List S133} (h:Kd.C k133 w A n xs) (i:Int) (U:0≤i) (X:i<n):∃ad,A=some ad∧w.cell? (ad.add (i.toNat*2))=some (.string (rd_T133 xs i).f0)∧w.cell? ⟨(ad.add (i.toNat*2)).block,(ad.add (i.toNat*2)).off+1,none⟩=some (.int .i64 (rd_T133 xs i).f1):=by
  obtain⟨ad,c,e,_,hK,D⟩:=Kd.C_get h z133 i U X
  have hc:∀j u,c[j]? = some u→w.cell? (ad.add (i.toNat*2+j))=some u:=D
  obtain rfl:=k133_open hK
  exact⟨ad,e,hc 0 _ rfl,by rw[←add_field _ _ 1 (by omega)];exact hc 1 _ rfl⟩
structure S135 where
  f0:Int
  f1:ByteArray
  f2:ByteArray
  f3:Int
def z135:S135:=⟨(0:Int),(⟨#[]⟩:ByteArray),(⟨#[]⟩:ByteArray),(0:Int)⟩
def k135:Kd S135:=Kd.iso (Kd.pair (Kd.int .i64) (Kd.pair Kd.string (Kd.pair Kd.string (Kd.int .i64)))) (fun x:S135=>(x.f0,x.f1,x.f2,x.f3))
theorem k135_open {w:World} {x:S135} {cs:List Value} (h:k135.K w x cs):cs = [.int .i64 x.f0,.string x.f1,.string x.f2,.int .i64 x.f3]:=by
  obtain⟨_,_,rfl,rfl,⟨_,_,rfl,rfl,⟨_,_,rfl,rfl,rfl⟩⟩⟩:=h
  exact rfl
theorem k135_openM {w:World} {base:Nat} {ok:Nat→Prop} {x:S135} {cs:List Value} (h:k135.M w base ok x cs):cs = [.int .i64 x.f0,.string x.f1,.string x.f2,.int .i64 x.f3]:=by
  obtain⟨_,_,rfl,rfl,⟨_,_,rfl,rfl,⟨_,_,rfl,rfl,rfl⟩⟩⟩:=h
  exact rfl
theorem k135_mkM (w:World) (base:Nat) (ok:Nat→Prop) (x:S135):k135.M w base ok x [.int .i64 x.f0,.string x.f1,.string x.f2,.int .i64 x.f3]:=⟨[.int .i64 x.f0],[.string x.f1,.string x.f2,.int .i64 x.f3],rfl,rfl,⟨[.string x.f1],[.string x.f2,.int .i64 x.f3],rfl,rfl,⟨[.string x.f2],[.int .i64 x.f3],rfl,rfl,rfl⟩⟩⟩
def rd_T135 (xs:List S135) (i:Int):S135:=xs.getD i.toNat z135
theorem at_T135 {w:World} {A:Option Addr} {n:Nat} {xs:List S135} (h:Kd.C k135 w A n xs) (i:Int) (U:0≤i) (X:i<n):∃ad,A=some ad∧w.cell? (ad.add (i.toNat*4))=some (.int .i64 (rd_T135 xs i).f0)∧w.cell? ⟨(ad.add (i.toNat*4)).block,(ad.add (i.toNat*4)).off+1,none⟩=some (.string (rd_T135 xs i).f1)∧w.cell? ⟨(ad.add (i.toNat*4)).block,(ad.add (i.toNat*4)).off+2,none⟩=some (.string (rd_T135 xs i).f2)∧w.cell? ⟨(ad.add (i.toNat*4)).block,(ad.add (i.toNat*4)).off+3,none⟩=some (.int .i64 (rd_T135 xs i).f3):=by
  obtain⟨ad,c,e,_,hK,D⟩:=Kd.C_get h z135 i U X
  have hc:∀j u,c[j]? = some u→w.cell? (ad.add (i.toNat*4+j))=some u:=D
  obtain rfl:=k135_open hK
  exact⟨ad,e,hc 0 _ rfl,by rw[←add_field _ _ 1 (by omega)];exact hc 1 _ rfl,by rw[←add_field _ _ 2 (by omega)];exact hc 2 _ rfl,by rw[←add_field _ _ 3 (by omega)];exact hc 3 _ rfl⟩
theorem info115:(Tryz.prog.info? 115).map (fun i=>(i.zero,i.size,i.bytes))=some (some (.agg #[(.int .i64 0),(.string ⟨#[]⟩)]),2,24):=by kernel_rfl
structure S115 where
  f0:Int
  f1:ByteArray
def z115:S115:=⟨(0:Int),(⟨#[]⟩:ByteArray)⟩
def k115:Kd S115:=Kd.iso (Kd.pair (Kd.int .i64) Kd.string) (fun x:S115=>(x.f0,x.f1))
theorem k115_open {w:World} {x:S115} {cs:List Value} (h:k115.K w x cs):cs = [.int .i64 x.f0,.string x.f1]:=by
  obtain⟨_,_,rfl,rfl,rfl⟩:=h
  exact rfl
theorem k115_openM {w:World} {base:Nat} {ok:Nat→Prop} {x:S115} {cs:List Value} (h:k115.M w base ok x cs):cs = [.int .i64 x.f0,.string x.f1]:=by
  obtain⟨_,_,rfl,rfl,rfl⟩:=h
  exact rfl
theorem k115_mkM (w:World) (base:Nat) (ok:Nat→Prop) (x:S115):k115.M w base ok x [.int .i64 x.f0,.string x.f1]:=⟨[.int .i64 x.f0],[.string x.f1],rfl,rfl,rfl⟩
def rd_T115 (xs:List S115) (i:Int):S115:=xs.getD i.toNat z115
theorem at_T115 {w:World} {A:Option Addr} {n:Nat} {xs:List S115} (h:Kd.C k115 w A n xs) (i:Int) (U:0≤i) (X:i<n):∃ad,A=some ad∧w.cell? (ad.add (i.toNat*2))=some (.int .i64 (rd_T115 xs i).f0)∧w.cell? ⟨(ad.add (i.toNat*2)).block,(ad.add (i.toNat*2)).off+1,none⟩=some (.string (rd_T115 xs i).f1):=by
  obtain⟨ad,c,e,_,hK,D⟩:=Kd.C_get h z115 i U X
  have hc:∀j u,c[j]? = some u→w.cell? (ad.add (i.toNat*2+j))=some u:=D
  obtain rfl:=k115_open hK
  exact⟨ad,e,hc 0 _ rfl,by rw[←add_field _ _ 1 (by omega)];exact hc 1 _ rfl⟩
theorem info9:(Tryz.prog.info? 9).map (fun i=>(i.zero,i.size,i.bytes))=some (some (.string ⟨#[]⟩),1,16):=by kernel_rfl
def IsS204 (D W:World) (g:Nat) (f0:ByteArray) (f1:Bool):Prop:=W.heap[g]? = some (.cells #[.string f0,.bool f1] 204 (0,0))∧D.heap.size≤g
theorem IsS204.grown {D W:World} {g:Nat} {f0:ByteArray} {f1:Bool} {J:World} {row:Option Nat} (h:IsS204 D W g f0 f1) (hw:W.grownBy J row) (hne:some g≠row):IsS204 D J g f0 f1:=by
  obtain⟨hb,hg⟩:=h
  exact⟨blk_grown hb hw hne,hg⟩
theorem IsS204.below {D W:World} {g:Nat} {f0:ByteArray} {f1:Bool} {J:World} (h:IsS204 D W g f0 f1) (hw:Below W.heap.size W J):IsS204 D J g f0 f1:=h.grown (grown_of_below hw none) (by simp)
theorem IsS204.alloc {D W:World} {g:Nat} {f0:ByteArray} {f1:Bool} (h:IsS204 D W g f0 f1) (o:Obj):IsS204 D (W.alloc o) g f0 f1:=h.below (below_alloc (Below.refl _ _) o)
theorem IsS204.drewN {D W:World} {g:Nat} {f0:ByteArray} {f1:Bool} (h:IsS204 D W g f0 f1) (m:Nat):IsS204 D (W.drewN m) g f0 f1:=h
theorem IsS204.drew {D W:World} {g:Nat} {f0:ByteArray} {f1:Bool} (h:IsS204 D W g f0 f1):IsS204 D W.drew g f0 f1:=h
theorem IsS204.ge {D W:World} {g:Nat} {f0:ByteArray} {f1:Bool} (h:IsS204 D W g f0 f1):D.heap.size≤g:=by
  obtain⟨hb,hg⟩:=h
  exact hg
theorem IsS204.far {D W:World} {g:Nat} {f0:ByteArray} {f1:Bool} {p:Addr} (h:IsS204 D W g f0 f1) (hne:g≠p.block) (u:Value):IsS204 D (W.setCell p u) g f0 f1:=by
  obtain⟨hb,hg⟩:=h
  exact⟨blk_far hb hne u,hg⟩
theorem cellS204_0 {W:World} {g:Nat} {f0:ByteArray} {f1:Bool} (h:W.heap[g]? = some (.cells #[.string f0,.bool f1] 204 (0,0))):W.cell? ⟨g,0,none⟩=some (.string f0):=(blk_cell h 0).trans rfl
theorem IsS204.set_0 {D W:World} {g:Nat} {f0:ByteArray} {f1:Bool} (h:IsS204 D W g f0 f1) (x:ByteArray):IsS204 D (W.setCell ⟨g,0,none⟩ (.string x)) g x f1:=by
  obtain⟨hb,hg⟩:=h
  exact⟨by simpa using blk_set hb 0 (.string x),hg⟩
theorem cellS204_1 {W:World} {g:Nat} {f0:ByteArray} {f1:Bool} (h:W.heap[g]? = some (.cells #[.string f0,.bool f1] 204 (0,0))):W.cell? ⟨g,1,none⟩=some (.bool f1):=(blk_cell h 1).trans rfl
theorem IsS204.set_1 {D W:World} {g:Nat} {f0:ByteArray} {f1:Bool} (h:IsS204 D W g f0 f1) (x:Bool):IsS204 D (W.setCell ⟨g,1,none⟩ (.bool x)) g f0 x:=by
  obtain⟨hb,hg⟩:=h
  exact⟨by simpa using blk_set hb 1 (.bool x),hg⟩
end Go.Proofs.YtndbmllnkjngnaaGreat.PDs
namespace Go.Proofs.YtndbmllnkjngnaaGreat.PDs
open Go.RowKit Go.Proofs.YtndbmllnkjngnaaGreatW.PrintWords Go.Proofs.YtndbmllnkjngnaaGreatW.PrintLast Go.Proofs.YtndbmllnkjngnaaGreatW.PrintMore Go.Proofs.YtndbmllnkjngnaaGreat.Zip
attribute [local go_sem] max2_int min2_int max_two min_two max_three min_three max_four min_four
set_option linter.unusedVariables false
set_option linter.unusedSimpArgs false
set_option maxHeartbeats 8000000
set_option maxRecDepth 100000
def laws_szInode.f (U:Int) (J:ByteArray) (Y:Int) (X:Int):Option (Int):=if(wrap64 (X-(J.size:Int)))<0 then(some (-1))else(some (wrap64 (X-(J.size:Int))))
theorem laws_szInode.z1 {p:Prop} (h:p:=by
 go_enter Tryz.func96,Tryz.ntmps96
 go_wp2_with (first|((with_reducible refine gd 2 ?_);refine boxQ HB ?_;clear HB;intro Bc hg AL AT Bd HB hb;clear hb hg;have:=cf3 AT))
 go_ret
 exact⟨fe,bl⟩):p:=h
theorem laws_szInode.calls (U:Int) (J:ByteArray) (Y:Int) (X:Int) (r:Int) (w:World) (h:laws_szInode.f U J Y X=some r) :
 Calls Tryz.prog 96 #[.agg #[.int .i64 U,.string J,.int .i64 Y],.int .i64 X] w fun e w'=>e = .returned (.int .i64 r)∧Below w.heap.size w w':=by
 have AU:=Tryz.underlying121;have HB:=aK (Below.refl w.heap.size w);have H:=h;unfold laws_szInode.f at H;clear h;by_cases c3:(wrap64 (X-(J.size:Int)))<0
 ·rw[if_pos c3]at H;have A1:=dt c3;clear c3;obtain rfl:=oj H
  exact laws_szInode.z1
 ·rw[if_neg c3]at H;have A1:=df c3;clear c3;obtain rfl:=oj H
  exact laws_szInode.z1
def laws_szInodeS.l0:Nat→List (S121)→Int→Int→Option (Int)
 | 0,_,_,_=>none
 |k+1,x0,x1,x5=>if x5<(x0.length:Int)then(if 0≤x5 then((laws_szInode.f ((rd_T121 x0 x5).f0) ((rd_T121 x0 x5).f1) ((rd_T121 x0 x5).f2) x1).bind fun Ac=>(if Ac<0 then(some (-1))else(laws_szInodeS.l0 k x0 Ac (wrap64 (x5+1)))))else(none))else(some x1)
def laws_szInodeS.f (k:Nat) (l0:List (S121)) (X:Int):Option (Int):=if(wrap64 (X-(l0.length:Int)))<0 then(some (-1))else(laws_szInodeS.l0 k l0 (wrap64 (X-(l0.length:Int))) 0)
theorem laws_szInodeS.z1 {p:Prop} (h:p:=by
 go_wp2_with (first|((with_reducible refine gc 96 ?_);refine goesW Tryz.func96 ?_;(with_reducible refine mo (laws_szInode.calls ((rd_T121 l0 D).f0) ((rd_T121 l0 D).f1) ((rd_T121 l0 D).f2) Z Ac _ A6.o) ?_);intro B7 hb;replace HB:=bS HB hb))
 (first|(have _:=Av;go_ret;exact⟨fe,bl⟩)|(have _:=Aw;(go_roundg k1);(case measure=>have:=Ah.o;omega);(case rel=>exact⟨(Ac),(wrap64 (D+1)),fa,fa,H',⟨by have:=Ah.o;omega⟩,⟨bl⟩⟩)))):p:=h
theorem laws_szInodeS.calls (k:Nat) (A0:Option Addr) (c0:Nat) (l0:List (S121)) (X:Int) (r:Int) (w:World) (Ai:Kd.C k121 w A0 l0.length l0) (Aj:l0.length≤c0) (h:laws_szInodeS.f k l0 X=some r) :
 Calls Tryz.prog 39 #[.slice A0 l0.length c0,.int .i64 X] w fun e w'=>e = .returned (.int .i64 r)∧Below w.heap.size w w':=by
 have AU:=Tryz.underlying121;have Ax:=aK Ai;have B8:=aK Aj;clear Ai Aj;have HB:=aK (Below.refl w.heap.size w);have H:=h;unfold laws_szInodeS.f at H;clear h;by_cases c3:(wrap64 (X-(l0.length:Int)))<0
 ·rw[if_pos c3]at H;have A1:=dt c3;clear c3;obtain rfl:=oj H
  go_enter Tryz.func39,Tryz.ntmps39
  go_wp2
  go_ret
  exact⟨fe,bl⟩
 ·rw[if_neg c3]at H;have A1:=df c3;clear c3;have H':=aK H;clear H
  go_enter Tryz.func39,Tryz.ntmps39
  go_wp2
  go_loopg [1,5] k (fun kq v1 v5 w'=>∃(Z:Int) (D:Int),v1 = .int .i64 Z∧v5 = .int .i64 D∧Aside0 (laws_szInodeS.l0 kq l0 Z D=some r)∧Aside0 (kq≤k)∧Aside0 (Below w.heap.size w w'))
  case atStart=>exact⟨(wrap64 (X-(l0.length:Int))),(0),fa,fa,H',⟨Nat.le_refl _⟩,⟨bl⟩⟩
  case round=>
   clear H';obtain⟨Z,D,rfl,rfl,HA,Ah,HB⟩:=hrel;cases gk with
   |zero=>exact absurd HA.o (by simp[laws_szInodeS.l0])
   |succ k1=>
    have H:=HA.o;clear HA;simp only[laws_szInodeS.l0]at H;by_cases c4:D<(l0.length:Int)
    ·rw[if_pos c4]at H;have Ab:=dt c4;clear c4;by_cases c5:0≤D
     ·rw[if_pos c5]at H;have AM:=dt c5;clear c5;obtain⟨Ac,A6,H⟩:=bd H;have Hq_:=aK H;clear H;have Ay:0≤(D:Int):=dT am;have Az:D<(l0.length:Int):=dT am;obtain⟨Be,B9,Ak,Al,Am⟩:=at_T121 Ax.o D Ay Az;cases B9;replace Ak:=cz HB Ak;replace Al:=cz HB Al;replace Am:=cz HB Am;replace Ay:=eq_true Ay;replace Az:=eq_true Az;have H:=Hq_.o;clear Hq_;by_cases c7:Ac<0
      ·rw[if_pos c7]at H;have A4:=dt c7;(try rw[A4]);clear c7;obtain rfl:=oj H;have Av:=trivial;exact laws_szInodeS.z1
      ·rw[if_neg c7]at H;have A4:=df c7;(try rw[A4]);clear c7;have H':=aK H;clear H;have Aw:=trivial;exact laws_szInodeS.z1
     ·exact no c5 H
    ·rw[if_neg c4]at H;have Ab:=df c4;clear c4;obtain rfl:=oj H;go_wp2
     go_ret
     exact⟨fe,bl⟩
def laws_szLink.f (U:ByteArray) (J:Int) (X:Int):Option (Int):=if(wrap64 (X-(U.size:Int)))<0 then(some (-1))else(some (wrap64 (X-(U.size:Int))))
theorem laws_szLink.z1 {p:Prop} (h:p:=by
 go_enter Tryz.func97,Tryz.ntmps97
 go_wp2_with (first|((with_reducible refine gd 2 ?_);refine boxQ HB ?_;clear HB;intro Bf hg AL AV Bg HB hb;clear hb hg;have:=cf2 AV))
 go_ret
 exact⟨fe,bl⟩):p:=h
theorem laws_szLink.calls (U:ByteArray) (J:Int) (X:Int) (r:Int) (w:World) (h:laws_szLink.f U J X=some r) :
 Calls Tryz.prog 97 #[.agg #[.string U,.int .i64 J],.int .i64 X] w fun e w'=>e = .returned (.int .i64 r)∧Below w.heap.size w w':=by
 have AW:=Tryz.underlying124;have HB:=aK (Below.refl w.heap.size w);have H:=h;unfold laws_szLink.f at H;clear h;by_cases c3:(wrap64 (X-(U.size:Int)))<0
 ·rw[if_pos c3]at H;have A1:=dt c3;clear c3;obtain rfl:=oj H
  exact laws_szLink.z1
 ·rw[if_neg c3]at H;have A1:=df c3;clear c3;obtain rfl:=oj H
  exact laws_szLink.z1
def laws_szLinkS.l0:Nat→List (S124)→Int→Int→Option (Int)
 | 0,_,_,_=>none
 |k+1,x0,x1,x5=>if x5<(x0.length:Int)then(if 0≤x5 then((laws_szLink.f ((rd_T124 x0 x5).f0) ((rd_T124 x0 x5).f1) x1).bind fun Ad=>(if Ad<0 then(some (-1))else(laws_szLinkS.l0 k x0 Ad (wrap64 (x5+1)))))else(none))else(some x1)
def laws_szLinkS.f (k:Nat) (l0:List (S124)) (X:Int):Option (Int):=if(wrap64 (X-(l0.length:Int)))<0 then(some (-1))else(laws_szLinkS.l0 k l0 (wrap64 (X-(l0.length:Int))) 0)
theorem laws_szLinkS.z1 {p:Prop} (h:p:=by
 go_wp2_with (first|((with_reducible refine gc 97 ?_);refine goesW Tryz.func97 ?_;(with_reducible refine mo (laws_szLink.calls ((rd_T124 l0 D).f0) ((rd_T124 l0 D).f1) Z Ad _ A6.o) ?_);intro B7 hb;replace HB:=bS HB hb))
 (first|(have _:=Av;go_ret;exact⟨fe,bl⟩)|(have _:=Aw;(go_roundg k1);(case measure=>have:=Ah.o;omega);(case rel=>exact⟨(Ad),(wrap64 (D+1)),fa,fa,H',⟨by have:=Ah.o;omega⟩,⟨bl⟩⟩)))):p:=h
theorem laws_szLinkS.calls (k:Nat) (A0:Option Addr) (c0:Nat) (l0:List (S124)) (X:Int) (r:Int) (w:World) (Ai:Kd.C k124 w A0 l0.length l0) (Aj:l0.length≤c0) (h:laws_szLinkS.f k l0 X=some r) :
 Calls Tryz.prog 40 #[.slice A0 l0.length c0,.int .i64 X] w fun e w'=>e = .returned (.int .i64 r)∧Below w.heap.size w w':=by
 have AW:=Tryz.underlying124;have Ax:=aK Ai;have B8:=aK Aj;clear Ai Aj;have HB:=aK (Below.refl w.heap.size w);have H:=h;unfold laws_szLinkS.f at H;clear h;by_cases c3:(wrap64 (X-(l0.length:Int)))<0
 ·rw[if_pos c3]at H;have A1:=dt c3;clear c3;obtain rfl:=oj H
  go_enter Tryz.func40,Tryz.ntmps40
  go_wp2
  go_ret
  exact⟨fe,bl⟩
 ·rw[if_neg c3]at H;have A1:=df c3;clear c3;have H':=aK H;clear H
  go_enter Tryz.func40,Tryz.ntmps40
  go_wp2
  go_loopg [1,5] k (fun kq v1 v5 w'=>∃(Z:Int) (D:Int),v1 = .int .i64 Z∧v5 = .int .i64 D∧Aside0 (laws_szLinkS.l0 kq l0 Z D=some r)∧Aside0 (kq≤k)∧Aside0 (Below w.heap.size w w'))
  case atStart=>exact⟨(wrap64 (X-(l0.length:Int))),(0),fa,fa,H',⟨Nat.le_refl _⟩,⟨bl⟩⟩
  case round=>
   clear H';obtain⟨Z,D,rfl,rfl,HA,Ah,HB⟩:=hrel;cases gk with
   |zero=>exact absurd HA.o (by simp[laws_szLinkS.l0])
   |succ k1=>
    have H:=HA.o;clear HA;simp only[laws_szLinkS.l0]at H;by_cases c4:D<(l0.length:Int)
    ·rw[if_pos c4]at H;have Ab:=dt c4;clear c4;by_cases c5:0≤D
     ·rw[if_pos c5]at H;have AM:=dt c5;clear c5;obtain⟨Ad,A6,H⟩:=bd H;have Hq_:=aK H;clear H;have A_:0≤(D:Int):=dT am;have AA:D<(l0.length:Int):=dT am;obtain⟨Bh,Ba,An,Ao⟩:=at_T124 Ax.o D A_ AA;cases Ba;replace An:=cz HB An;replace Ao:=cz HB Ao;replace A_:=eq_true A_;replace AA:=eq_true AA;have H:=Hq_.o;clear Hq_;by_cases c7:Ad<0
      ·rw[if_pos c7]at H;have A4:=dt c7;(try rw[A4]);clear c7;obtain rfl:=oj H;have Av:=trivial;exact laws_szLinkS.z1
      ·rw[if_neg c7]at H;have A4:=df c7;(try rw[A4]);clear c7;have H':=aK H;clear H;have Aw:=trivial;exact laws_szLinkS.z1
     ·exact no c5 H
    ·rw[if_neg c4]at H;have Ab:=df c4;clear c4;obtain rfl:=oj H;go_wp2
     go_ret
     exact⟨fe,bl⟩
def laws_szMove.f (U:Int) (J:ByteArray) (Y:ByteArray) (A5:Int) (X:Int):Option (Int):=if(wrap64 (X-(J.size:Int)))<0 then(some (-1))else(if(wrap64 ((wrap64 (X-(J.size:Int)))-(Y.size:Int)))<0 then(some (-1))else(some (wrap64 ((wrap64 (X-(J.size:Int)))-(Y.size:Int)))))
theorem laws_szMove.z1 {p:Prop} (h:p:=by
 go_enter Tryz.func98,Tryz.ntmps98
 go_wp2_with (first|((with_reducible refine gd 2 ?_);refine boxQ HB ?_;clear HB;intro Bi hg AL AX Bj HB hb;clear hb hg;have:=cf4 AX))
 go_ret
 exact⟨fe,bl⟩):p:=h
theorem laws_szMove.calls (U:Int) (J:ByteArray) (Y:ByteArray) (A5:Int) (X:Int) (r:Int) (w:World) (h:laws_szMove.f U J Y A5 X=some r) :
 Calls Tryz.prog 98 #[.agg #[.int .i64 U,.string J,.string Y,.int .i64 A5],.int .i64 X] w fun e w'=>e = .returned (.int .i64 r)∧Below w.heap.size w w':=by
 have AY:=Tryz.underlying127;have HB:=aK (Below.refl w.heap.size w);have H:=h;unfold laws_szMove.f at H;clear h;by_cases c3:(wrap64 (X-(J.size:Int)))<0
 ·rw[if_pos c3]at H;have A1:=dt c3;clear c3;obtain rfl:=oj H
  exact laws_szMove.z1
 ·rw[if_neg c3]at H;have A1:=df c3;clear c3;by_cases c6:(wrap64 ((wrap64 (X-(J.size:Int)))-(Y.size:Int)))<0
  ·rw[if_pos c6]at H;have AB:=dt c6;clear c6;obtain rfl:=oj H
   exact laws_szMove.z1
  ·rw[if_neg c6]at H;have AB:=df c6;clear c6;obtain rfl:=oj H
   exact laws_szMove.z1
def laws_szMoveS.l0:Nat→List (S127)→Int→Int→Option (Int)
 | 0,_,_,_=>none
 |k+1,x0,x1,x5=>if x5<(x0.length:Int)then(if 0≤x5 then((laws_szMove.f ((rd_T127 x0 x5).f0) ((rd_T127 x0 x5).f1) ((rd_T127 x0 x5).f2) ((rd_T127 x0 x5).f3) x1).bind fun Ae=>(if Ae<0 then(some (-1))else(laws_szMoveS.l0 k x0 Ae (wrap64 (x5+1)))))else(none))else(some x1)
def laws_szMoveS.f (k:Nat) (l0:List (S127)) (X:Int):Option (Int):=if(wrap64 (X-(l0.length:Int)))<0 then(some (-1))else(laws_szMoveS.l0 k l0 (wrap64 (X-(l0.length:Int))) 0)
theorem laws_szMoveS.z1 {p:Prop} (h:p:=by
 go_wp2_with (first|((with_reducible refine gc 98 ?_);refine goesW Tryz.func98 ?_;(with_reducible refine mo (laws_szMove.calls ((rd_T127 l0 D).f0) ((rd_T127 l0 D).f1) ((rd_T127 l0 D).f2) ((rd_T127 l0 D).f3) Z Ae _ A6.o) ?_);intro B7 hb;replace HB:=bS HB hb))
 (first|(have _:=Av;go_ret;exact⟨fe,bl⟩)|(have _:=Aw;(go_roundg k1);(case measure=>have:=Ah.o;omega);(case rel=>exact⟨(Ae),(wrap64 (D+1)),fa,fa,H',⟨by have:=Ah.o;omega⟩,⟨bl⟩⟩)))):p:=h
theorem laws_szMoveS.calls (k:Nat) (A0:Option Addr) (c0:Nat) (l0:List (S127)) (X:Int) (r:Int) (w:World) (Ai:Kd.C k127 w A0 l0.length l0) (Aj:l0.length≤c0) (h:laws_szMoveS.f k l0 X=some r) :
 Calls Tryz.prog 41 #[.slice A0 l0.length c0,.int .i64 X] w fun e w'=>e = .returned (.int .i64 r)∧Below w.heap.size w w':=by
 have AY:=Tryz.underlying127;have Ax:=aK Ai;have B8:=aK Aj;clear Ai Aj;have HB:=aK (Below.refl w.heap.size w);have H:=h;unfold laws_szMoveS.f at H;clear h;by_cases c3:(wrap64 (X-(l0.length:Int)))<0
 ·rw[if_pos c3]at H;have A1:=dt c3;clear c3;obtain rfl:=oj H
  go_enter Tryz.func41,Tryz.ntmps41
  go_wp2
  go_ret
  exact⟨fe,bl⟩
 ·rw[if_neg c3]at H;have A1:=df c3;clear c3;have H':=aK H;clear H
  go_enter Tryz.func41,Tryz.ntmps41
  go_wp2
  go_loopg [1,5] k (fun kq v1 v5 w'=>∃(Z:Int) (D:Int),v1 = .int .i64 Z∧v5 = .int .i64 D∧Aside0 (laws_szMoveS.l0 kq l0 Z D=some r)∧Aside0 (kq≤k)∧Aside0 (Below w.heap.size w w'))
  case atStart=>exact⟨(wrap64 (X-(l0.length:Int))),(0),fa,fa,H',⟨Nat.le_refl _⟩,⟨bl⟩⟩
  case round=>
   clear H';obtain⟨Z,D,rfl,rfl,HA,Ah,HB⟩:=hrel;cases gk with
   |zero=>exact absurd HA.o (by simp[laws_szMoveS.l0])
   |succ k1=>
    have H:=HA.o;clear HA;simp only[laws_szMoveS.l0]at H;by_cases c4:D<(l0.length:Int)
    ·rw[if_pos c4]at H;have Ab:=dt c4;clear c4;by_cases c5:0≤D
     ·rw[if_pos c5]at H;have AM:=dt c5;clear c5;obtain⟨Ae,A6,H⟩:=bd H;have Hq_:=aK H;clear H;have AC:0≤(D:Int):=dT am;have AD:D<(l0.length:Int):=dT am;obtain⟨Bk,Bb,Ap,Aq,Ar,As⟩:=at_T127 Ax.o D AC AD;cases Bb;replace Ap:=cz HB Ap;replace Aq:=cz HB Aq;replace Ar:=cz HB Ar;replace As:=cz HB As;replace AC:=eq_true AC;replace AD:=eq_true AD;have H:=Hq_.o;clear Hq_;by_cases c7:Ae<0
      ·rw[if_pos c7]at H;have A4:=dt c7;(try rw[A4]);clear c7;obtain rfl:=oj H;have Av:=trivial;exact laws_szMoveS.z1
      ·rw[if_neg c7]at H;have A4:=df c7;(try rw[A4]);clear c7;have H':=aK H;clear H;have Aw:=trivial;exact laws_szMoveS.z1
     ·exact no c5 H
    ·rw[if_neg c4]at H;have Ab:=df c4;clear c4;obtain rfl:=oj H;go_wp2
     go_ret
     exact⟨fe,bl⟩
def laws_szDisk.f (k:Nat) (U:Int) (J:Int) (A7:List (S121)) (A9:List (S124)) (Aa:List (S127)) (X:Int):Option (Int):=(laws_szInodeS.f k A7 X).bind fun Af=>(if Af<0 then(some (-1))else((laws_szLinkS.f k A9 Af).bind fun Ag=>(if Ag<0 then(some (-1))else((laws_szMoveS.f k Aa Ag).bind fun At=>(if At<0 then(some (-1))else(some At))))))
theorem laws_szDisk.z1 {p:Prop} (h:p:=by
 go_enter Tryz.func8,Tryz.ntmps8
 go_wp2_with (first|((with_reducible refine gd 2 ?_);refine boxQ HB ?_;clear HB;intro Bl hg AL A2 Bm HB hb;clear hb hg;have:=cf5 A2)|((with_reducible refine gc 39 ?_);refine goesW Tryz.func39 ?_;(with_reducible refine mo (laws_szInodeS.calls k _ _ A7 X Af _ ?_ ?_ A3.o) ?_);exact cB AZ HB;exact B0.o;intro Bs hb;replace A2:=bv A2 hb;replace HB:=bS HB hb;have:=cf5 A2)|((with_reducible refine gc 40 ?_);refine goesW Tryz.func40 ?_;(with_reducible refine mo (laws_szLinkS.calls k _ _ A9 Af Ag _ ?_ ?_ A8.o) ?_);exact cB B1 HB;exact B2.o;intro Bt hb;replace A2:=bv A2 hb;replace HB:=bS HB hb;have:=cf5 A2)|((with_reducible refine gc 41 ?_);refine goesW Tryz.func41 ?_;(with_reducible refine mo (laws_szMoveS.calls k _ _ Aa Ag At _ ?_ ?_ Bn.o) ?_);exact cB B3 HB;exact B4.o;intro Bu hb;replace A2:=bv A2 hb;replace HB:=bS HB hb))
 go_ret
 exact⟨fe,bl⟩):p:=h
theorem laws_szDisk.calls (k:Nat) (U:Int) (J:Int) (AN:Option Addr) (AO:Nat) (A7:List (S121)) (AP:Option Addr) (AQ:Nat) (A9:List (S124)) (AR:Option Addr) (AS:Nat) (Aa:List (S127)) (X:Int) (r:Int) (w:World) (AE:Kd.C k121 w AN A7.length A7) (AF:A7.length≤AO) (AG:Kd.C k124 w AP A9.length A9) (AH:A9.length≤AQ) (AI:Kd.C k127 w AR Aa.length Aa) (AJ:Aa.length≤AS) (h:laws_szDisk.f k U J A7 A9 Aa X=some r) :
 Calls Tryz.prog 8 #[.agg #[.int .i64 U,.int .i64 J,.slice AN A7.length AO,.slice AP A9.length AQ,.slice AR Aa.length AS],.int .i64 X] w fun e w'=>e = .returned (.int .i64 r)∧Below w.heap.size w w':=by
 have Bq:=Tryz.underlying26;have AZ:=aK AE;have B0:=aK AF;clear AE AF;have B1:=aK AG;have B2:=aK AH;clear AG AH;have B3:=aK AI;have B4:=aK AJ;clear AI AJ;have HB:=aK (Below.refl w.heap.size w);have H:=h;unfold laws_szDisk.f at H;clear h;obtain⟨Af,A3,H⟩:=bd H;by_cases c4:Af<0
 ·rw[if_pos c4]at H;have Ab:=dt c4;clear c4;obtain rfl:=oj H
  exact laws_szDisk.z1
 ·rw[if_neg c4]at H;have Ab:=df c4;clear c4;obtain⟨Ag,A8,H⟩:=bd H;by_cases c9:Ag<0
  ·rw[if_pos c9]at H;have AK:=dt c9;clear c9;obtain rfl:=oj H
   exact laws_szDisk.z1
  ·rw[if_neg c9]at H;have AK:=df c9;clear c9;obtain⟨At,Bn,H⟩:=bd H;by_cases Au:At<0
   ·rw[if_pos Au]at H;have B5:=dt Au;clear Au;obtain rfl:=oj H
    exact laws_szDisk.z1
   ·rw[if_neg Au]at H;have B5:=df Au;clear Au;obtain rfl:=oj H
    exact laws_szDisk.z1
def laws_toInode.f (X:Int) (Y:ByteArray) (Ad:Int):Option (Int×ByteArray×Int):=some (X,Y,Ad)
theorem laws_toInode.calls (X:Int) (Y:ByteArray) (Ad:Int) (r1:Int) (r2:ByteArray) (r3:Int) (w:World) (h:laws_toInode.f X Y Ad=some (r1,r2,r3)) :
 Calls Tryz.prog 111 #[.agg #[.int .i64 X,.string Y,.int .i64 Ad]] w fun e w'=>e = .returned (.agg #[.int .i64 r1,.string r2,.int .i64 r3])∧Below w.heap.size w w':=by
 have C6:=Tryz.underlying121;have C7:=Tryz.underlying130;have HB:=aK (Below.refl w.heap.size w);have H:=h;unfold laws_toInode.f at H;clear h;obtain⟨rfl,rfl,rfl⟩:=t3 H
 go_enter Tryz.func111,Tryz.ntmps111
 go_wp2_with (first|((with_reducible refine gd 1 ?_);refine boxQ HB ?_;clear HB;intro D9 hg w2 Ah Da HB hb;clear hb hg)|((with_reducible refine gd 2 ?_);refine boxQ HB ?_;clear HB;intro C8 hg w3 AE Db HB hb;have C9:=nL Ah hg;have Ca:=nR Ah hg;replace Ah:=bv Ah hb;clear hb hg)|((with_reducible refine gd 3 ?_);refine boxQ HB ?_;clear HB;intro Dc hg w4 Cb Dd HB hb;have Cc:=nL Ah hg;have Cd:=nR Ah hg;replace Ah:=bv Ah hb;have Ce:=nL AE hg;have Cf:=nR AE hg;replace AE:=bv AE hb;clear hb hg;have:=cf3 Ah;have:=cf3 Cb;have:=cf3 AE))
 refine bodyPost_ret (results_cell_row rfl _ _ C8 130 #[.int .i64 X,.string Y,.int .i64 Ad] (0,0) _ rfl bkk Tryz.underlying130 rfl (by kernel_rfl)) rfl ?_;exact⟨fe,bl⟩
def laws_toInodeS.l0:Nat→List (S121)→List (S130)→Int→Option ((List (S130)))
 | 0,_,_,_=>none
 |k+1,x0,x3,x4=>if x4<(x0.length:Int)then(if 0≤x4 then((laws_toInode.f ((rd_T121 x0 x4).f0) ((rd_T121 x0 x4).f1) ((rd_T121 x0 x4).f2)).bind fun Bb=>(if x4<(x3.length:Int)then(laws_toInodeS.l0 k x0 (x3.set (x4:Int).toNat (⟨Bb.1,Bb.2.1,Bb.2.2⟩:S130)) (wrap64 (x4+1)))else(none)))else(none))else(some x3)
def laws_toInodeS.f (k:Nat) (l0:List (S121)):Option ((List (S130))):=if 0≤(l0.length:Int)then(if((l0.length:Int):Int).toNat≤8796093022208 then(laws_toInodeS.l0 k l0 (List.replicate ((l0.length:Int):Int).toNat z130) 0)else(none))else(none)
theorem laws_toInodeS.calls (k:Nat) (A0:Option Addr) (c0:Nat) (l0:List (S121)) (r:List (S130)) (w:World) (B2:Kd.C k121 w A0 l0.length l0) (B3:l0.length≤c0) (h:laws_toInodeS.f k l0=some r) :
 Calls Tryz.prog 50 #[.slice A0 l0.length c0] w fun e w'=>∃B4:Value,e = .returned (B4)∧Kd.R k130 130 w' w.heap.size (fun _=>True) B4 r∧Below w.heap.size w w':=by
 have C6:=Tryz.underlying121;have C7:=Tryz.underlying130;have Bp:=aK B2;have CX:=aK B3;clear B2 B3;have HB:=aK (Below.refl w.heap.size w);have H:=h;unfold laws_toInodeS.f at H;clear h;by_cases c2:0≤(l0.length:Int)
 ·rw[if_pos c2]at H;have BQ:=eq_true c2;have BR:=dt c2;clear c2;by_cases c3:((l0.length:Int):Int).toNat≤8796093022208
  ·rw[if_pos c3]at H;have BS:=eq_true c3;have BT:=dt c3;clear c3;obtain⟨CY,Bc⟩:=yy (List.replicate ((l0.length:Int):Int).toNat z130);rw[←Bc]at H;(try rw[obs]at H)
   have Bq:=aK Bc;clear Bc;have H':=aK H;clear H
   go_enter Tryz.func50,Tryz.ntmps50
   go_wp2_with (first|((with_reducible refine gd 7 ?_);refine Kd.R_make k130 _ 130 rfl (N:=7) rfl 31 _ _ rfl (l0.length:Int) rfl rfl Tryz.underlying31 (.agg #[(.int .i64 0),(.string ⟨#[]⟩),(.int .i64 0)]) 32 info130 rfl (by decide) (by omega) z130 (ok:=fun _=>True) (okp:=fun _=>True) (k130_mkM _ _ _ z130) (fun _ hk=>hk) trivial (dT am) (Nat.le_trans (Nat.mul_le_mul_right _ (dT am:(l0.length:Int).toNat≤8796093022208)) (by omega)) (Below.refl _ _) (Nat.le_refl _) ?_;intro Br CZ Ae hb hg_ hnew_;clear hg_ hnew_;(first|rw[←Bq.o]at Ae|(simp only[Int.reduceToNat]at Ae;rw[←Bq.o]at Ae));have B5:=rl HB Ae;replace HB:=bS HB hb;clear hb Ae))
   go_loopg [4] k (fun kq v4 w'=>∃(J:List (S130)) (D:Int),v4 = .int .i64 D∧Aside0 (laws_toInodeS.l0 kq l0 J D=some r)∧Aside0 (kq≤k)∧Aside0 (Kd.R k130 130 w' w.heap.size (fun _=>True) Br J)∧Aside0 (Below w.heap.size w w'))
   case atStart=>exact⟨(CY),(0),fa,H',⟨Nat.le_refl _⟩,⟨rpR B5.o⟩,⟨bl⟩⟩
   case round=>
    clear H';obtain⟨J,D,rfl,HA,B6,Z,HB⟩:=hrel;cases gk with
    |zero=>exact absurd HA.o (by simp[laws_toInodeS.l0])
    |succ k1=>
     have H:=HA.o;clear HA;simp only[laws_toInodeS.l0]at H;by_cases c6:D<(l0.length:Int)
     ·rw[if_pos c6]at H;have B7:=dt c6;clear c6;by_cases c7:0≤D
      ·rw[if_pos c7]at H;have BU:=dt c7;clear c7;replace H:=oB H;obtain⟨⟨AO,AP,AQ⟩,B8,H⟩:=H;dsimp only at H;have A8:=aK B8;clear B8;by_cases c9:D<(J.length:Int)
       ·rw[if_pos c9]at H;have BV:=dt c9;clear c9;obtain⟨BW,Bd⟩:=yy (J.set (D:Int).toNat (⟨AO,AP,AQ⟩:S130));rw[←Bd]at H;(try rw[obs]at H)
        have Cg:=aK Bd;clear Bd;have H':=aK H;clear H;have AF:0≤(D:Int):=dT am;have AG:D<(l0.length:Int):=dT am;obtain⟨BX,Bs,Af,Ag,Ap⟩:=at_T121 Bp.o D AF AG;cases Bs;replace Af:=cz HB Af;replace Ag:=cz HB Ag;replace Ap:=cz HB Ap;replace AF:=eq_true AF;replace AG:=eq_true AG
        go_wp2_with (first|((with_reducible refine gc 111 ?_);refine goesW Tryz.func111 ?_;(with_reducible refine mo (laws_toInode.calls ((rd_T121 l0 D).f0) ((rd_T121 l0 D).f1) ((rd_T121 l0 D).f2) AO AP AQ _ A8.o) ?_);intro A6 hb;replace Z:=rb Z hb;replace HB:=bS HB hb;have AH:0≤(D:Int):=dT am;have AI:(D:Int)<((J.length:Int):Int):=dT am;obtain⟨U,Ay,Az,A_,B9,BY,AA⟩:=Kd.R_form Z.o (by omega);(first|cases Az|(injection Az with ea_ en_ ec_;(first|subst ea_|(injection ea_ with ea_;subst ea_));subst ec_;clear en_));have Al:=aK A_;have BZ:=aK AA;clear A_ B9 AA;obtain⟨C0,AJ,AB,A7,A9⟩:=Kd.R_elem Z.o z130 (D:Int) AH AI;obtain rfl:=k130_openM AB;have Bj:A6.cell? ⟨U,(D:Int).toNat*3,none⟩=some (.int .i64 ((rd_T130 J D).f0)):=A7 0 _ rfl;have Bk:A6.cell? ⟨U,(D:Int).toNat*3+1,none⟩=some (.string ((rd_T130 J D).f1)):=A7 1 _ rfl;have BM:A6.cell? ⟨U,(D:Int).toNat*3+2,none⟩=some (.int .i64 ((rd_T130 J D).f2)):=A7 2 _ rfl;have Bl:A6.frozen? ⟨U,(D:Int).toNat*3,none⟩=false:=A9 0;have Bm:A6.frozen? ⟨U,(D:Int).toNat*3+1,none⟩=false:=A9 1;have BN:A6.frozen? ⟨U,(D:Int).toNat*3+2,none⟩=false:=A9 2;clear AJ A7 A9 AB;replace AH:=eq_true AH;replace AI:=eq_true AI;have AC:=aK (show Kd.R k130 130 A6 w.heap.size (fun _=>True) (.slice (some ⟨U,0,none⟩) J.length Ay) J from(rpR Z.o));obtain⟨C1,Am,AD,A1,Aa⟩:=Kd.R_elem AC.o z130 (D:Int) (dT am) (by have h_:(D:Int)<((J.length:Int):Int):=dT am;first|exact h_|(have e_:=(Kd.R_reads' Z.o).1;omega)|simpa using h_);obtain rfl:=k130_openM AD;have An:=Kd.R_seg AC.o (D:Int) (dT am) (by have h_:(D:Int)<((J.length:Int):Int):=dT am;first|exact h_|(have e_:=(Kd.R_reads' Z.o).1;omega)|simpa using h_) (seg:=[.int .i64 AO,.string AP,.int .i64 AQ]) (j:=0) Am A1 (show 3≤3 from by decide) (x':=(⟨AO,AP,AQ⟩:S130)) (k130_mkM _ _ _ (⟨AO,AP,AQ⟩:S130)) (fun _ hk=>hk);have Aq:=A1 0 _ rfl;(try simp only[show(k130).sz=3 from rfl,Nat.mul_one,Nat.add_zero]at Aq);have Ar:=Aa 0;(try simp only[show(k130).sz=3 from rfl,Nat.mul_one,Nat.add_zero]at Ar);have As:=A1 1 _ rfl;(try simp only[show(k130).sz=3 from rfl,Nat.mul_one,Nat.add_zero]at As);have At:=Aa 1;(try simp only[show(k130).sz=3 from rfl,Nat.mul_one,Nat.add_zero]at At);have AY:=A1 2 _ rfl;(try simp only[show(k130).sz=3 from rfl,Nat.mul_one,Nat.add_zero]at AY);have AZ:=Aa 2;(try simp only[show(k130).sz=3 from rfl,Nat.mul_one,Nat.add_zero]at AZ);clear Am A1 Aa AD)|((with_reducible refine gate_store (t:=130) (p:=21) rfl ?_);refine store_event (t:=130) (p:=21) (v:=?vo_w13) (w1:=(((A6.setCell ⟨U,(D:Int).toNat*3,none⟩ (.int .i64 AO)).setCell ⟨U,(D:Int).toNat*3+1,none⟩ (.string AP)).setCell ⟨U,(D:Int).toNat*3+2,none⟩ (.int .i64 AQ))) ?hg ?ho ?hn ?hr ?_;(case ho=>rfl);(case hg=>rfl);(case hn=>rfl);(case hr=>first|(go_simp;done)|(go_simp;rfl));intro AK hw;have hg:A6.grownBy AK (some U):=(by rw[hw];exact An.2);have hp_:Kd.R k130 130 AK w.heap.size (fun _=>True) (.slice (some ⟨U,0,none⟩) J.length Ay) BW:=(by rw[hw,Cg.o];exact An.1);clear An;replace Z:=aK (hp_);replace HB:=aK ((by rw[hw];exact below_set (below_set (below_set (HB.o) Al.o) Al.o) Al.o:Below w.heap.size w AK));clear hg hw hp_))
        go_roundg k1
        case measure=>have:=B6.o;omega
        case rel=>exact⟨(BW),(wrap64 (D+1)),fa,H',⟨by have:=B6.o;omega⟩,⟨rpR Z.o⟩,⟨bl⟩⟩
       ·exact no c9 H
      ·exact no c7 H
     ·rw[if_neg c6]at H;have B7:=df c6;clear c6;obtain rfl:=oj H;go_wp2
      go_ret
      exact⟨_,fe,rpR Z.o,bl⟩
  ·exact no c3 H
 ·exact no c2 H
def laws_toLink.f (X:ByteArray) (Y:Int):Option (ByteArray×Int):=some (X,Y)
theorem laws_toLink.calls (X:ByteArray) (Y:Int) (r1:ByteArray) (r2:Int) (w:World) (h:laws_toLink.f X Y=some (r1,r2)) :
 Calls Tryz.prog 112 #[.agg #[.string X,.int .i64 Y]] w fun e w'=>e = .returned (.agg #[.string r1,.int .i64 r2])∧Below w.heap.size w w':=by
 have Ch:=Tryz.underlying124;have Ci:=Tryz.underlying133;have HB:=aK (Below.refl w.heap.size w);have H:=h;unfold laws_toLink.f at H;clear h;obtain⟨rfl,rfl⟩:=t2 H
 go_enter Tryz.func112,Tryz.ntmps112
 go_wp2_with (first|((with_reducible refine gd 1 ?_);refine boxQ HB ?_;clear HB;intro De hg w2 Ai Df HB hb;clear hb hg)|((with_reducible refine gd 2 ?_);refine boxQ HB ?_;clear HB;intro Cj hg w3 AL Dg HB hb;have Ck:=nL Ai hg;have Cl:=nR Ai hg;replace Ai:=bv Ai hb;clear hb hg)|((with_reducible refine gd 3 ?_);refine boxQ HB ?_;clear HB;intro Dh hg w4 Cm Di HB hb;have Cn:=nL Ai hg;have Co:=nR Ai hg;replace Ai:=bv Ai hb;have Cp:=nL AL hg;have Cq:=nR AL hg;replace AL:=bv AL hb;clear hb hg;have:=cf2 Ai;have:=cf2 Cm;have:=cf2 AL))
 refine bodyPost_ret (results_cell_row rfl _ _ Cj 133 #[.string X,.int .i64 Y] (0,0) _ rfl bkk Tryz.underlying133 rfl (by kernel_rfl)) rfl ?_;exact⟨fe,bl⟩
def laws_toLinkS.l0:Nat→List (S124)→List (S133)→Int→Option ((List (S133)))
 | 0,_,_,_=>none
 |k+1,x0,x3,x4=>if x4<(x0.length:Int)then(if 0≤x4 then((laws_toLink.f ((rd_T124 x0 x4).f0) ((rd_T124 x0 x4).f1)).bind fun Bt=>(if x4<(x3.length:Int)then(laws_toLinkS.l0 k x0 (x3.set (x4:Int).toNat (⟨Bt.1,Bt.2⟩:S133)) (wrap64 (x4+1)))else(none)))else(none))else(some x3)
def laws_toLinkS.f (k:Nat) (l0:List (S124)):Option ((List (S133))):=if 0≤(l0.length:Int)then(if((l0.length:Int):Int).toNat≤11728124029610 then(laws_toLinkS.l0 k l0 (List.replicate ((l0.length:Int):Int).toNat z133) 0)else(none))else(none)
theorem laws_toLinkS.calls (k:Nat) (A0:Option Addr) (c0:Nat) (l0:List (S124)) (r:List (S133)) (w:World) (B2:Kd.C k124 w A0 l0.length l0) (B3:l0.length≤c0) (h:laws_toLinkS.f k l0=some r) :
 Calls Tryz.prog 51 #[.slice A0 l0.length c0] w fun e w'=>∃B4:Value,e = .returned (B4)∧Kd.R k133 133 w' w.heap.size (fun _=>True) B4 r∧Below w.heap.size w w':=by
 have Ch:=Tryz.underlying124;have Ci:=Tryz.underlying133;have Bp:=aK B2;have CX:=aK B3;clear B2 B3;have HB:=aK (Below.refl w.heap.size w);have H:=h;unfold laws_toLinkS.f at H;clear h;by_cases c2:0≤(l0.length:Int)
 ·rw[if_pos c2]at H;have BQ:=eq_true c2;have BR:=dt c2;clear c2;by_cases c3:((l0.length:Int):Int).toNat≤11728124029610
  ·rw[if_pos c3]at H;have BS:=eq_true c3;have BT:=dt c3;clear c3;obtain⟨D0,Be⟩:=yy (List.replicate ((l0.length:Int):Int).toNat z133);rw[←Be]at H;(try rw[obs]at H)
   have Bu:=aK Be;clear Be;have H':=aK H;clear H
   go_enter Tryz.func51,Tryz.ntmps51
   go_wp2_with (first|((with_reducible refine gd 7 ?_);refine Kd.R_make k133 _ 133 rfl (N:=7) rfl 32 _ _ rfl (l0.length:Int) rfl rfl Tryz.underlying32 (.agg #[(.string ⟨#[]⟩),(.int .i64 0)]) 24 info133 rfl (by decide) (by omega) z133 (ok:=fun _=>True) (okp:=fun _=>True) (k133_mkM _ _ _ z133) (fun _ hk=>hk) trivial (dT am) (Nat.le_trans (Nat.mul_le_mul_right _ (dT am:(l0.length:Int).toNat≤11728124029610)) (by omega)) (Below.refl _ _) (Nat.le_refl _) ?_;intro Br CZ Ae hb hg_ hnew_;clear hg_ hnew_;(first|rw[←Bu.o]at Ae|(simp only[Int.reduceToNat]at Ae;rw[←Bu.o]at Ae));have B5:=rl HB Ae;replace HB:=bS HB hb;clear hb Ae))
   go_loopg [4] k (fun kq v4 w'=>∃(J:List (S133)) (D:Int),v4 = .int .i64 D∧Aside0 (laws_toLinkS.l0 kq l0 J D=some r)∧Aside0 (kq≤k)∧Aside0 (Kd.R k133 133 w' w.heap.size (fun _=>True) Br J)∧Aside0 (Below w.heap.size w w'))
   case atStart=>exact⟨(D0),(0),fa,H',⟨Nat.le_refl _⟩,⟨rpR B5.o⟩,⟨bl⟩⟩
   case round=>
    clear H';obtain⟨J,D,rfl,HA,B6,Z,HB⟩:=hrel;cases gk with
    |zero=>exact absurd HA.o (by simp[laws_toLinkS.l0])
    |succ k1=>
     have H:=HA.o;clear HA;simp only[laws_toLinkS.l0]at H;by_cases c6:D<(l0.length:Int)
     ·rw[if_pos c6]at H;have B7:=dt c6;clear c6;by_cases c7:0≤D
      ·rw[if_pos c7]at H;have BU:=dt c7;clear c7;replace H:=oB H;obtain⟨⟨AR,AS⟩,B8,H⟩:=H;dsimp only at H;have A8:=aK B8;clear B8;by_cases c9:D<(J.length:Int)
       ·rw[if_pos c9]at H;have BV:=dt c9;clear c9;obtain⟨C2,Bf⟩:=yy (J.set (D:Int).toNat (⟨AR,AS⟩:S133));rw[←Bf]at H;(try rw[obs]at H)
        have Cr:=aK Bf;clear Bf;have H':=aK H;clear H;have AF:0≤(D:Int):=dT am;have AG:D<(l0.length:Int):=dT am;obtain⟨BX,Bs,Af,Ag⟩:=at_T124 Bp.o D AF AG;cases Bs;replace Af:=cz HB Af;replace Ag:=cz HB Ag;replace AF:=eq_true AF;replace AG:=eq_true AG
        go_wp2_with (first|((with_reducible refine gc 112 ?_);refine goesW Tryz.func112 ?_;(with_reducible refine mo (laws_toLink.calls ((rd_T124 l0 D).f0) ((rd_T124 l0 D).f1) AR AS _ A8.o) ?_);intro A6 hb;replace Z:=rb Z hb;replace HB:=bS HB hb;have AH:0≤(D:Int):=dT am;have AI:(D:Int)<((J.length:Int):Int):=dT am;obtain⟨U,Ay,Az,A_,B9,BY,AA⟩:=Kd.R_form Z.o (by omega);(first|cases Az|(injection Az with ea_ en_ ec_;(first|subst ea_|(injection ea_ with ea_;subst ea_));subst ec_;clear en_));have Al:=aK A_;have BZ:=aK AA;clear A_ B9 AA;obtain⟨C0,AJ,AB,A7,A9⟩:=Kd.R_elem Z.o z133 (D:Int) AH AI;obtain rfl:=k133_openM AB;have Bj:A6.cell? ⟨U,(D:Int).toNat*2,none⟩=some (.string ((rd_T133 J D).f0)):=A7 0 _ rfl;have Bk:A6.cell? ⟨U,(D:Int).toNat*2+1,none⟩=some (.int .i64 ((rd_T133 J D).f1)):=A7 1 _ rfl;have Bl:A6.frozen? ⟨U,(D:Int).toNat*2,none⟩=false:=A9 0;have Bm:A6.frozen? ⟨U,(D:Int).toNat*2+1,none⟩=false:=A9 1;clear AJ A7 A9 AB;replace AH:=eq_true AH;replace AI:=eq_true AI;have AC:=aK (show Kd.R k133 133 A6 w.heap.size (fun _=>True) (.slice (some ⟨U,0,none⟩) J.length Ay) J from(rpR Z.o));obtain⟨C1,Am,AD,A1,Aa⟩:=Kd.R_elem AC.o z133 (D:Int) (dT am) (by have h_:(D:Int)<((J.length:Int):Int):=dT am;first|exact h_|(have e_:=(Kd.R_reads' Z.o).1;omega)|simpa using h_);obtain rfl:=k133_openM AD;have An:=Kd.R_seg AC.o (D:Int) (dT am) (by have h_:(D:Int)<((J.length:Int):Int):=dT am;first|exact h_|(have e_:=(Kd.R_reads' Z.o).1;omega)|simpa using h_) (seg:=[.string AR,.int .i64 AS]) (j:=0) Am A1 (show 2≤2 from by decide) (x':=(⟨AR,AS⟩:S133)) (k133_mkM _ _ _ (⟨AR,AS⟩:S133)) (fun _ hk=>hk);have Aq:=A1 0 _ rfl;(try simp only[show(k133).sz=2 from rfl,Nat.mul_one,Nat.add_zero]at Aq);have Ar:=Aa 0;(try simp only[show(k133).sz=2 from rfl,Nat.mul_one,Nat.add_zero]at Ar);have As:=A1 1 _ rfl;(try simp only[show(k133).sz=2 from rfl,Nat.mul_one,Nat.add_zero]at As);have At:=Aa 1;(try simp only[show(k133).sz=2 from rfl,Nat.mul_one,Nat.add_zero]at At);clear Am A1 Aa AD)|((with_reducible refine gate_store (t:=133) (p:=21) rfl ?_);refine store_event (t:=133) (p:=21) (v:=?vo_w13) (w1:=((A6.setCell ⟨U,(D:Int).toNat*2,none⟩ (.string AR)).setCell ⟨U,(D:Int).toNat*2+1,none⟩ (.int .i64 AS))) ?hg ?ho ?hn ?hr ?_;(case ho=>rfl);(case hg=>rfl);(case hn=>rfl);(case hr=>first|(go_simp;done)|(go_simp;rfl));intro AK hw;have hg:A6.grownBy AK (some U):=(by rw[hw];exact An.2);have hp_:Kd.R k133 133 AK w.heap.size (fun _=>True) (.slice (some ⟨U,0,none⟩) J.length Ay) C2:=(by rw[hw,Cr.o];exact An.1);clear An;replace Z:=aK (hp_);replace HB:=aK ((by rw[hw];exact below_set (below_set (HB.o) Al.o) Al.o:Below w.heap.size w AK));clear hg hw hp_))
        go_roundg k1
        case measure=>have:=B6.o;omega
        case rel=>exact⟨(C2),(wrap64 (D+1)),fa,H',⟨by have:=B6.o;omega⟩,⟨rpR Z.o⟩,⟨bl⟩⟩
       ·exact no c9 H
      ·exact no c7 H
     ·rw[if_neg c6]at H;have B7:=df c6;clear c6;obtain rfl:=oj H;go_wp2
      go_ret
      exact⟨_,fe,rpR Z.o,bl⟩
  ·exact no c3 H
 ·exact no c2 H
def laws_toMove.f (X:Int) (Y:ByteArray) (Ad:ByteArray) (Ao:Int):Option (Int×ByteArray×ByteArray×Int):=some (X,Y,Ad,Ao)
theorem laws_toMove.calls (X:Int) (Y:ByteArray) (Ad:ByteArray) (Ao:Int) (r1:Int) (r2:ByteArray) (r3:ByteArray) (r4:Int) (w:World) (h:laws_toMove.f X Y Ad Ao=some (r1,r2,r3,r4)) :
 Calls Tryz.prog 113 #[.agg #[.int .i64 X,.string Y,.string Ad,.int .i64 Ao]] w fun e w'=>e = .returned (.agg #[.int .i64 r1,.string r2,.string r3,.int .i64 r4])∧Below w.heap.size w w':=by
 have Cs:=Tryz.underlying127;have Ct:=Tryz.underlying135;have HB:=aK (Below.refl w.heap.size w);have H:=h;unfold laws_toMove.f at H;clear h;obtain⟨rfl,rfl,rfl,rfl⟩:=t4 H
 go_enter Tryz.func113,Tryz.ntmps113
 go_wp2_with (first|((with_reducible refine gd 1 ?_);refine boxQ HB ?_;clear HB;intro Dj hg w2 Aj Dk HB hb;clear hb hg)|((with_reducible refine gd 2 ?_);refine boxQ HB ?_;clear HB;intro Cu hg w3 AM Dl HB hb;have Cv:=nL Aj hg;have Cw:=nR Aj hg;replace Aj:=bv Aj hb;clear hb hg)|((with_reducible refine gd 3 ?_);refine boxQ HB ?_;clear HB;intro Dm hg w4 Cx Dn HB hb;have Cy:=nL Aj hg;have Cz:=nR Aj hg;replace Aj:=bv Aj hb;have C_:=nL AM hg;have CA:=nR AM hg;replace AM:=bv AM hb;clear hb hg;have:=cf4 Aj;have:=cf4 Cx;have:=cf4 AM))
 refine bodyPost_ret (results_cell_row rfl _ _ Cu 135 #[.int .i64 X,.string Y,.string Ad,.int .i64 Ao] (0,0) _ rfl bkk Tryz.underlying135 rfl (by kernel_rfl)) rfl ?_;exact⟨fe,bl⟩
def laws_toMoveS.l0:Nat→List (S127)→List (S135)→Int→Option ((List (S135)))
 | 0,_,_,_=>none
 |k+1,x0,x3,x4=>if x4<(x0.length:Int)then(if 0≤x4 then((laws_toMove.f ((rd_T127 x0 x4).f0) ((rd_T127 x0 x4).f1) ((rd_T127 x0 x4).f2) ((rd_T127 x0 x4).f3)).bind fun B0=>(if x4<(x3.length:Int)then(laws_toMoveS.l0 k x0 (x3.set (x4:Int).toNat (⟨B0.1,B0.2.1,B0.2.2.1,B0.2.2.2⟩:S135)) (wrap64 (x4+1)))else(none)))else(none))else(some x3)
def laws_toMoveS.f (k:Nat) (l0:List (S127)):Option ((List (S135))):=if 0≤(l0.length:Int)then(if((l0.length:Int):Int).toNat≤5864062014805 then(laws_toMoveS.l0 k l0 (List.replicate ((l0.length:Int):Int).toNat z135) 0)else(none))else(none)
theorem laws_toMoveS.calls (k:Nat) (A0:Option Addr) (c0:Nat) (l0:List (S127)) (r:List (S135)) (w:World) (B2:Kd.C k127 w A0 l0.length l0) (B3:l0.length≤c0) (h:laws_toMoveS.f k l0=some r) :
 Calls Tryz.prog 52 #[.slice A0 l0.length c0] w fun e w'=>∃B4:Value,e = .returned (B4)∧Kd.R k135 135 w' w.heap.size (fun _=>True) B4 r∧Below w.heap.size w w':=by
 have Cs:=Tryz.underlying127;have Ct:=Tryz.underlying135;have Bp:=aK B2;have CX:=aK B3;clear B2 B3;have HB:=aK (Below.refl w.heap.size w);have H:=h;unfold laws_toMoveS.f at H;clear h;by_cases c2:0≤(l0.length:Int)
 ·rw[if_pos c2]at H;have BQ:=eq_true c2;have BR:=dt c2;clear c2;by_cases c3:((l0.length:Int):Int).toNat≤5864062014805
  ·rw[if_pos c3]at H;have BS:=eq_true c3;have BT:=dt c3;clear c3;obtain⟨D1,Bg⟩:=yy (List.replicate ((l0.length:Int):Int).toNat z135);rw[←Bg]at H;(try rw[obs]at H)
   have Bv:=aK Bg;clear Bg;have H':=aK H;clear H
   go_enter Tryz.func52,Tryz.ntmps52
   go_wp2_with (first|((with_reducible refine gd 7 ?_);refine Kd.R_make k135 _ 135 rfl (N:=7) rfl 33 _ _ rfl (l0.length:Int) rfl rfl Tryz.underlying33 (.agg #[(.int .i64 0),(.string ⟨#[]⟩),(.string ⟨#[]⟩),(.int .i64 0)]) 48 info135 rfl (by decide) (by omega) z135 (ok:=fun _=>True) (okp:=fun _=>True) (k135_mkM _ _ _ z135) (fun _ hk=>hk) trivial (dT am) (Nat.le_trans (Nat.mul_le_mul_right _ (dT am:(l0.length:Int).toNat≤5864062014805)) (by omega)) (Below.refl _ _) (Nat.le_refl _) ?_;intro Br CZ Ae hb hg_ hnew_;clear hg_ hnew_;(first|rw[←Bv.o]at Ae|(simp only[Int.reduceToNat]at Ae;rw[←Bv.o]at Ae));have B5:=rl HB Ae;replace HB:=bS HB hb;clear hb Ae))
   go_loopg [4] k (fun kq v4 w'=>∃(J:List (S135)) (D:Int),v4 = .int .i64 D∧Aside0 (laws_toMoveS.l0 kq l0 J D=some r)∧Aside0 (kq≤k)∧Aside0 (Kd.R k135 135 w' w.heap.size (fun _=>True) Br J)∧Aside0 (Below w.heap.size w w'))
   case atStart=>exact⟨(D1),(0),fa,H',⟨Nat.le_refl _⟩,⟨rpR B5.o⟩,⟨bl⟩⟩
   case round=>
    clear H';obtain⟨J,D,rfl,HA,B6,Z,HB⟩:=hrel;cases gk with
    |zero=>exact absurd HA.o (by simp[laws_toMoveS.l0])
    |succ k1=>
     have H:=HA.o;clear HA;simp only[laws_toMoveS.l0]at H;by_cases c6:D<(l0.length:Int)
     ·rw[if_pos c6]at H;have B7:=dt c6;clear c6;by_cases c7:0≤D
      ·rw[if_pos c7]at H;have BU:=dt c7;clear c7;replace H:=oB H;obtain⟨⟨AT,AU,AV,AW⟩,B8,H⟩:=H;dsimp only at H;have A8:=aK B8;clear B8;by_cases c9:D<(J.length:Int)
       ·rw[if_pos c9]at H;have BV:=dt c9;clear c9;obtain⟨C3,Bh⟩:=yy (J.set (D:Int).toNat (⟨AT,AU,AV,AW⟩:S135));rw[←Bh]at H;(try rw[obs]at H)
        have CB:=aK Bh;clear Bh;have H':=aK H;clear H;have AF:0≤(D:Int):=dT am;have AG:D<(l0.length:Int):=dT am;obtain⟨BX,Bs,Af,Ag,Ap,Bn⟩:=at_T127 Bp.o D AF AG;cases Bs;replace Af:=cz HB Af;replace Ag:=cz HB Ag;replace Ap:=cz HB Ap;replace Bn:=cz HB Bn;replace AF:=eq_true AF;replace AG:=eq_true AG
        go_wp2_with (first|((with_reducible refine gc 113 ?_);refine goesW Tryz.func113 ?_;(with_reducible refine mo (laws_toMove.calls ((rd_T127 l0 D).f0) ((rd_T127 l0 D).f1) ((rd_T127 l0 D).f2) ((rd_T127 l0 D).f3) AT AU AV AW _ A8.o) ?_);intro A6 hb;replace Z:=rb Z hb;replace HB:=bS HB hb;have AH:0≤(D:Int):=dT am;have AI:(D:Int)<((J.length:Int):Int):=dT am;obtain⟨U,Ay,Az,A_,B9,BY,AA⟩:=Kd.R_form Z.o (by omega);(first|cases Az|(injection Az with ea_ en_ ec_;(first|subst ea_|(injection ea_ with ea_;subst ea_));subst ec_;clear en_));have Al:=aK A_;have BZ:=aK AA;clear A_ B9 AA;obtain⟨C0,AJ,AB,A7,A9⟩:=Kd.R_elem Z.o z135 (D:Int) AH AI;obtain rfl:=k135_openM AB;have Bj:A6.cell? ⟨U,(D:Int).toNat*4,none⟩=some (.int .i64 ((rd_T135 J D).f0)):=A7 0 _ rfl;have Bk:A6.cell? ⟨U,(D:Int).toNat*4+1,none⟩=some (.string ((rd_T135 J D).f1)):=A7 1 _ rfl;have BM:A6.cell? ⟨U,(D:Int).toNat*4+2,none⟩=some (.string ((rd_T135 J D).f2)):=A7 2 _ rfl;have D7:A6.cell? ⟨U,(D:Int).toNat*4+3,none⟩=some (.int .i64 ((rd_T135 J D).f3)):=A7 3 _ rfl;have Bl:A6.frozen? ⟨U,(D:Int).toNat*4,none⟩=false:=A9 0;have Bm:A6.frozen? ⟨U,(D:Int).toNat*4+1,none⟩=false:=A9 1;have BN:A6.frozen? ⟨U,(D:Int).toNat*4+2,none⟩=false:=A9 2;have D8:A6.frozen? ⟨U,(D:Int).toNat*4+3,none⟩=false:=A9 3;clear AJ A7 A9 AB;replace AH:=eq_true AH;replace AI:=eq_true AI;have AC:=aK (show Kd.R k135 135 A6 w.heap.size (fun _=>True) (.slice (some ⟨U,0,none⟩) J.length Ay) J from(rpR Z.o));obtain⟨C1,Am,AD,A1,Aa⟩:=Kd.R_elem AC.o z135 (D:Int) (dT am) (by have h_:(D:Int)<((J.length:Int):Int):=dT am;first|exact h_|(have e_:=(Kd.R_reads' Z.o).1;omega)|simpa using h_);obtain rfl:=k135_openM AD;have An:=Kd.R_seg AC.o (D:Int) (dT am) (by have h_:(D:Int)<((J.length:Int):Int):=dT am;first|exact h_|(have e_:=(Kd.R_reads' Z.o).1;omega)|simpa using h_) (seg:=[.int .i64 AT,.string AU,.string AV,.int .i64 AW]) (j:=0) Am A1 (show 4≤4 from by decide) (x':=(⟨AT,AU,AV,AW⟩:S135)) (k135_mkM _ _ _ (⟨AT,AU,AV,AW⟩:S135)) (fun _ hk=>hk);have Aq:=A1 0 _ rfl;(try simp only[show(k135).sz=4 from rfl,Nat.mul_one,Nat.add_zero]at Aq);have Ar:=Aa 0;(try simp only[show(k135).sz=4 from rfl,Nat.mul_one,Nat.add_zero]at Ar);have As:=A1 1 _ rfl;(try simp only[show(k135).sz=4 from rfl,Nat.mul_one,Nat.add_zero]at As);have At:=Aa 1;(try simp only[show(k135).sz=4 from rfl,Nat.mul_one,Nat.add_zero]at At);have AY:=A1 2 _ rfl;(try simp only[show(k135).sz=4 from rfl,Nat.mul_one,Nat.add_zero]at AY);have AZ:=Aa 2;(try simp only[show(k135).sz=4 from rfl,Nat.mul_one,Nat.add_zero]at AZ);have BO:=A1 3 _ rfl;(try simp only[show(k135).sz=4 from rfl,Nat.mul_one,Nat.add_zero]at BO);have BP:=Aa 3;(try simp only[show(k135).sz=4 from rfl,Nat.mul_one,Nat.add_zero]at BP);clear Am A1 Aa AD)|((with_reducible refine gate_store (t:=135) (p:=21) rfl ?_);refine store_event (t:=135) (p:=21) (v:=?vo_w13) (w1:=((((A6.setCell ⟨U,(D:Int).toNat*4,none⟩ (.int .i64 AT)).setCell ⟨U,(D:Int).toNat*4+1,none⟩ (.string AU)).setCell ⟨U,(D:Int).toNat*4+2,none⟩ (.string AV)).setCell ⟨U,(D:Int).toNat*4+3,none⟩ (.int .i64 AW))) ?hg ?ho ?hn ?hr ?_;(case ho=>rfl);(case hg=>rfl);(case hn=>rfl);(case hr=>first|(go_simp;done)|(go_simp;rfl));intro AK hw;have hg:A6.grownBy AK (some U):=(by rw[hw];exact An.2);have hp_:Kd.R k135 135 AK w.heap.size (fun _=>True) (.slice (some ⟨U,0,none⟩) J.length Ay) C3:=(by rw[hw,CB.o];exact An.1);clear An;replace Z:=aK (hp_);replace HB:=aK ((by rw[hw];exact below_set (below_set (below_set (below_set (HB.o) Al.o) Al.o) Al.o) Al.o:Below w.heap.size w AK));clear hg hw hp_))
        go_roundg k1
        case measure=>have:=B6.o;omega
        case rel=>exact⟨(C3),(wrap64 (D+1)),fa,H',⟨by have:=B6.o;omega⟩,⟨rpR Z.o⟩,⟨bl⟩⟩
       ·exact no c9 H
      ·exact no c7 H
     ·rw[if_neg c6]at H;have B7:=df c6;clear c6;obtain rfl:=oj H;go_wp2
      go_ret
      exact⟨_,fe,rpR Z.o,bl⟩
  ·exact no c3 H
 ·exact no c2 H
def laws_toDisk.f (k:Nat) (X:Int) (Y:Int) (Au:List (S121)) (Av:List (S124)) (Aw:List (S127)):Option (Int×Int×(List (S130))×(List (S133))×(List (S135))):=(laws_toInodeS.f k Au).bind fun AX=>((laws_toLinkS.f k Av).bind fun Ba=>((laws_toMoveS.f k Aw).bind fun Bo=>(some (X,Y,AX,Ba,Bo))))
theorem laws_toDisk.calls (k:Nat) (X:Int) (Y:Int) (Bw:Option Addr) (Bx:Nat) (Au:List (S121)) (By:Option Addr) (Bz:Nat) (Av:List (S124)) (B_:Option Addr) (BA:Nat) (Aw:List (S127)) (r1:Int) (r2:Int) (r3:List (S130)) (r4:List (S133)) (r5:List (S135)) (w:World) (BB:Kd.C k121 w Bw Au.length Au) (BC:Au.length≤Bx) (BD:Kd.C k124 w By Av.length Av) (BE:Av.length≤Bz) (BF:Kd.C k127 w B_ Aw.length Aw) (BG:Aw.length≤BA) (h:laws_toDisk.f k X Y Au Av Aw=some (r1,r2,r3,r4,r5)) :
 Calls Tryz.prog 11 #[.agg #[.int .i64 X,.int .i64 Y,.slice Bw Au.length Bx,.slice By Av.length Bz,.slice B_ Aw.length BA]] w fun e w'=>∃D2 D3 D4:Value,e = .returned (.agg #[.int .i64 r1,.int .i64 r2,D2,D3,D4])∧Kd.R k130 130 w' w.heap.size (fun _=>True) D2 r3∧Kd.R k133 133 w' w.heap.size (fun _=>True) D3 r4∧Kd.R k135 135 w' w.heap.size (fun _=>True) D4 r5∧Below w.heap.size w w':=by
 have Dw:=Tryz.underlying26;have Dx:=Tryz.underlying35;have CC:=aK BB;have CD:=aK BC;clear BB BC;have CE:=aK BD;have CF:=aK BE;clear BD BE;have CG:=aK BF;have CH:=aK BG;clear BF BG;have HB:=aK (Below.refl w.heap.size w);have H:=h;unfold laws_toDisk.f at H;clear h;obtain⟨AX,A2,H⟩:=bd H;obtain⟨Ba,A3,H⟩:=bd H;obtain⟨Bo,A4,H⟩:=bd H;obtain⟨rfl,rfl,rfl,rfl,rfl⟩:=t5 H
 go_enter Tryz.func11,Tryz.ntmps11
 go_wp2_with (first|((with_reducible refine gd 1 ?_);refine boxQ HB ?_;clear HB;intro CI hg w5 A5 Do HB hb;clear hb hg)|((with_reducible refine gd 2 ?_);refine boxQ HB ?_;clear HB;intro BH hg w6 Ab Dp HB hb;have CJ:=nL A5 hg;have CK:=nR A5 hg;replace A5:=bv A5 hb;clear hb hg)|((with_reducible refine gd 3 ?_);refine boxQ HB ?_;clear HB;intro Bi hg w7 Ac Dq HB hb;have CL:=nL A5 hg;have CM:=nR A5 hg;replace A5:=bv A5 hb;have CN:=nL Ab hg;have CO:=nR Ab hg;replace Ab:=bv Ab hb;clear hb hg;have:=cf5 A5;have:=cf5 Ac)|((with_reducible refine gc 50 ?_);refine goesW Tryz.func50 ?_;(with_reducible refine(laws_toInodeS.calls k _ _ Au AX _ ?_ ?_ A2.o).mono ?_);exact Kd.C_below CC.o bl;exact CD.o;rintro e DC ⟨Dy,rfl,BI,hb⟩;refine⟨_,rfl,?_⟩;have Ax:=rl HB BI;replace A5:=aK (blk_below (g:=CI) (o:=.cells #[.int .i64 X,.int .i64 Y,.slice Bw Au.length Bx,.slice By Av.length Bz,.slice B_ Aw.length BA] 26 (0,0)) bkk hb);replace Ab:=aK (blk_below (g:=BH) (o:=.cells #[.int .i64 0,.int .i64 0,.slice none 0 0,.slice none 0 0,.slice none 0 0] 35 (0,0)) bkk hb);replace Ac:=aK (blk_below (g:=Bi) (o:=.cells #[.int .i64 X,.int .i64 Y,.slice none 0 0,.slice none 0 0,.slice none 0 0] 35 (0,0)) bkk hb);replace HB:=bS HB hb;obtain⟨BJ,BK,rfl⟩:=rs Ax;have:=cf5 Ac;have:=cf5 A5)|((with_reducible refine gc 51 ?_);refine goesW Tryz.func51 ?_;(with_reducible refine(laws_toLinkS.calls k _ _ Av Ba _ ?_ ?_ A3.o).mono ?_);exact Kd.C_below CE.o bl;exact CF.o;rintro e DD ⟨Dz,rfl,BI,hb⟩;refine⟨_,rfl,?_⟩;replace Ax:=rB (f1 Ax Ac) hb;have B1:=rl HB BI;replace A5:=bvk A5 hb;replace Ab:=bvk Ab hb;replace Ac:=aK (blk_below (g:=Bi) (o:=.cells #[.int .i64 X,.int .i64 Y,.slice BJ AX.length BK,.slice none 0 0,.slice none 0 0] 35 (0,0)) bkk hb);replace HB:=bS HB hb;obtain⟨C4,C5,rfl⟩:=rs B1;have:=cf5 Ac;have:=cf5 A5)|((with_reducible refine gc 52 ?_);refine goesW Tryz.func52 ?_;(with_reducible refine(laws_toMoveS.calls k _ _ Aw Bo _ ?_ ?_ A4.o).mono ?_);exact Kd.C_below CG.o bl;exact CH.o;rintro e DE ⟨D_,rfl,BI,hb⟩;refine⟨_,rfl,?_⟩;replace Ax:=rB (f1 Ax Ac) hb;replace B1:=rB (f1 B1 Ac) hb;have BL:=rl HB BI;replace A5:=bvk A5 hb;replace Ab:=bvk Ab hb;replace Ac:=aK (blk_below (g:=Bi) (o:=.cells #[.int .i64 X,.int .i64 Y,.slice BJ AX.length BK,.slice C4 Ba.length C5,.slice none 0 0] 35 (0,0)) bkk hb);replace HB:=bS HB hb;obtain⟨D5,D6,rfl⟩:=rs BL;have:=cf5 Ac;have:=cf5 Ab))
 refine bodyPost_ret (results_cell_row rfl _ _ BH 35 #[.int .i64 X,.int .i64 Y,.slice BJ AX.length BK,.slice C4 Ba.length C5,.slice D5 Bo.length D6] (0,0) _ rfl bkk Tryz.underlying35 rfl (by kernel_rfl)) rfl ?_;exact⟨_,_,_,fe,rpR (rM (mB (qb (qb (qb (qb (qb (qa (eB Ax Ac Ab)))))))) (fun _ hk=>trivial)),rpR (rM (mB (qb (qb (qb (qb (qb (qa (eB B1 Ac Ab)))))))) (fun _ hk=>trivial)),rpR (rM (mB (qb (qb (qb (qb (qb (qa (eB BL Ac Ab)))))))) (fun _ hk=>trivial)),bl⟩
end Go.Proofs.YtndbmllnkjngnaaGreat.PDs
