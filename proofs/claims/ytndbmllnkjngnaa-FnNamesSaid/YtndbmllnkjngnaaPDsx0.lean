/- Functions of the program, each with its contract, written by a program out of the translation. -/
import Derived.Test.YtndbmllnkjngnaaProg
import Derived.Below
import Derived.Deep.Draws
import Derived.Deep.AppendLies
import Derived.Maps.AppendAt
import Derived.OwnWalk
import Derived.Laws.BytesArg
import Derived.Laws.MakeOwn
import Derived.Laws.OwnMore
import Derived.Deep.OwnRows
import Derived.Tactics
import Derived.Lib.ConvBytes
import Derived.Laws.Slices
import Derived.WalkKit
import Derived.KernelRfl
import Derived.RowKit3
import Derived.Deep.LoopGhost
import Derived.Deep.QuietTactic
import Derived.BigQuiet
import Derived.WideLaws
import Derived.Deep.DeepCutAuto
import Derived.Deep.CutBlock
import Derived.Deep.RegionHeld3
import Derived.Laws.Rows
import Derived.Lib.AppendStr
import Derived.ArgAppend
import Derived.Laws.IdiomCopy
import Derived.OrdersHeld
import Derived.Laws.BitsLemmas
import Derived.RowKit
import Derived.Lib.SliceRun
import Derived.Laws.Cover1
import Derived.Test.YtndbmllnkjngnaaWWords
import Derived.Test.YtndbmllnkjngnaaWLast
import Derived.Test.YtndbmllnkjngnaaWTab
import Derived.Test.YtndbmllnkjngnaaWFour
import Derived.Test.YtndbmllnkjngnaaWQPut
import Derived.Test.YtndbmllnkjngnaaWApart
import Derived.Test.YtndbmllnkjngnaaWArr
import Derived.Test.YtndbmllnkjngnaaWZeros
import Derived.Test.YtndbmllnkjngnaaWFoot
import Derived.Test.YtndbmllnkjngnaaWKept
import Derived.Test.YtndbmllnkjngnaaWShare
import Derived.Test.YtndbmllnkjngnaaWN
import Derived.Test.YtndbmllnkjngnaaWFootNe
import Derived.Test.YtndbmllnkjngnaaWAt
import Derived.Test.YtndbmllnkjngnaaWEqStruct
import Derived.Test.YtndbmllnkjngnaaWRepsOne
import Derived.Test.YtndbmllnkjngnaaWInv
import Derived.Test.YtndbmllnkjngnaaWInvWords
import Derived.Test.YtndbmllnkjngnaaWGuard
import Derived.Test.YtndbmllnkjngnaaWNEv
import Derived.Test.YtndbmllnkjngnaaWMore
import Derived.Test.YtndbmllnkjngnaaZup
namespace Go.Proofs.Ytndbmllnkjngnaa.PDs
open Go.RowKit Go.Proofs.YtndbmllnkjngnaaW.PrintWords Go.Proofs.YtndbmllnkjngnaaW.PrintLast Go.Proofs.YtndbmllnkjngnaaW.PrintMore Go.Proofs.Ytndbmllnkjngnaa.Zip
attribute [local go_sem] max2_int min2_int max_two min_two max_three min_three max_four min_four
set_option linter.unusedVariables false
set_option linter.unusedSimpArgs false
def errW:Option Int→Value
 |none=>.nilIface
 |some c=>.iface 0 (.int .i64 c)
theorem errW_none:errW none = .nilIface:=rfl
theorem errW_some (c:Int):errW (some c) = .iface 0 (.int .i64 c):=rfl
theorem info3:(Try.prog.info? 3).map (fun i=>(i.zero,i.size,i.bytes))=some (some (.int .i64 0),1,8):=by kernel_rfl
theorem info5:(Try.prog.info? 5).map (fun i=>(i.zero,i.size,i.bytes))=some (some (.int .u8 0),1,1):=by kernel_rfl
theorem info9:(Try.prog.info? 9).map (fun i=>(i.zero,i.size,i.bytes))=some (some (.string ⟨#[]⟩),1,16):=by kernel_rfl
theorem info35:(Try.prog.info? 35).map (fun i=>(i.zero,i.size,i.bytes))=some (some (.agg #[(.int .i64 0),(.string ⟨#[]⟩),(.int .i64 0)]),3,32):=by kernel_rfl
theorem info37:(Try.prog.info? 37).map (fun i=>(i.zero,i.size,i.bytes))=some (some (.agg #[(.string ⟨#[]⟩),(.int .i64 0)]),2,24):=by kernel_rfl
theorem info39:(Try.prog.info? 39).map (fun i=>(i.zero,i.size,i.bytes))=some (some (.agg #[(.int .i64 0),(.string ⟨#[]⟩),(.string ⟨#[]⟩),(.int .i64 0)]),4,48):=by kernel_rfl
structure S35 where
 f0:Int
 f1:ByteArray
 f2:Int
def z35:S35:=⟨(0:Int),(⟨#[]⟩:ByteArray),(0:Int)⟩
def k35:Kd S35:=Kd.iso (Kd.pair (Kd.int .i64) (Kd.pair Kd.string (Kd.int .i64))) (fun x:S35=>(x.f0,x.f1,x.f2))
theorem k35_heap:Kd.Heap k35:=Kd.heap_iso _ (Kd.heap_pair (Kd.heap_int .i64) (Kd.heap_pair Kd.heap_string (Kd.heap_int .i64)))
theorem k35_open {w:World} {x:S35} {cs:List Value} (h:k35.K w x cs):cs = [.int .i64 x.f0,.string x.f1,.int .i64 x.f2]:=by
 obtain⟨_,_,rfl,rfl,⟨_,_,rfl,rfl,rfl⟩⟩:=h;exact rfl
theorem k35_openM {w:World} {base:Nat} {ok:Nat→Prop} {x:S35} {cs:List Value} (h:k35.M w base ok x cs):cs = [.int .i64 x.f0,.string x.f1,.int .i64 x.f2]:=by
 obtain⟨_,_,rfl,rfl,⟨_,_,rfl,rfl,rfl⟩⟩:=h;exact rfl
theorem k35_mk (w:World) (x:S35):k35.K w x [.int .i64 x.f0,.string x.f1,.int .i64 x.f2]:=⟨[.int .i64 x.f0],[.string x.f1,.int .i64 x.f2],rfl,rfl,⟨[.string x.f1],[.int .i64 x.f2],rfl,rfl,rfl⟩⟩
theorem k35_mkM (w:World) (base:Nat) (ok:Nat→Prop) (x:S35):k35.M w base ok x [.int .i64 x.f0,.string x.f1,.int .i64 x.f2]:=⟨[.int .i64 x.f0],[.string x.f1,.int .i64 x.f2],rfl,rfl,⟨[.string x.f1],[.int .i64 x.f2],rfl,rfl,rfl⟩⟩
theorem k35_mkF (W:World) (ok:Nat→Prop) (x:S35):Kd.FK k35 W ok x [.int .i64 x.f0,.string x.f1,.int .i64 x.f2]:=fun W2 _=>k35_mk W2 x
def rd_T35 (xs:List S35) (i:Int):S35:=xs.getD i.toNat z35
theorem at_T35 {w:World} {A:Option Addr} {n:Nat} {xs:List S35} (h:Kd.C k35 w A n xs) (i:Int) (h0:0≤i) (h1:i<n):∃ad,A=some ad∧w.cell? (ad.add (i.toNat*3))=some (.int .i64 (rd_T35 xs i).f0)∧w.cell? ⟨(ad.add (i.toNat*3)).block,(ad.add (i.toNat*3)).off+1,none⟩=some (.string (rd_T35 xs i).f1)∧w.cell? ⟨(ad.add (i.toNat*3)).block,(ad.add (i.toNat*3)).off+2,none⟩=some (.int .i64 (rd_T35 xs i).f2):=by
 obtain⟨ad,c,e,_,hK,Y⟩:=Kd.C_get h z35 i h0 h1;have hc:∀j u,c[j]? = some u→w.cell? (ad.add (i.toNat*3+j))=some u:=Y;obtain rfl:=k35_open hK;exact⟨ad,e,hc 0 _ rfl,by rw[←add_field _ _ 1 (by omega)];exact hc 1 _ rfl,by rw[←add_field _ _ 2 (by omega)];exact hc 2 _ rfl⟩
structure S37 where
 f0:ByteArray
 f1:Int
def z37:S37:=⟨(⟨#[]⟩:ByteArray),(0:Int)⟩
def k37:Kd S37:=Kd.iso (Kd.pair Kd.string (Kd.int .i64)) (fun x:S37=>(x.f0,x.f1))
theorem k37_heap:Kd.Heap k37:=Kd.heap_iso _ (Kd.heap_pair Kd.heap_string (Kd.heap_int .i64))
theorem k37_open {w:World} {x:S37} {cs:List Value} (h:k37.K w x cs):cs = [.string x.f0,.int .i64 x.f1]:=by
 obtain⟨_,_,rfl,rfl,rfl⟩:=h;exact rfl
theorem k37_openM {w:World} {base:Nat} {ok:Nat→Prop} {x:S37} {cs:List Value} (h:k37.M w base ok x cs):cs = [.string x.f0,.int .i64 x.f1]:=by
 obtain⟨_,_,rfl,rfl,rfl⟩:=h;exact rfl
theorem k37_mk (w:World) (x:S37):k37.K w x [.string x.f0,.int .i64 x.f1]:=⟨[.string x.f0],[.int .i64 x.f1],rfl,rfl,rfl⟩
theorem k37_mkM (w:World) (base:Nat) (ok:Nat→Prop) (x:S37):k37.M w base ok x [.string x.f0,.int .i64 x.f1]:=⟨[.string x.f0],[.int .i64 x.f1],rfl,rfl,rfl⟩
theorem k37_mkF (W:World) (ok:Nat→Prop) (x:S37):Kd.FK k37 W ok x [.string x.f0,.int .i64 x.f1]:=fun W2 _=>k37_mk W2 x
def rd_T37 (xs:List S37) (i:Int):S37:=xs.getD i.toNat z37
theorem at_T37 {w:World} {A:Option Addr} {n:Nat} {xs:List S37} (h:Kd.C k37 w A n xs) (i:Int) (h0:0≤i) (h1:i<n):∃ad,A=some ad∧w.cell? (ad.add (i.toNat*2))=some (.string (rd_T37 xs i).f0)∧w.cell? ⟨(ad.add (i.toNat*2)).block,(ad.add (i.toNat*2)).off+1,none⟩=some (.int .i64 (rd_T37 xs i).f1):=by
 obtain⟨ad,c,e,_,hK,Y⟩:=Kd.C_get h z37 i h0 h1;have hc:∀j u,c[j]? = some u→w.cell? (ad.add (i.toNat*2+j))=some u:=Y;obtain rfl:=k37_open hK;exact⟨ad,e,hc 0 _ rfl,by rw[←add_field _ _ 1 (by omega)];exact hc 1 _ rfl⟩
structure S39 where
 f0:Int
 f1:ByteArray
 f2:ByteArray
 f3:Int
def z39:S39:=⟨(0:Int),(⟨#[]⟩:ByteArray),(⟨#[]⟩:ByteArray),(0:Int)⟩
def k39:Kd S39:=Kd.iso (Kd.pair (Kd.int .i64) (Kd.pair Kd.string (Kd.pair Kd.string (Kd.int .i64)))) (fun x:S39=>(x.f0,x.f1,x.f2,x.f3))
theorem k39_heap:Kd.Heap k39:=Kd.heap_iso _ (Kd.heap_pair (Kd.heap_int .i64) (Kd.heap_pair Kd.heap_string (Kd.heap_pair Kd.heap_string (Kd.heap_int .i64))))
theorem k39_open {w:World} {x:S39} {cs:List Value} (h:k39.K w x cs):cs = [.int .i64 x.f0,.string x.f1,.string x.f2,.int .i64 x.f3]:=by
 obtain⟨_,_,rfl,rfl,⟨_,_,rfl,rfl,⟨_,_,rfl,rfl,rfl⟩⟩⟩:=h;exact rfl
theorem k39_openM {w:World} {base:Nat} {ok:Nat→Prop} {x:S39} {cs:List Value} (h:k39.M w base ok x cs):cs = [.int .i64 x.f0,.string x.f1,.string x.f2,.int .i64 x.f3]:=by
 obtain⟨_,_,rfl,rfl,⟨_,_,rfl,rfl,⟨_,_,rfl,rfl,rfl⟩⟩⟩:=h;exact rfl
theorem k39_mk (w:World) (x:S39):k39.K w x [.int .i64 x.f0,.string x.f1,.string x.f2,.int .i64 x.f3]:=⟨[.int .i64 x.f0],[.string x.f1,.string x.f2,.int .i64 x.f3],rfl,rfl,⟨[.string x.f1],[.string x.f2,.int .i64 x.f3],rfl,rfl,⟨[.string x.f2],[.int .i64 x.f3],rfl,rfl,rfl⟩⟩⟩
theorem k39_mkM (w:World) (base:Nat) (ok:Nat→Prop) (x:S39):k39.M w base ok x [.int .i64 x.f0,.string x.f1,.string x.f2,.int .i64 x.f3]:=⟨[.int .i64 x.f0],[.string x.f1,.string x.f2,.int .i64 x.f3],rfl,rfl,⟨[.string x.f1],[.string x.f2,.int .i64 x.f3],rfl,rfl,⟨[.string x.f2],[.int .i64 x.f3],rfl,rfl,rfl⟩⟩⟩
theorem k39_mkF (W:World) (ok:Nat→Prop) (x:S39):Kd.FK k39 W ok x [.int .i64 x.f0,.string x.f1,.string x.f2,.int .i64 x.f3]:=fun W2 _=>k39_mk W2 x
def rd_T39 (xs:List S39) (i:Int):S39:=xs.getD i.toNat z39
theorem at_T39 {w:World} {A:Option Addr} {n:Nat} {xs:List S39} (h:Kd.C k39 w A n xs) (i:Int) (h0:0≤i) (h1:i<n):∃ad,A=some ad∧w.cell? (ad.add (i.toNat*4))=some (.int .i64 (rd_T39 xs i).f0)∧w.cell? ⟨(ad.add (i.toNat*4)).block,(ad.add (i.toNat*4)).off+1,none⟩=some (.string (rd_T39 xs i).f1)∧w.cell? ⟨(ad.add (i.toNat*4)).block,(ad.add (i.toNat*4)).off+2,none⟩=some (.string (rd_T39 xs i).f2)∧w.cell? ⟨(ad.add (i.toNat*4)).block,(ad.add (i.toNat*4)).off+3,none⟩=some (.int .i64 (rd_T39 xs i).f3):=by
 obtain⟨ad,c,e,_,hK,Y⟩:=Kd.C_get h z39 i h0 h1;have hc:∀j u,c[j]? = some u→w.cell? (ad.add (i.toNat*4+j))=some u:=Y;obtain rfl:=k39_open hK;exact⟨ad,e,hc 0 _ rfl,by rw[←add_field _ _ 1 (by omega)];exact hc 1 _ rfl,by rw[←add_field _ _ 2 (by omega)];exact hc 2 _ rfl,by rw[←add_field _ _ 3 (by omega)];exact hc 3 _ rfl⟩
def IsS86 (D W:World) (g:Nat) (f0:List Int) (f1:Int) (f2:Int):Prop:=∃U X,W.heap[g]? = some (.cells #[.slice U f0.length X,.int .i64 f1,.int .i64 f2] 86 (0,0))∧D.heap.size≤g∧Kd.C (Kd.int .u8) D U f0.length f0
theorem IsS86.grown {D W:World} {g:Nat} {f0:List Int} {f1:Int} {f2:Int} {W1:World} {row:Option Nat} (h:IsS86 D W g f0 f1 f2) (hw:W.grownBy W1 row) (hne:some g≠row):IsS86 D W1 g f0 f1 f2:=by
 obtain⟨U,X,hb,hg,J⟩:=h;exact⟨U,X,blk_grown hb hw hne,hg,J⟩
theorem IsS86.own_neN {D W:World} {g:Nat} {f0:List Int} {f1:Int} {f2:Int} {α:Type} {d:Kd α} {e:Nat} {base:Nat} {ok:Nat→Prop} {v:Value} {xs:List α} (h:IsS86 D W g f0 f1 f2) (ho:Kd.N d e W base ok v xs) (ht:e≠86):some g≠v.ownBlock:=by
 obtain⟨U,X,hb,hg,J⟩:=h;exact Kd.N_ne ho hb ht
theorem IsS86.fresh {D W:World} {g:Nat} {f0:List Int} {f1:Int} {f2:Int} (h:IsS86 D W g f0 f1 f2):∀k,W.heap.size≤k→k≠g:=by
 obtain⟨U,X,hb,hg,J⟩:=h;exact Kd.freshB hb
theorem IsS86.kept {D W:World} {g:Nat} {f0:List Int} {f1:Int} {f2:Int} {W1:World} {S:Nat→Prop} (h:IsS86 D W g f0 f1 f2) (hk:Kept W W1 S) (hne:¬S g):IsS86 D W1 g f0 f1 f2:=by
 obtain⟨U,X,hb,hg,J⟩:=h;exact⟨U,X,blk_kept hb hk hne,hg,J⟩
theorem IsS86.below {D W:World} {g:Nat} {f0:List Int} {f1:Int} {f2:Int} {W1:World} (h:IsS86 D W g f0 f1 f2) (hw:Below W.heap.size W W1):IsS86 D W1 g f0 f1 f2:=h.grown (grown_of_below hw none) (by simp)
theorem IsS86.alloc {D W:World} {g:Nat} {f0:List Int} {f1:Int} {f2:Int} (h:IsS86 D W g f0 f1 f2) (o:Obj):IsS86 D (W.alloc o) g f0 f1 f2:=h.below (below_alloc (Below.refl _ _) o)
theorem IsS86.drewN {D W:World} {g:Nat} {f0:List Int} {f1:Int} {f2:Int} (h:IsS86 D W g f0 f1 f2) (m:Nat):IsS86 D (W.drewN m) g f0 f1 f2:=h
theorem IsS86.drew {D W:World} {g:Nat} {f0:List Int} {f1:Int} {f2:Int} (h:IsS86 D W g f0 f1 f2):IsS86 D W.drew g f0 f1 f2:=h
theorem IsS86.at_ {D W:World} {g:Nat} {f0:List Int} {f1:Int} {f2:Int} {w':World} {m:Nat} (hq:W.drewN m=w') (h:IsS86 D W g f0 f1 f2):IsS86 D w' g f0 f1 f2:=by subst hq;exact IsS86.drewN h m
theorem IsS86.apart {D W:World} {g:Nat} {f0:List Int} {f1:Int} {f2:Int} {α:Type} {d:Kd α} {e:Nat} {base:Nat} {ok:Nat→Prop} {v:Value} {xs:List α} (h:IsS86 D W g f0 f1 f2) (ho:d.R e W base ok v xs) (ht:∀q,q∈e::d.E→q≠86):d.R e W base (fun k=>ok k∧k≠g) v xs:=by
 obtain⟨U,X,hb,hg,J⟩:=h;exact Kd.R_types ho hb ht
theorem IsS86.own_ne {D W:World} {g:Nat} {f0:List Int} {f1:Int} {f2:Int} {α:Type} {d:Kd α} {e:Nat} {base:Nat} {ok:Nat→Prop} {v:Value} {xs:List α} (h:IsS86 D W g f0 f1 f2) (ho:d.R e W base ok v xs) (ht:e≠86):some g≠v.ownBlock:=by
 obtain⟨U,X,hb,hg,J⟩:=h;exact Kd.R_ne ho hb ht
theorem IsS86.apartQ {D W:World} {g:Nat} {f0:List Int} {f1:Int} {f2:Int} {α:Type} {d:Kd α} {e:Nat} {base:Nat} {ok:Nat→Prop} {v:Value} {xs:List α} (h:IsS86 D W g f0 f1 f2) (ho:d.Q e W base ok v xs) (ht:∀q,q∈e::d.E→q≠86):d.Q e W base (fun k=>ok k∧k≠g) v xs:=by
 obtain⟨U,X,hb,hg,J⟩:=h;exact Kd.Q_types ho hb ht
theorem IsS86.own_neQ {D W:World} {g:Nat} {f0:List Int} {f1:Int} {f2:Int} {α:Type} {d:Kd α} {e:Nat} {base:Nat} {ok:Nat→Prop} {v:Value} {xs:List α} (h:IsS86 D W g f0 f1 f2) (ho:d.Q e W base ok v xs) (ht:e≠86):some g≠v.ownBlock:=by
 obtain⟨U,X,hb,hg,J⟩:=h;exact Kd.Q_ne ho hb ht
theorem IsS86.apartS {D W:World} {g:Nat} {f0:List Int} {f1:Int} {f2:Int} {α:Type} {d:Kd α} {e:Nat} {base:Nat} {ok:Nat→Prop} {v:Value} {xs:List α} (h:IsS86 D W g f0 f1 f2) (ho:d.S e W base ok v xs) (ht:∀q,q∈e::d.E→q≠86):d.S e W base (fun k=>ok k∧k≠g) v xs:=by
 obtain⟨U,X,hb,hg,J⟩:=h;exact Kd.S_types ho hb ht
theorem IsS86.own_neS {D W:World} {g:Nat} {f0:List Int} {f1:Int} {f2:Int} {α:Type} {d:Kd α} {e:Nat} {base:Nat} {ok:Nat→Prop} {v:Value} {xs:List α} (h:IsS86 D W g f0 f1 f2) (ho:d.S e W base ok v xs) (ht:e≠86):some g≠v.ownBlock:=by
 obtain⟨U,X,hb,hg,J⟩:=h;exact Kd.S_ne ho hb ht
theorem IsS86.lt {D W:World} {g:Nat} {f0:List Int} {f1:Int} {f2:Int} (h:IsS86 D W g f0 f1 f2):g<W.heap.size:=by
 obtain⟨U,X,hb,hg,J⟩:=h;exact blk_lt hb
theorem IsS86.ge {D W:World} {g:Nat} {f0:List Int} {f1:Int} {f2:Int} (h:IsS86 D W g f0 f1 f2):D.heap.size≤g:=by
 obtain⟨U,X,hb,hg,J⟩:=h;exact hg
theorem IsS86.ne_blk {D W:World} {g:Nat} {f0:List Int} {f1:Int} {f2:Int} {a:Nat} {cs:Array Value} {t:TypeId} {fr:Nat×Nat} (h:IsS86 D W g f0 f1 f2) (Z:W.heap[a]? = some (.cells cs t fr)) (ht:t≠86):g≠a:=by
 obtain⟨U,X,hb,hg,J⟩:=h;rintro rfl;rw[hb]at Z;injection Z with Z
 injection Z with _ A1
 exact ht A1.symm
theorem IsS86.far {D W:World} {g:Nat} {f0:List Int} {f1:Int} {f2:Int} {p:Addr} (h:IsS86 D W g f0 f1 f2) (hne:g≠p.block) (u:Value):IsS86 D (W.setCell p u) g f0 f1 f2:=by
 obtain⟨U,X,hb,hg,J⟩:=h;exact⟨U,X,blk_far hb hne u,hg,J⟩
theorem cellS86_0 {W:World} {g:Nat} {U:Option Addr} {X:Nat} {f0:List Int} {f1:Int} {f2:Int} (h:W.heap[g]? = some (.cells #[.slice U f0.length X,.int .i64 f1,.int .i64 f2] 86 (0,0))):W.cell? ⟨g,0,none⟩=some (.slice U f0.length X):=(blk_cell h 0).trans rfl
theorem cellS86_1 {W:World} {g:Nat} {U:Option Addr} {X:Nat} {f0:List Int} {f1:Int} {f2:Int} (h:W.heap[g]? = some (.cells #[.slice U f0.length X,.int .i64 f1,.int .i64 f2] 86 (0,0))):W.cell? ⟨g,1,none⟩=some (.int .i64 f1):=(blk_cell h 1).trans rfl
theorem IsS86.set_1 {D W:World} {g:Nat} {f0:List Int} {f1:Int} {f2:Int} (h:IsS86 D W g f0 f1 f2) (x:Int):IsS86 D (W.setCell ⟨g,1,none⟩ (.int .i64 x)) g f0 x f2:=by
 obtain⟨U,X,hb,hg,J⟩:=h;exact⟨U,X,by simpa using blk_set hb 1 (.int .i64 x),hg,J⟩
theorem cellS86_2 {W:World} {g:Nat} {U:Option Addr} {X:Nat} {f0:List Int} {f1:Int} {f2:Int} (h:W.heap[g]? = some (.cells #[.slice U f0.length X,.int .i64 f1,.int .i64 f2] 86 (0,0))):W.cell? ⟨g,2,none⟩=some (.int .i64 f2):=(blk_cell h 2).trans rfl
theorem IsS86.set_2 {D W:World} {g:Nat} {f0:List Int} {f1:Int} {f2:Int} (h:IsS86 D W g f0 f1 f2) (x:Int):IsS86 D (W.setCell ⟨g,2,none⟩ (.int .i64 x)) g f0 f1 x:=by
 obtain⟨U,X,hb,hg,J⟩:=h;exact⟨U,X,by simpa using blk_set hb 2 (.int .i64 x),hg,J⟩
theorem IsS86.new (D W:World) (U:Option Addr) (X:Nat) (f0:List Int) (f1:Int) (f2:Int) (hB:Below D.heap.size D W) (J:Kd.C (Kd.int .u8) D U f0.length f0):IsS86 D (W.alloc (.cells #[.slice U f0.length X,.int .i64 f1,.int .i64 f2] 86)) W.heap.size f0 f1 f2:=⟨U,X,by simpa using heap_alloc_new W _,hB.size,J⟩
theorem bi86_0 {p:Prop} (h:p:=by repeat (first|(with_reducible first|exact HB.o|apply below_alloc|apply pw_below_drewN|apply below_drew1|refine below_set ?_ (IsS86.ge HI0.o)|refine below_set ?_ (Aside0.out (by assumption)))|exact HB.o)):p:=h
theorem bi86_732 {p:Prop} (h:p:=by repeat (first|(with_reducible first|exact HB.o|apply below_alloc|apply pw_below_drewN|apply below_drew1|refine below_set ?_ (IsS86.ge HI732.o)|refine below_set ?_ (Aside0.out (by assumption)))|exact HB.o)):p:=h
theorem bi86_875 {p:Prop} (h:p:=by repeat (first|(with_reducible first|exact HB.o|apply below_alloc|apply pw_below_drewN|apply below_drew1|refine below_set ?_ (IsS86.ge HI875.o)|refine below_set ?_ (Aside0.out (by assumption)))|exact HB.o)):p:=h
theorem bi86_877 {p:Prop} (h:p:=by repeat (first|(with_reducible first|exact HB.o|apply below_alloc|apply pw_below_drewN|apply below_drew1|refine below_set ?_ (IsS86.ge HI877.o)|refine below_set ?_ (Aside0.out (by assumption)))|exact HB.o)):p:=h
theorem bi86_952 {p:Prop} (h:p:=by repeat (first|(with_reducible first|exact HB.o|apply below_alloc|apply pw_below_drewN|apply below_drew1|refine below_set ?_ (IsS86.ge HI952.o)|refine below_set ?_ (Aside0.out (by assumption)))|exact HB.o)):p:=h
theorem is86_0 {p:Prop} (h:p:=by repeat (first|(with_reducible first|exact HI0.o|apply IsS86.alloc|apply IsS86.drewN|apply IsS86.drew|apply IsS86.set_1|apply IsS86.set_2|refine IsS86.far ?_ (Aside0.out (by assumption)) _)|exact HI0.o)):p:=h
theorem nelis86_0 {D W:World} {g:Nat} {f0:List Int} {f1:Int} {f2:Int} {g_:Nat} (hg:g_=W.heap.size) (h:IsS86 D W g f0 f1 f2:=by repeat (first|(with_reducible first|exact HI0.o|apply IsS86.alloc|apply IsS86.drewN|apply IsS86.drew|apply IsS86.set_1|apply IsS86.set_2|refine IsS86.far ?_ (Aside0.out (by assumption)) _)|exact HI0.o)):Aside0 (g≠g_):=⟨by rw[hg];exact Nat.ne_of_lt (IsS86.lt h)⟩
theorem neris86_0 {D W:World} {g:Nat} {f0:List Int} {f1:Int} {f2:Int} {g_:Nat} (hg:g_=W.heap.size) (h:IsS86 D W g f0 f1 f2:=by repeat (first|(with_reducible first|exact HI0.o|apply IsS86.alloc|apply IsS86.drewN|apply IsS86.drew|apply IsS86.set_1|apply IsS86.set_2|refine IsS86.far ?_ (Aside0.out (by assumption)) _)|exact HI0.o)):Aside0 (g_≠g):=⟨by rw[hg];exact Nat.ne_of_gt (IsS86.lt h)⟩
theorem is86_732 {p:Prop} (h:p:=by repeat (first|(with_reducible first|exact HI732.o|apply IsS86.alloc|apply IsS86.drewN|apply IsS86.drew|apply IsS86.set_1|apply IsS86.set_2|refine IsS86.far ?_ (Aside0.out (by assumption)) _)|exact HI732.o)):p:=h
theorem nelis86_732 {D W:World} {g:Nat} {f0:List Int} {f1:Int} {f2:Int} {g_:Nat} (hg:g_=W.heap.size) (h:IsS86 D W g f0 f1 f2:=by repeat (first|(with_reducible first|exact HI732.o|apply IsS86.alloc|apply IsS86.drewN|apply IsS86.drew|apply IsS86.set_1|apply IsS86.set_2|refine IsS86.far ?_ (Aside0.out (by assumption)) _)|exact HI732.o)):Aside0 (g≠g_):=⟨by rw[hg];exact Nat.ne_of_lt (IsS86.lt h)⟩
theorem neris86_732 {D W:World} {g:Nat} {f0:List Int} {f1:Int} {f2:Int} {g_:Nat} (hg:g_=W.heap.size) (h:IsS86 D W g f0 f1 f2:=by repeat (first|(with_reducible first|exact HI732.o|apply IsS86.alloc|apply IsS86.drewN|apply IsS86.drew|apply IsS86.set_1|apply IsS86.set_2|refine IsS86.far ?_ (Aside0.out (by assumption)) _)|exact HI732.o)):Aside0 (g_≠g):=⟨by rw[hg];exact Nat.ne_of_gt (IsS86.lt h)⟩
theorem is86_875 {p:Prop} (h:p:=by repeat (first|(with_reducible first|exact HI875.o|apply IsS86.alloc|apply IsS86.drewN|apply IsS86.drew|apply IsS86.set_1|apply IsS86.set_2|refine IsS86.far ?_ (Aside0.out (by assumption)) _)|exact HI875.o)):p:=h
theorem nelis86_875 {D W:World} {g:Nat} {f0:List Int} {f1:Int} {f2:Int} {g_:Nat} (hg:g_=W.heap.size) (h:IsS86 D W g f0 f1 f2:=by repeat (first|(with_reducible first|exact HI875.o|apply IsS86.alloc|apply IsS86.drewN|apply IsS86.drew|apply IsS86.set_1|apply IsS86.set_2|refine IsS86.far ?_ (Aside0.out (by assumption)) _)|exact HI875.o)):Aside0 (g≠g_):=⟨by rw[hg];exact Nat.ne_of_lt (IsS86.lt h)⟩
theorem neris86_875 {D W:World} {g:Nat} {f0:List Int} {f1:Int} {f2:Int} {g_:Nat} (hg:g_=W.heap.size) (h:IsS86 D W g f0 f1 f2:=by repeat (first|(with_reducible first|exact HI875.o|apply IsS86.alloc|apply IsS86.drewN|apply IsS86.drew|apply IsS86.set_1|apply IsS86.set_2|refine IsS86.far ?_ (Aside0.out (by assumption)) _)|exact HI875.o)):Aside0 (g_≠g):=⟨by rw[hg];exact Nat.ne_of_gt (IsS86.lt h)⟩
theorem is86_877 {p:Prop} (h:p:=by repeat (first|(with_reducible first|exact HI877.o|apply IsS86.alloc|apply IsS86.drewN|apply IsS86.drew|apply IsS86.set_1|apply IsS86.set_2|refine IsS86.far ?_ (Aside0.out (by assumption)) _)|exact HI877.o)):p:=h
theorem nelis86_877 {D W:World} {g:Nat} {f0:List Int} {f1:Int} {f2:Int} {g_:Nat} (hg:g_=W.heap.size) (h:IsS86 D W g f0 f1 f2:=by repeat (first|(with_reducible first|exact HI877.o|apply IsS86.alloc|apply IsS86.drewN|apply IsS86.drew|apply IsS86.set_1|apply IsS86.set_2|refine IsS86.far ?_ (Aside0.out (by assumption)) _)|exact HI877.o)):Aside0 (g≠g_):=⟨by rw[hg];exact Nat.ne_of_lt (IsS86.lt h)⟩
theorem neris86_877 {D W:World} {g:Nat} {f0:List Int} {f1:Int} {f2:Int} {g_:Nat} (hg:g_=W.heap.size) (h:IsS86 D W g f0 f1 f2:=by repeat (first|(with_reducible first|exact HI877.o|apply IsS86.alloc|apply IsS86.drewN|apply IsS86.drew|apply IsS86.set_1|apply IsS86.set_2|refine IsS86.far ?_ (Aside0.out (by assumption)) _)|exact HI877.o)):Aside0 (g_≠g):=⟨by rw[hg];exact Nat.ne_of_gt (IsS86.lt h)⟩
theorem is86_952 {p:Prop} (h:p:=by repeat (first|(with_reducible first|exact HI952.o|apply IsS86.alloc|apply IsS86.drewN|apply IsS86.drew|apply IsS86.set_1|apply IsS86.set_2|refine IsS86.far ?_ (Aside0.out (by assumption)) _)|exact HI952.o)):p:=h
theorem nelis86_952 {D W:World} {g:Nat} {f0:List Int} {f1:Int} {f2:Int} {g_:Nat} (hg:g_=W.heap.size) (h:IsS86 D W g f0 f1 f2:=by repeat (first|(with_reducible first|exact HI952.o|apply IsS86.alloc|apply IsS86.drewN|apply IsS86.drew|apply IsS86.set_1|apply IsS86.set_2|refine IsS86.far ?_ (Aside0.out (by assumption)) _)|exact HI952.o)):Aside0 (g≠g_):=⟨by rw[hg];exact Nat.ne_of_lt (IsS86.lt h)⟩
theorem neris86_952 {D W:World} {g:Nat} {f0:List Int} {f1:Int} {f2:Int} {g_:Nat} (hg:g_=W.heap.size) (h:IsS86 D W g f0 f1 f2:=by repeat (first|(with_reducible first|exact HI952.o|apply IsS86.alloc|apply IsS86.drewN|apply IsS86.drew|apply IsS86.set_1|apply IsS86.set_2|refine IsS86.far ?_ (Aside0.out (by assumption)) _)|exact HI952.o)):Aside0 (g_≠g):=⟨by rw[hg];exact Nat.ne_of_gt (IsS86.lt h)⟩
end Go.Proofs.Ytndbmllnkjngnaa.PDs
