/- Contracts of settle and l4Settled, and of Go's library functions at inodes: made by hand. -/
import Derived.Test.YtndbmllnkjngnaaPDsx0
import Derived.Test.YtndbmllnkjngnaaPDsx2
import Derived.Test.YtndbmllnkjngnaaPDsxH
import Derived.Test.YtndbmllnkjngnaaZup
import Derived.Lib.SliceRun
import Derived.Outline
namespace Go.Proofs.Ytndbmllnkjngnaa.PDs
open Go.RowKit Go.Proofs.YtndbmllnkjngnaaW.PrintWords Go.Proofs.YtndbmllnkjngnaaW.PrintLast Go.Proofs.YtndbmllnkjngnaaW.PrintMore Go.Proofs.Ytndbmllnkjngnaa.Zip Go.Proofs.Ytndbmllnkjngnaa.Zip
set_option linter.unusedVariables false
set_option linter.unusedSimpArgs false
set_option maxHeartbeats 8000000
set_option maxRecDepth 100000
theorem settle_2 (x0:ByteArray) (x1:Int) (a:Int) (b:ByteArray) (c:Int) (g:Nat) (w:World) (hb:w.heap[g]? = some (.cells #[.int .i64 a,.string b,.int .i64 c] 35 (0,0))) :
 Calls Try.prog 76 #[.agg #[.string x0,.int .i64 x1],.pointer (some ⟨g,0,none⟩)] w fun e w'=>e = .returned (.bool (x1==a))∧Below w.heap.size w w':=by
 have AZ:=Try.underlying37;have An:=Try.underlying35;have D:=aK hb;have HB:=aK (Below.refl w.heap.size w);clear hb
 go_enter Try.func76,Try.ntmps76
 go_wp2_with (first|((with_reducible refine gD 2 rfl ?_);refine boxW ?_;intro gb hg w1 hbox hb;replace D:=bv D hb;have J:=aK hbox;replace HB:=bS HB hb;clear hb hbox hg;obtain⟨A7,Ao,AE,AF,B_,BA⟩:=cf3 D;obtain⟨Aa,Ab,Ac,Ad⟩:=cf2 J))
 go_ret
 exact⟨fe,bl⟩
def ixi (a:Int):List (S37)→Int→Int
 | [],_=>-1
 |x::r,i=>if(x.f1==a)=true then i else ixi a r (i+1)
theorem ixi_drop (a:Int) (l:List (S37)) (i:Int) (h0:0≤i) (h1:i<(l.length:Int)):ixi a (l.drop i.toNat) i=if((rd_T37 l i).f1==a)=true then i else ixi a (l.drop (i+1).toNat) (i+1):=by
 have hlt:i.toNat<l.length:=by omega
 rw[List.drop_eq_getElem_cons hlt,show(i+1).toNat=i.toNat+1 by omega];have:rd_T37 l i=l[i.toNat]:=by unfold rd_T37;rw[List.getD_eq_getElem?_getD,List.getElem?_eq_getElem hlt];rfl
 rw[this];rfl
theorem ixi_any (a:Int):∀(l:List (S37)) (i:Int),0≤i→(decide (ixi a l i≥0))=l.any (fun x=>x.f1==a)
 | [],i,h=>by simp[ixi]
 |x::r,i,h=>by
  by_cases c:(x.f1==a)=true
  ·simp[ixi,c,h]
  ·have c':(x.f1==a)=false:=by simpa using c
   have:=ixi_any a r (i+1) (by omega)
   simp only[ixi,c',List.any_cons,Bool.false_or];exact this
theorem indexLink2 (A0:Option Addr) (c0:Nat) (l0:List (S37)) (a:Int) (b:ByteArray) (c_:Int) (g:Nat) (w:World) (Ae:Kd.C k37 w A0 l0.length l0) (A7:l0.length≤c0) (hb:w.heap[g]? = some (.cells #[.int .i64 a,.string b,.int .i64 c_] 35 (0,0))) :
 Calls Try.prog 90 #[.slice A0 l0.length c0,.func (.func 76) #[] #[.pointer (some ⟨g,0,none⟩)]] w fun e w'=>e = .returned (.int .i64 (ixi a l0 0))∧Below w.heap.size w w':=by
 have AZ:=Try.underlying37;have eg:=fun(args:Array Value) (w:World)=>enters_ (P:=Try.prog) Try.func76 (by kernel_rfl) rfl args w
 have hlen:=Ae.2.1;have HL:=aK hlen;have Aq:=aK Ae;have Ak:=aK A7;have D:=aK hb;have HB:=aK (Below.refl w.heap.size w)
 obtain⟨r,hr⟩:∃r,ixi a l0 0=r:=⟨_,rfl⟩
 rw[hr];have H':=aK (show ixi a (l0.drop (0:Int).toNat) 0=r from hr);clear Ae A7 hb hlen hr
 go_enter Try.func90,Try.ntmps90
 go_wp2
 go_loopg [8] l0.length (fun kq v8 w'=>∃x:Int,v8 = .int .i64 x∧Aside0 (0≤x∧x+kq=l0.length)∧Aside0 (ixi a (l0.drop x.toNat) x=r)∧Aside0 (w'.heap[g]? = some (.cells #[.int .i64 a,.string b,.int .i64 c_] 35 (0,0)))∧Aside0 (Below w.heap.size w w'))
 case atStart=>exact⟨0,fa,⟨by omega,by omega⟩,H',D,HB⟩
 case round=>
  clear H';obtain⟨x,rfl,HX,H,D,HB⟩:=hrel;have hx:=HX.o;by_cases c:x<(l0.length:Int)
  ·have cb:decide (x<(l0.length:Int))=true:=dt c;have hstep:=ixi_drop a l0 x hx.1 c;rw[H.o]at hstep;obtain⟨ad,e,A8,A9⟩:=at_T37 Aq.o x hx.1 c
   cases e
   replace A8:=cz HB A8;replace A9:=cz HB A9;have p1:(0≤x)=True:=eq_true hx.1;have p2:(x<(l0.length:Int))=True:=eq_true c;have hw:wrap64 (x+1)=x+1:=by have:=HL.o;unfold wrap64;omega
   have HW:=aK hw;clear hw;by_cases c2:((rd_T37 l0 x).f1==a)=true
   ·rw[if_pos c2]at hstep;have HS:=aK hstep;clear hstep hx c
    go_wp2_with (first|(go_at_call 76;(with_reducible refine(settle_2 _ _ a b c_ g _ (bk)).mono ?_);rintro e w' ⟨rfl,hb⟩;replace HB:=bS HB hb;clear hb))
    go_ret
    exact⟨by first|(rw[HS.o];done)|(rw[HS.o];rfl),bl⟩
   ·rw[if_neg c2]at hstep;have Ap:((rd_T37 l0 x).f1==a)=false:=by simpa using c2
    have HS:=aK hstep;have U:=aK (And.intro hx.1 c);clear hstep hx c c2
    go_wp2_with (first|(go_at_call 76;(with_reducible refine(settle_2 _ _ a b c_ g _ (bk)).mono ?_);rintro e w' ⟨rfl,hb⟩;replace D:=bv D hb;replace HB:=bS HB hb;clear hb))
    go_roundg (gk-1)
    case measure=>have:=HX.o;have:=U.o;omega
    case rel=>exact⟨wrap64 (x+1),fa,⟨by rw[HW.o];have:=U.o;omega,by rw[HW.o];have:=HX.o;have:=U.o;omega⟩,⟨by rw[HW.o];exact HS.out.symm⟩,⟨bk⟩,⟨bl⟩⟩
  ·have cb:decide (x<(l0.length:Int))=false:=df c;have hd:l0.drop x.toNat = []:=List.drop_of_length_le (by omega);have HS:=aK (show r = -1 by rw[←H.o,hd];rfl);clear hx c hd
   go_wp2
   go_ret
   exact⟨by first|(rw[HS.o];done)|(rw[HS.o];rfl),bl⟩
theorem containsLink (A0:Option Addr) (c0:Nat) (l0:List (S37)) (a:Int) (b:ByteArray) (c_:Int) (g:Nat) (w:World) (Ae:Kd.C k37 w A0 l0.length l0) (A7:l0.length≤c0) (hb:w.heap[g]? = some (.cells #[.int .i64 a,.string b,.int .i64 c_] 35 (0,0))) :
 Calls Try.prog 75 #[.slice A0 l0.length c0,.func (.func 76) #[] #[.pointer (some ⟨g,0,none⟩)]] w fun e w'=>e = .returned (.bool (l0.any (fun x=>x.f1==a)))∧Below w.heap.size w w':=by
 have Aq:=aK Ae;have Ak:=aK A7;have D:=aK hb;have HB:=aK (Below.refl w.heap.size w);have hA:=ixi_any a l0 0 (by omega)
 obtain⟨r,hr⟩:∃r,l0.any (fun x=>x.f1==a)=r:=⟨_,rfl⟩
 obtain⟨q,hq⟩:∃q,ixi a l0 0=q:=⟨_,rfl⟩
 rw[hr]at hA ⊢;rw[hq]at hA;have HQ:=aK hq;have hA':decide (0≤q)=r:=hA;clear Ae A7 hb hr hq hA
 go_enter Try.func75,Try.ntmps75
 go_wp2_with (first|(go_at_call 90;(with_reducible refine(indexLink2 A0 c0 l0 a b c_ g _ (Kd.C_below Aq.o bl) Ak.o (bk)).mono ?_);rintro e w' ⟨rfl,hb⟩;rw[HQ.o];replace HB:=bS HB hb;clear hb))
 go_ret
 exact⟨by first|exact fe|rfl|simp,bl⟩
theorem settle_1 (a:Int) (b:ByteArray) (c_:Int) (Y:Option Addr) (Z:Nat) (l1:List (S37)) (g:Nat) (w:World) (A3:Kd.C k37 w Y l1.length l1) (Ao:l1.length≤Z) (hb:w.heap[g]? = some (.cells #[.slice Y l1.length Z] 25 (0,0))) :
 Calls Try.prog 74 #[.agg #[.int .i64 a,.string b,.int .i64 c_],.pointer (some ⟨g,0,none⟩)] w fun e w'=>e = .returned (.bool (!(l1.any (fun x=>x.f1==a))))∧Below w.heap.size w w':=by
 have An:=Try.underlying35;have B0:=Try.underlying25;have Ar:=aK A3;have As:=aK Ao;have D:=aK hb;have HB:=aK (Below.refl w.heap.size w);clear A3 Ao hb
 go_enter Try.func74,Try.ntmps74
 go_wp2_with (first|((with_reducible refine gD 2 rfl ?_);refine boxW ?_;intro gb hg w1 hbox hb;replace D:=bv D hb;have J:=aK hbox;replace HB:=bS HB hb;clear hb hbox hg;obtain⟨A7,AF⟩:=cf1 D)|(go_at_call 75;(with_reducible refine(containsLink Y Z l1 a b c_ gb _ (Kd.C_below Ar.o bl) As.o (bk)).mono ?_);rintro e w' ⟨rfl,hb⟩;replace HB:=bS HB hb;clear hb))
 go_ret
 exact⟨fe,bl⟩
def gone (l1:List (S37)) (a:Int):Bool:=!(l1.any (fun x=>x.f1==a))
theorem settle_g (x:S35) (u:Value) (hu:u = .agg #[.int .i64 x.f0,.string x.f1,.int .i64 x.f2]) (Y:Option Addr) (Z:Nat) (l1:List (S37)) (g b1:Nat) (ok:Nat→Prop) (w:World) (A3:Kd.R k37 37 w b1 ok (.slice Y l1.length Z) l1) (hb:w.heap[g]? = some (.cells #[.slice Y l1.length Z] 25 (0,0))) :
 Calls Try.prog 74 #[u,.pointer (some ⟨g,0,none⟩)] w fun e w'=>e = .returned (.bool (gone l1 x.f0))∧Below w.heap.size w w':=by
 subst hu;exact settle_1 _ _ _ Y Z l1 g w (Kd.R_reads' A3).2.2 (Kd.R_reads' A3).2.1 hb
def ixs (l1:List (S37)):List (S35)→Int→Int
 | [],_=>-1
 |x::r,i=>if gone l1 x.f0=true then i else ixs l1 r (i+1)
theorem ixs_drop (l1:List (S37)) (l:List (S35)) (i:Int) (h0:0≤i) (h1:i<(l.length:Int)):ixs l1 (l.drop i.toNat) i=if gone l1 (rd_T35 l i).f0=true then i else ixs l1 (l.drop (i+1).toNat) (i+1):=by
 have hlt:i.toNat<l.length:=by omega
 rw[List.drop_eq_getElem_cons hlt,show(i+1).toNat=i.toNat+1 by omega];have:rd_T35 l i=l[i.toNat]:=by unfold rd_T35;rw[List.getD_eq_getElem?_getD,List.getElem?_eq_getElem hlt];rfl
 rw[this];rfl
theorem indexInode2 (A0:Option Addr) (c0:Nat) (l0:List (S35)) (Y:Option Addr) (Z:Nat) (l1:List (S37)) (g b1:Nat) (ok:Nat→Prop) (w:World) (A3:Kd.R k37 37 w b1 ok (.slice Y l1.length Z) l1) (Ae:Kd.C k35 w A0 l0.length l0) (A7:l0.length≤c0) (hb:w.heap[g]? = some (.cells #[.slice Y l1.length Z] 25 (0,0))) :
 Calls Try.prog 80 #[.slice A0 l0.length c0,.func (.func 74) #[] #[.pointer (some ⟨g,0,none⟩)]] w fun e w'=>e = .returned (.int .i64 (ixs l1 l0 0))∧Below w.heap.size w w':=by
 have An:=Try.underlying35;have eg:=fun(args:Array Value) (w:World)=>enters_ (P:=Try.prog) Try.func74 (by kernel_rfl) rfl args w
 have hlen:=Ae.2.1;have HL:=aK hlen;have Aq:=aK Ae;have X:=aK A3;have Ak:=aK A7;have D:=aK hb;have HB:=aK (Below.refl w.heap.size w)
 obtain⟨r,hr⟩:∃r,ixs l1 l0 0=r:=⟨_,rfl⟩
 rw[hr];have H':=aK (show ixs l1 (l0.drop (0:Int).toNat) 0=r from hr);clear Ae A3 A7 hb hlen hr
 go_enter Try.func80,Try.ntmps80
 go_wp2
 go_loopg [8] l0.length (fun kq v8 w'=>∃x:Int,v8 = .int .i64 x∧Aside0 (0≤x∧x+kq=l0.length)∧Aside0 (ixs l1 (l0.drop x.toNat) x=r)∧Aside0 (w'.heap[g]? = some (.cells #[.slice Y l1.length Z] 25 (0,0)))∧Aside0 (Below w.heap.size w w'))
 case atStart=>exact⟨0,fa,⟨by omega,by omega⟩,H',D,HB⟩
 case round=>
  clear H';obtain⟨x,rfl,HX,H,D,HB⟩:=hrel;have hx:=HX.o;by_cases c:x<(l0.length:Int)
  ·have cb:decide (x<(l0.length:Int))=true:=dt c;have hstep:=ixs_drop l1 l0 x hx.1 c;rw[H.o]at hstep;obtain⟨ad,e,A8,A9,Al⟩:=at_T35 Aq.o x hx.1 c
   cases e
   replace A8:=cz HB A8;replace A9:=cz HB A9;replace Al:=cz HB Al;have p1:(0≤x)=True:=eq_true hx.1;have p2:(x<(l0.length:Int))=True:=eq_true c;have hw:wrap64 (x+1)=x+1:=by have:=HL.o;unfold wrap64;omega
   have HW:=aK hw;clear hw;by_cases c2:gone l1 (rd_T35 l0 x).f0=true
   ·rw[if_pos c2]at hstep;have HS:=aK hstep;clear hstep hx c
    go_wp2_with (first|(go_at_call 74;(with_reducible refine(settle_g (rd_T35 l0 x) _ rfl Y Z l1 g b1 ok _ (Kd.R_below X.o bl) (bk)).mono ?_);rintro e w' ⟨rfl,hb⟩;replace HB:=bS HB hb;clear hb))
    go_ret
    exact⟨by first|(rw[HS.o];done)|(rw[HS.o];rfl),bl⟩
   ·rw[if_neg c2]at hstep;have Ap:gone l1 (rd_T35 l0 x).f0=false:=by simpa using c2
    have HS:=aK hstep;have U:=aK (And.intro hx.1 c);clear hstep hx c c2
    go_wp2_with (first|(go_at_call 74;(with_reducible refine(settle_g (rd_T35 l0 x) _ rfl Y Z l1 g b1 ok _ (Kd.R_below X.o bl) (bk)).mono ?_);rintro e w' ⟨rfl,hb⟩;replace D:=bv D hb;replace HB:=bS HB hb;clear hb))
    go_roundg (gk-1)
    case measure=>have:=HX.o;have:=U.o;omega
    case rel=>exact⟨wrap64 (x+1),fa,⟨by rw[HW.o];have:=U.o;omega,by rw[HW.o];have:=HX.o;have:=U.o;omega⟩,⟨by rw[HW.o];exact HS.out.symm⟩,⟨bk⟩,⟨bl⟩⟩
  ·have cb:decide (x<(l0.length:Int))=false:=df c;have hd:l0.drop x.toNat = []:=List.drop_of_length_le (by omega);have HS:=aK (show r = -1 by rw[←H.o,hd];rfl);clear hx c hd
   go_wp2
   go_ret
   exact⟨by first|(rw[HS.o];done)|(rw[HS.o];rfl),bl⟩
def delS (l1:List (S37)) (l:List (S35)):List (S35):=l.filter (fun x=>!(gone l1 x.f0))
theorem ixs_spec (l1:List (S37)):∀(l:List (S35)) (i:Int),0≤i→(ixs l1 l i = -1∧delS l1 l=l)∨(∃n:Nat,ixs l1 l i=i+n∧n<l.length∧delS l1 l=l.take n++delS l1 (l.drop (n+1)))
 | [],i,_=>.inl ⟨rfl,rfl⟩
 |x::r,i,h=>by
  by_cases c:gone l1 x.f0=true
  ·exact .inr ⟨0,by simp[ixs,c],by simp,by simp[delS,c]⟩
  ·have c':gone l1 x.f0=false:=by simpa using c
   have e:delS l1 (x::r)=x::delS l1 r:=by simp[delS,c']
   have e2:ixs l1 (x::r) i=ixs l1 r (i+1):=by simp[ixs,c']
   rcases ixs_spec l1 r (i+1) (by omega)with⟨h1,h2⟩|⟨n,h1,h2,h3⟩
   ·exact .inl ⟨by rw[e2,h1],by rw[e,h2]⟩
   ·exact .inr ⟨n+1,by rw[e2,h1];omega,by simp;omega,by rw[e,h3];rfl⟩
theorem deleteInode (u:Value) (l0:List (S35)) (Y:Option Addr) (Z:Nat) (l1:List (S37)) (g b1:Nat) (ok:Nat→Prop) (w0 w:World) (hB:Below w0.heap.size w0 w) (ho:Kd.R k35 35 w w0.heap.size (fun _=>True) u l0) (hlim:l0.length<4398046511104) (A3:Kd.R k37 37 w b1 ok (.slice Y l1.length Z) l1) (hb:w.heap[g]? = some (.cells #[.slice Y l1.length Z] 25 (0,0))) :
 Calls Try.prog 73 #[u,.func (.func 74) #[] #[.pointer (some ⟨g,0,none⟩)]] w fun e w'=>∃v,e = .returned v∧Kd.R k35 35 w' w0.heap.size (fun _=>True) v (delS l1 l0)∧Kd.R k37 37 w' b1 ok (.slice Y l1.length Z) l1∧Below w0.heap.size w0 w':=by
 have An:=Try.underlying35;have eg:=fun(args:Array Value) (w:World)=>enters_ (P:=Try.prog) Try.func74 (by kernel_rfl) rfl args w
 have HL:=aK hlim;have X:=aK A3;have D:=aK hb;have HB:=aK hB;have HO:=aK ho;clear hB hb hlim A3
 rcases ixs_spec l1 l0 0 (by omega)with⟨h1,h2⟩|⟨n,h1,h2,h3⟩
 ·obtain⟨A,c,rfl,hlc,hC⟩:=Kd.R_reads ho;have HI:=aK h1;have Ak:=aK hC;have HLC:=aK hlc;rw[h2];clear ho h1 h2 hC hlc
  go_enter Try.func73,Try.ntmps73
  go_wp2_with (first|(go_at_call 80;(with_reducible refine(indexInode2 A c l0 Y Z l1 g b1 ok _ X.o Ak.o HLC.o (bk)).mono ?_);rintro e w' ⟨rfl,hb⟩;rw[HI.o];have AG:=aK (Kd.R_below HO.o hb);replace X:=aK (Kd.R_below X.o hb);replace HB:=bs (w:=w0) hb;clear hb))
  go_ret
  exact⟨_,rfl,AG.o,X.o,bl⟩
 ·have Bk:0<l0.length:=by omega
  obtain⟨g2,cap,rfl,hcap⟩:∃g2 cap,u = .slice (some ⟨g2,0,none⟩) l0.length cap∧l0.length≤cap:=by
   obtain⟨_,inner,⟨hl,hown⟩,hr⟩:=ho
   rcases hown with⟨rfl,hz⟩|⟨g2,cap,cur,rfl,_,_,hle,_⟩
   ·omega
   ·exact⟨g2,cap,rfl,hle⟩
  have HNE:=aK (show g≠g2 from fun e_=>Kd.R_ne ho D.o (by decide) (by rw[e_];rfl))
  obtain⟨BB,Aw⟩:=(show ∃cells,w.heap[g2]? = some (.cells cells 35 (0,0))from(by obtain⟨inner,Bl⟩:=Kd.R_own ho;exact own_typed Bl g2 rfl))
  replace X:=aK (Kd.R_types X.o Aw (by decide));clear Aw;have hC:=(Kd.R_reads' ho).2.2;have Ak:=aK hC;have HLC:=aK hcap;have HI:=aK h1
  have HD:Aside0 (l0.take n++delS l1 (l0.drop (n+1))=delS l1 l0):=⟨h3.symm⟩
  have HN:=aK h2
  obtain⟨r,hr⟩:∃r,delS l1 l0=r:=⟨_,rfl⟩
  rw[hr]at HD ⊢;clear ho h1 h2 h3 hC hcap hr Bk;have e1:wrap64 ((n:Int)+1)=(n:Int)+1:=by have:=HN.o;have:=HL.o;unfold wrap64;omega
  have hne:((n:Int) == -1)=false:=by simp
  go_enter Try.func73,Try.ntmps73
  go_wp2_with (first|(go_at_call 80;(with_reducible refine(indexInode2 (some ⟨g2,0,none⟩) cap l0 Y Z l1 g b1 _ _ X.o Ak.o HLC.o (bk)).mono ?_);rintro e w' ⟨rfl,hb⟩;rw[show ixs l1 l0 0=(n:Int) by rw[HI.o];omega];replace HO:=aK (Kd.R_below HO.o hb);replace X:=aK (Kd.R_below X.o hb);replace D:=bv D hb;replace HB:=bs (w:=w0) hb;clear hb))
  go_loopg [5,6] (l0.length-(n+1)) (fun kq v5 v6 w'=>∃(i j:Int) (xs:List (S35)),v5 = .int .i64 i∧v6 = .int .i64 j∧Aside0 (0≤i∧i<j∧j+kq=l0.length)∧Aside0 (xs.length=l0.length)∧Aside0 (xs.take i.toNat++delS l1 (l0.drop j.toNat)=r)∧Aside0 (xs.drop j.toNat=l0.drop j.toNat)∧Aside0 (Kd.R k35 35 w' w0.heap.size (fun _=>True) (.slice (some ⟨g2,0,none⟩) l0.length cap) xs)∧Aside0 (Kd.R k37 37 w' b1 (fun k=>ok k∧k≠g2) (.slice Y l1.length Z) l1)∧Aside0 (w'.heap[g]? = some (.cells #[.slice Y l1.length Z] 25 (0,0)))∧Aside0 (Below w0.heap.size w0 w'))
  case atStart=>exact⟨(n:Int),wrap64 ((n:Int)+1),l0,fa,fa,⟨by rw[e1];have:=HN.o;omega⟩,⟨rfl⟩,⟨by rw[e1];exact HD.o⟩,⟨rfl⟩,HO,X,D,HB⟩
  case round=>
   clear Ak e1 hne HD HI;obtain⟨i,j,xs,rfl,rfl,HX,HXL,H,HT,HO,X,D,HB⟩:=hrel;have hx:=HX.o;by_cases c:j<(l0.length:Int)
   ·have cb:decide (j<(l0.length:Int))=true:=dt c;have hC:=(Kd.R_reads' HO.o).2.2;rw[HXL.o]at hC;obtain⟨ad,e,A8,A9,Al⟩:=at_T35 hC j (by omega) c
    cases e
    obtain⟨ad,e,Bm,Bn,Bo⟩:=at_T35 hC i (by omega) (by omega)
    cases e
    simp only[addz]at A8 A9 Al Bm Bn Bo;have p1:(0≤j)=True:=eq_true (by omega);have p2:(j<(l0.length:Int))=True:=eq_true c;have q1:(0≤i)=True:=eq_true (by omega);have q2:(i<(l0.length:Int))=True:=eq_true (by omega);have HW:=aK (show wrap64 (j+1)=j+1 by have:=HL.o;unfold wrap64;omega);have B1:=aK (show wrap64 (i+1)=i+1 by have:=HL.o;unfold wrap64;omega)
    have hdj:l0.drop j.toNat=rd_T35 xs j::l0.drop (j+1).toNat:=by
     have hlt:j.toNat<xs.length:=by have:=HXL.o;omega
     have B2:j.toNat<l0.length:=by omega
     rw[←HT.o,List.drop_eq_getElem_cons hlt,show(j+1).toNat=j.toNat+1 by omega];have:rd_T35 xs j=xs[j.toNat]:=by unfold rd_T35;rw[List.getD_eq_getElem?_getD,List.getElem?_eq_getElem hlt];rfl
     rw[this];have ht:=congrArg List.tail HT.o;rw[List.drop_eq_getElem_cons hlt,List.drop_eq_getElem_cons B2,List.tail_cons,List.tail_cons]at ht;rw[ht]
    have B3:xs.drop (j+1).toNat=l0.drop (j+1).toNat:=by
     rw[show(j+1).toNat=j.toNat+1 by omega,←List.drop_drop,←List.drop_drop,HT.o]
    have B4:=aK B3;have U:=aK (And.intro hx c);have hH:=H.o;rw[hdj]at hH;clear hx c hC B3 hdj;by_cases c2:gone l1 (rd_T35 xs j).f0=true
    ·have HH:Aside0 (xs.take i.toNat++delS l1 (l0.drop (j+1).toNat)=r):=⟨by rw[←hH];simp[delS,c2]⟩
     clear hH H HT
     go_wp2_with (first|((with_reducible refine gD 7 rfl ?_);refine boxW ?_;intro gb hg w1 hbox hb;have AH:=aK (Kd.R_below (Kd.R_bound HO.o) hb);have Am:=aK (Kd.R_below (Kd.R_bound X.o) hb);have HG:=aK hg;have NB:=nl D hg;replace D:=bv D hb;have J:=aK hbox;have B5:=gw (w:=w0) hg;replace HB:=bs (w:=w0) hb;clear hb hbox hg;obtain⟨Aa,Ab,Ai,Ac,Ad,Aj⟩:=cf3 J)|(go_at_call 74;(with_reducible refine(settle_g (rd_T35 xs j) _ rfl Y Z l1 g b1 (fun _=>True) _ ?sr ?sb).mono ?_);(case sb=>exact blk_far (blk_far (blk_far D.o NB.o _) NB.o _) NB.o _);(case sr=>exact rM (Kd.R_far (p:=⟨gb,2,none⟩) (Kd.R_far (p:=⟨gb,1,none⟩) (Kd.R_far (p:=⟨gb,0,none⟩) Am.o (fun k hk=>by rw[HG.o];exact Nat.ne_of_lt hk.2.2.1) _) (fun k hk=>by rw[HG.o];exact Nat.ne_of_lt hk.2.2.1) _) (fun k hk=>by rw[HG.o];exact Nat.ne_of_lt hk.2.2.1) _) (fun _ _=>trivial));rintro e w2 ⟨rfl,hb⟩;replace HO:=aK (rM (Kd.R_below (Kd.R_far (p:=⟨gb,2,none⟩) (Kd.R_far (p:=⟨gb,1,none⟩) (Kd.R_far (p:=⟨gb,0,none⟩) AH.o (fun k hk=>by rw[HG.o];exact Nat.ne_of_lt hk.2.2.1) _) (fun k hk=>by rw[HG.o];exact Nat.ne_of_lt hk.2.2.1) _) (fun k hk=>by rw[HG.o];exact Nat.ne_of_lt hk.2.2.1) _) hb) (fun _ _=>trivial));replace X:=aK (rM (Kd.R_below (Kd.R_far (p:=⟨gb,2,none⟩) (Kd.R_far (p:=⟨gb,1,none⟩) (Kd.R_far (p:=⟨gb,0,none⟩) Am.o (fun k hk=>by rw[HG.o];exact Nat.ne_of_lt hk.2.2.1) _) (fun k hk=>by rw[HG.o];exact Nat.ne_of_lt hk.2.2.1) _) (fun k hk=>by rw[HG.o];exact Nat.ne_of_lt hk.2.2.1) _) hb) (fun _ hk=>hk.1));replace D:=aK (blk_below (blk_far (blk_far (blk_far D.o NB.o _) NB.o _) NB.o _) hb);replace J:=aK (blk_below (blk_put (blk_put (blk_put J.o 0 _ rfl) 1 _ rfl) 2 _ rfl) hb);replace HB:=bs (w:=w0) hb;clear hb Aa Ab Ai Ac Ad Aj;obtain⟨Aa,Ab,Ai,Ac,Ad,Aj⟩:=cf3 J))
     go_roundg (gk-1)
     case measure=>have:=U.o;omega
     case rel=>exact⟨i,wrap64 (j+1),xs,fa,fa,⟨by rw[HW.o];have:=U.o;omega⟩,HXL,⟨by rw[HW.o];exact HH.o⟩,⟨by rw[HW.o];exact B4.o⟩,HO,X,D,HB⟩
    ·have Ap:gone l1 (rd_T35 xs j).f0=false:=by simpa using c2
     have HH:Aside0 (xs.take i.toNat++(rd_T35 xs j::delS l1 (l0.drop (j+1).toNat))=r):=⟨by rw[←hH];simp[delS,Ap]⟩
     clear hH H HT c2
     go_wp2_with (first|((with_reducible refine gD 7 rfl ?_);refine boxW ?_;intro gb hg w1 hbox hb;have AH:=aK (Kd.R_below (Kd.R_bound HO.o) hb);have Am:=aK (Kd.R_below (Kd.R_bound X.o) hb);have HG:=aK hg;have NB:=nl D hg;replace D:=bv D hb;have J:=aK hbox;have B5:=gw (w:=w0) hg;replace HB:=bs (w:=w0) hb;clear hb hbox hg;obtain⟨Aa,Ab,Ai,Ac,Ad,Aj⟩:=cf3 J)|(go_at_call 74;(with_reducible refine(settle_g (rd_T35 xs j) _ rfl Y Z l1 g b1 (fun _=>True) _ ?sr ?sb).mono ?_);(case sb=>exact blk_far (blk_far (blk_far D.o NB.o _) NB.o _) NB.o _);(case sr=>exact rM (Kd.R_far (p:=⟨gb,2,none⟩) (Kd.R_far (p:=⟨gb,1,none⟩) (Kd.R_far (p:=⟨gb,0,none⟩) Am.o (fun k hk=>by rw[HG.o];exact Nat.ne_of_lt hk.2.2.1) _) (fun k hk=>by rw[HG.o];exact Nat.ne_of_lt hk.2.2.1) _) (fun k hk=>by rw[HG.o];exact Nat.ne_of_lt hk.2.2.1) _) (fun _ _=>trivial));rintro e w2 ⟨rfl,hb⟩;replace HO:=aK (rM (Kd.R_below (Kd.R_far (p:=⟨gb,2,none⟩) (Kd.R_far (p:=⟨gb,1,none⟩) (Kd.R_far (p:=⟨gb,0,none⟩) AH.o (fun k hk=>by rw[HG.o];exact Nat.ne_of_lt hk.2.2.1) _) (fun k hk=>by rw[HG.o];exact Nat.ne_of_lt hk.2.2.1) _) (fun k hk=>by rw[HG.o];exact Nat.ne_of_lt hk.2.2.1) _) hb) (fun _ _=>trivial));replace X:=aK (rM (Kd.R_below (Kd.R_far (p:=⟨gb,2,none⟩) (Kd.R_far (p:=⟨gb,1,none⟩) (Kd.R_far (p:=⟨gb,0,none⟩) Am.o (fun k hk=>by rw[HG.o];exact Nat.ne_of_lt hk.2.2.1) _) (fun k hk=>by rw[HG.o];exact Nat.ne_of_lt hk.2.2.1) _) (fun k hk=>by rw[HG.o];exact Nat.ne_of_lt hk.2.2.1) _) hb) (fun _ hk=>hk.1));replace D:=aK (blk_below (blk_far (blk_far (blk_far D.o NB.o _) NB.o _) NB.o _) hb);replace J:=aK (blk_below (blk_put (blk_put (blk_put J.o 0 _ rfl) 1 _ rfl) 2 _ rfl) hb);replace HB:=bs (w:=w0) hb;clear hb Aa Ab Ai Ac Ad Aj;obtain⟨Aa,Ab,Ai,Ac,Ad,Aj⟩:=cf3 J)|((with_reducible refine gate_store (t:=35) (p:=33) rfl ?_);refine Kd.R_store k35 (w0:=w0) w0.heap.size rfl rfl 35 (.tmp 33) (.tmp 32) rfl 35 (g:=g2) (n:=l0.length) (cap:=cap) i 0 xs (rd_T35 xs j) (.agg #[.int .i64 (rd_T35 xs j).f0,.string (rd_T35 xs j).f1,.int .i64 (rd_T35 xs j).f2]) [.int .i64 (rd_T35 xs j).f0,.string (rd_T35 xs j).f1,.int .i64 (rd_T35 xs j).f2] [.int .i64 (rd_T35 xs i).f0,.string (rd_T35 xs i).f1,.int .i64 (rd_T35 xs i).f2] (fun _=>True) (fun _=>False) rfl (show i.toNat*3=i.toNat*k35.sz+0 from rfl) rfl rfl ?ht ?h1 HO.o ?h0 ?hi rfl ?hcc (show 0+3≤3 from Nat.le_refl _) ?hM (fun _ h=>h.elim) HB.o ?_;(case ht=>kernel_rfl);(case h1=>intro q hq;rcases List.mem_cons.1 hq with rfl|hq;rfl;rcases List.mem_cons.1 hq with rfl|hq;rfl;rcases List.mem_cons.1 hq with rfl|hq;rfl;cases hq);(case h0=>have:=U.o;omega);(case hi=>have:=U.o;omega);(case hcc=>have B6:=(Kd.R_reads' HO.o).2.2;rw[HXL.o]at B6;obtain⟨ad,e,B7,At,AI⟩:=at_T35 B6 i (by have:=U.o;omega) (by have:=U.o;omega);cases e;simp only[addz]at B7 At AI;intro q u hq;match q,hq with| 0,hq=>(cases hq;exact B7)| 1,hq=>(cases hq;exact At)| 2,hq=>(cases hq;exact AI));(case hM=>exact k35_mkM _ _ _ _);intro w3 ho hb hg;replace D:=aK (blk_grown D.o hg (fun e_=>HNE.o (by injection e_)));replace X:=aK (Kd.R_grown X.o hg (fun k hk e_=>hk.2 (by injection e_)));replace HO:=aK ho;replace HB:=aK hb;clear hb hg ho))
     go_roundg (gk-1)
     case measure=>have:=U.o;omega
     case rel=>exact⟨wrap64 (i+1),wrap64 (j+1),xs.set i.toNat (rd_T35 xs j),fa,fa,⟨by rw[HW.o,B1.o];have:=U.o;omega⟩,⟨by rw[List.length_set];exact HXL.o⟩,⟨by rw[HW.o,B1.o,show(i+1).toNat=i.toNat+1 by have:=U.o;omega,set_take _ _ _ (by have:=U.o;have:=HXL.o;omega),List.append_assoc];exact HH.o⟩,⟨by rw[HW.o,List.drop_set_of_lt (by have:=U.o;omega)];exact B4.o⟩,HO,X,D,HB⟩
   ·have cb:decide (j<(l0.length:Int))=false:=df c
    have hfin:xs.take i.toNat=r:=by
     have h:=H.o;rw[List.drop_of_length_le (show l0.length≤j.toNat by omega)]at h;simpa [delS] using h
    have HF:=aK hfin;have U:=aK (And.intro hx c);have q1:(0≤i)=True:=eq_true (by omega);have q2:(i≤(l0.length:Int))=True:=eq_true (by omega)
    have hcl:∃zs:List Value,zs.length=(l0.length-i.toNat)*3∧(Builtin.clear_ #[24] 0 #[.slice (some ⟨g2,i.toNat*3,none⟩) (l0.length-i.toNat) (cap-i.toNat)]).run Try.prog wr = .ok (.tuple #[]) (wr.setCells g2 (i.toNat*3) zs):=by
     obtain⟨_,inner,⟨_,hown⟩,_⟩:=HO.o
     rcases hown with⟨hv,_⟩|⟨g',cap',cur,hv,hb,hh,hle,hm,hs,ht⟩
     ·cases hv
     injection hv with ha hn hc
     injection ha with ha
     injection ha with hg
     subst hg;subst hc;have BC:cur.size=cap*3:=hs;exact run_clear_cells wr 24 35 0 (.agg #[.int .i64 0,.string ⟨#[]⟩,.int .i64 0]) Try.underlying24 (fun w=>by kernel_rfl) g2 (i.toNat*3) (l0.length-i.toNat) (cap-i.toNat) (by omega) (by intro v hv;rcases List.mem_cons.1 hv with rfl|hv;rfl;rcases List.mem_cons.1 hv with rfl|hv;rfl;rcases List.mem_cons.1 hv with rfl|hv;rfl;cases hv) (by decide) cur 35 hh (by have:=HLC.o;show i.toNat*3+(l0.length-i.toNat)*3≤cur.size;omega)
    obtain⟨zs,At,AI⟩:=hcl
    have HOF:Aside0 (Kd.R k35 35 (wr.setCells g2 (i.toNat*3) zs) w0.heap.size (fun _=>True) (.slice (some ⟨g2,0,none⟩) i.toNat cap) r):=⟨by
     have h:=Kd.R_take HO.o (m:=i.toNat) (by have:=HXL.o;omega);rw[HF.o]at h
     exact R_tail h _ _ (Nat.le_refl _) (by have:=HLC.o;show i.toNat*3+zs.length≤cap*3;omega)⟩
    have HDF:Aside0 (Kd.R k37 37 (wr.setCells g2 (i.toNat*3) zs) b1 ok (.slice Y l1.length Z) l1):=⟨rM (Kd.R_step X.o (fun k hk _=>setCells_far zs _ k hk.2)) (fun _ hk=>hk.1)⟩
    have HBF:Aside0 (Below w0.heap.size w0 (wr.setCells g2 (i.toNat*3) zs)):=⟨by
     obtain⟨s1,s2,s3,s4⟩:=setCells_same g2 zs (i.toNat*3) wr;have BD:=Kd.R_base HO.o g2 rfl
     exact⟨s1.trans HB.out.os,s2.trans HB.out.tape,s3.trans HB.out.output,by rw[s4];exact HB.out.size,fun k hk=>(setCells_far zs _ k (by omega)).trans (HB.out.block k hk)⟩⟩
    have q3:(i≤(cap:Int))=True:=eq_true (by have:=HLC.o;omega);have n1:¬(i.toNat=cap):=by have:=HLC.o;omega
    have n2:¬(cap=i.toNat):=by have:=HLC.o;omega
    clear H HT hx c hfin At
    go_wp2_with fail
    go_ret
    exact⟨_,rfl,HOF.o,HDF.o,HBF.o⟩
theorem cut_world (w:World) (N:Nat) (h:N≤w.heap.size):∃w0:World,w0.heap.size=N∧Below N w0 w:=by
 refine⟨{ w with heap:=w.heap.extract 0 N},by simp;omega,rfl,rfl,rfl,by simp;omega,fun k hk=>?_⟩;simp only[Array.getElem?_extract];rw[if_pos (by omega),Nat.zero_add]
theorem deleteInode' (u:Value) (l0:List (S35)) (Y:Option Addr) (Z:Nat) (l1:List (S37)) (g b1:Nat) (ok:Nat→Prop) (N:Nat) (w:World) (hN:N≤w.heap.size) (ho:Kd.R k35 35 w N (fun _=>True) u l0) (hlim:l0.length<4398046511104) (A3:Kd.R k37 37 w b1 ok (.slice Y l1.length Z) l1) (hb:w.heap[g]? = some (.cells #[.slice Y l1.length Z] 25 (0,0))) :
 Calls Try.prog 73 #[u,.func (.func 74) #[] #[.pointer (some ⟨g,0,none⟩)]] w fun e w'=>∃v,e = .returned v∧Kd.R k35 35 w' N (fun _=>True) v (delS l1 l0)∧Kd.R k37 37 w' b1 ok (.slice Y l1.length Z) l1∧(∀k,k<N→w'.heap[k]? = w.heap[k]?)∧(∀(M:Nat) (w0:World),Below M w0 w→M≤N→w0.heap.size≤N→Below M w0 w'):=by
 obtain⟨w0,h1,h2⟩:=cut_world w N hN;subst h1;refine(deleteInode u l0 Y Z l1 g b1 ok w0 w h2 ho hlim A3 hb).mono ?_;rintro e w' ⟨v,rfl,a1,a2,a3⟩;exact⟨v,rfl,a1,a2,fun k hk=>(a3.block k hk).trans (h2.block k hk).symm,fun M w1 h hM hs=>⟨a3.os.trans (h2.os.symm.trans h.os),a3.tape.trans (h2.tape.symm.trans h.tape),a3.output.trans (h2.output.symm.trans h.output),Nat.le_trans hs a3.size,fun k hk=>((a3.block k (by omega)).trans (h2.block k (by omega)).symm).trans (h.block k hk)⟩⟩
theorem settle.calls (gd:Nat) (x0 x1:Int) (vI Bp Bq:Value) (lI:List (S35)) (Y:Option Addr) (Z:Nat) (lD:List (S37)) (b1:Nat) (ok:Nat→Prop) (N:Nat) (w0 w:World) (hN:gd<N) (hNw:N≤w.heap.size) (hB:Below w0.heap.size w0 w) (hgd:w0.heap.size≤gd) (hbd:w.heap[gd]? = some (.cells #[.int .i64 x0,.int .i64 x1,vI,Bp,Bq] 28 (0,0))) (hI:Kd.R k35 35 w N (fun _=>True) vI lI) (hD:Kd.R k37 37 w b1 ok (.slice Y lD.length Z) lD) (hlim:lI.length<4398046511104) :
 Calls Try.prog 33 #[.pointer (some ⟨gd,0,none⟩),.slice Y lD.length Z] w fun e w'=>e = .returned (.tuple #[])∧∃vI',w'.heap[gd]? = some (.cells #[.int .i64 x0,.int .i64 x1,vI',.slice Y lD.length Z,.slice none 0 0] 28 (0,0))∧Kd.R k35 35 w' N (fun _=>True) vI' (delS lD lI)∧Kd.R k37 37 w' b1 ok (.slice Y lD.length Z) lD∧Below w0.heap.size w0 w'∧(∀k,k<N→k≠gd→w'.heap[k]? = w.heap[k]?):=by
 have B8:=Try.underlying28;have B0:=Try.underlying25;have HN:=aK hN;have HNW:=aK hNw;have HGD:=aK hgd;have HL:=aK hlim;have HI:=aK (Kd.R_types hI hbd (by decide));have HD:=aK (Kd.R_types hD hbd (by decide));have BKd:=aK hbd;have HB:=aK hB;obtain⟨A,c,eI⟩:=Kd.R_slice hI;subst eI;clear hN hNw hgd hlim hI hD hbd hB
 go_enter Try.func33,Try.ntmps33
 go_wp2_with (first|((with_reducible refine gD 3 rfl ?_);refine boxW ?_;intro g hg w1 hbox hb;have HG:=aK hg;have NB:=nl BKd hg;have B9:=nr BKd hg;replace BKd:=bv BKd hb;have BKg:=aK hbox;replace HI:=aK (Kd.R_below HI.o hb);replace HD:=aK (Kd.R_below HD.o hb);have Ba:=aK hb;replace HB:=bs (w:=w0) hb;clear hb hbox hg;obtain⟨A7,AF⟩:=cf1 BKg;obtain⟨Aa,Ab,Ai,AJ,AK,Ac,Ad,Aj,AL,AM⟩:=cf5 BKd)|(go_at_call 73;(with_reducible refine(deleteInode' (.slice A lI.length c) lI Y Z lD g b1 ok N _ ?hN ?ho HL.o ?hr ?hb).mono ?_);(case hN=>have:=HNW.o;have:=Ba.out.size;simp only[World.size_setCell];omega);(case ho=>exact rM (Kd.R_far (p:=⟨gd,4,none⟩) (Kd.R_far (p:=⟨gd,3,none⟩) HI.o (fun _ hk=>hk.2) _) (fun _ hk=>hk.2) _) (fun _ _=>trivial));(case hr=>exact rM (Kd.R_far (p:=⟨gd,4,none⟩) (Kd.R_far (p:=⟨gd,3,none⟩) HD.o (fun _ hk=>hk.2) _) (fun _ hk=>hk.2) _) (fun _ hk=>hk.1));(case hb=>exact blk_far (blk_far BKg.o B9.o _) B9.o _);rintro e w2 ⟨v,rfl,r1,r2,r3,r4⟩;obtain⟨Av,cv,ev⟩:=Kd.R_slice r1;subst ev;have AG:=aK (r4 w0.heap.size w0 (below_set (below_set HB.o HGD.o) HGD.o) (by have:=HGD.o;have:=HN.o;omega) (by have:=HGD.o;have:=HN.o;omega));have J:=aK ((r3 gd HN.o).trans (blk_put (blk_put BKd.o 3 _ rfl) 4 _ rfl));have HI2:=aK (Kd.R_types r1 J.o (by decide));have Am:=aK (Kd.R_types r2 J.o (by decide));have HF:=aK (show ∀k,k<N→k≠gd→w2.heap[k]? = w.heap[k]? from fun k hk hne=>(r3 k hk).trans ((Below.heap_setCell _ _ _ k hne).trans ((Below.heap_setCell _ _ _ k hne).trans (Ba.out.block k (by have:=HNW.o;omega)))));clear r1 r2 r3 r4 A7 AF Aa Ab Ai AJ AK Ac Ad Aj AL AM;obtain⟨Aa,Ab,Ai,AJ,AK,Ac,Ad,Aj,AL,AM⟩:=cf5 J))
 refine bodyPost_end (results_none rfl _ _ _) rfl ?_;exact⟨rfl,_,blk_put J.o 2 _ rfl,rM (Kd.R_far (p:=⟨gd,2,none⟩) HI2.o (fun _ hk=>hk.2) _) (fun _ _=>trivial),rM (Kd.R_far (p:=⟨gd,2,none⟩) Am.o (fun _ hk=>hk.2) _) (fun _ hk=>hk.1),below_set AG.o HGD.o,fun k hk hne=>(Below.heap_setCell _ _ _ k hne).trans (HF.o k hk hne)⟩
theorem linked_run (i:Int) (l:List (S37)) (h:l.length≤9223372036854775807):∀(n:Nat) (x:Int),0≤x→x+n=l.length→spec_l4Linked.l0 (n+1) l i x=some ((l.drop x.toNat).any (fun y=>y.f1==i))
 | 0,x,h0,h1=>by
  simp only[spec_l4Linked.l0]
  rw[if_neg (by omega),List.drop_of_length_le (by omega)];rfl
 |n+1,x,h0,h1=>by
  have f:=linked_run i l h n (x+1) (by omega) (by omega)
  have hlt:x.toNat<l.length:=by omega
  have e:rd_T37 l x=l[x.toNat]:=by unfold rd_T37;rw[List.getD_eq_getElem?_getD,List.getElem?_eq_getElem hlt];rfl
  rw[spec_l4Linked.l0,if_pos (by omega),if_pos h0,show wrap64 (x+1)=x+1 by unfold wrap64;omega,f,List.drop_eq_getElem_cons hlt,List.any_cons,show(x+1).toNat=x.toNat+1 by omega,e]
  by_cases c:(l[x.toNat]).f1=i
  ·rw[if_pos c];simp[c]
  ·rw[if_neg c];have c':((l[x.toNat]).f1==i)=false:=by simpa using c
   rw[c'];simp
theorem linked_f (i:Int) (l:List (S37)) (h:l.length≤9223372036854775807):spec_l4Linked.f (l.length+1) l i=some (l.any (fun y=>y.f1==i)):=by
 have:=linked_run i l h l.length 0 (by omega) (by omega);unfold spec_l4Linked.f;simpa using this
theorem delS_snoc (l1:List (S37)) (l:List (S35)) (i:Int) (h0:0≤i) (h1:i<(l.length:Int)):delS l1 (l.take (i+1).toNat)=delS l1 (l.take i.toNat)++(if(l1.any (fun y=>y.f1==(rd_T35 l i).f0))=true then[rd_T35 l i]else[]):=by
 have hlt:i.toNat<l.length:=by omega
 have e:rd_T35 l i=l[i.toNat]:=by unfold rd_T35;rw[List.getD_eq_getElem?_getD,List.getElem?_eq_getElem hlt];rfl
 rw[show(i+1).toNat=i.toNat+1 by omega,List.take_succ_eq_append_getElem hlt];unfold delS;rw[List.filter_append,e];congr 1;simp only[List.filter_cons,List.filter_nil,gone,Bool.not_not]
def spec_l4Settled.f (A5:Int) (A6:Int) (Af:List (S35)) (Ag:List (S37)) (Ah:List (S39)) (l1:List (S37)) (l2:List (S35)):Option (Int×Int×(List (S35))×(List (S37))×(List (S39))):=if l2.length<4398046511104 then some (A5,A6,delS l1 l2,l1,([]:List (S39)))else none
theorem spec_l4Settled.calls (A5:Int) (A6:Int) (Ax:Option Addr) (Ay:Nat) (Af:List (S35)) (Az:Option Addr) (A_:Nat) (Ag:List (S37)) (AA:Option Addr) (AB:Nat) (Ah:List (S39)) (Y:Option Addr) (Z:Nat) (l1:List (S37)) (A2:Option Addr) (c2:Nat) (l2:List (S35)) (r1:Int) (r2:Int) (r3:List (S35)) (r4:List (S37)) (r5:List (S39)) (w:World) (AN:Kd.C k35 w Ax Af.length Af) (AQ:Af.length≤Ay) (AR:Kd.C k37 w Az Ag.length Ag) (AS:Ag.length≤A_) (AT:Kd.C k39 w AA Ah.length Ah) (AU:Ah.length≤AB) (A3:Kd.C k37 w Y l1.length l1) (Ao:l1.length≤Z) (Bb:Kd.C k35 w A2 l2.length l2) (AE:l2.length≤c2) (h:spec_l4Settled.f A5 A6 Af Ag Ah l1 l2=some (r1,r2,r3,r4,r5)) :
 Calls Try.prog 54 #[.agg #[.int .i64 A5,.int .i64 A6,.slice Ax Af.length Ay,.slice Az Ag.length A_,.slice AA Ah.length AB],.slice Y l1.length Z,.slice A2 l2.length c2] w fun e w'=>∃Bc Bd Be:Value,e = .returned (.agg #[.int .i64 r1,.int .i64 r2,Bc,Bd,Be])∧Kd.R k35 35 w' w.heap.size (fun _=>True) Bc r3∧(Bd = .slice Y l1.length Z∧r4=l1)∧Kd.R k39 39 w' w.heap.size (fun _=>True) Be r5∧Below w.heap.size w w':=by
 have hlim:l2.length<4398046511104:=by
  by_cases c:l2.length<4398046511104
  ·exact c
  ·simp[spec_l4Settled.f,c]at h
 have h1:(A5,A6,delS l1 l2,l1,([]:List (S39)))=(r1,r2,r3,r4,r5):=by simpa [spec_l4Settled.f,hlim] using h
 simp only[Prod.mk.injEq]at h1;obtain⟨rfl,rfl,h3,rfl,rfl⟩:=h1;have AV:=A3.2.1;have B8:=Try.underlying28;have An:=Try.underlying35;have Ar:=aK A3;have As:=aK Ao;have Br:=aK Bb;have BE:=aK AE;have HL:=aK hlim;have HB:=aK (Below.refl w.heap.size w);have HA:=aK (fun i=>linked_f i l1 (by omega));have H3:=aK h3;clear AN AQ AR AS AT AU A3 Ao Bb AE h hlim h3 AV
 go_enter Try.func54,Try.ntmps54
 go_wp2_with (first|((with_reducible refine gD 3 rfl ?_);refine boxW ?_;intro BF hg BG hbox hb;have D:=aK hbox;have BH:=gW HB hg;replace HB:=bS HB hb;clear hb hbox hg)|((with_reducible refine gD 6 rfl ?_);refine boxW ?_;intro AW hg BI hbox hb;have J:=aK hbox;have B5:=gW HB hg;replace HB:=bS HB hb;have Bf:=nl D hg;have Bg:=nr D hg;replace D:=bv D hb;clear hb hbox hg;have Bs:=Bf.o;have Bt:=Bg.o;have:=cf5 D)|((with_reducible refine gD 7 rfl ?_);refine boxW ?_;intro AX hg Bu hbox hb;have A4:=aK hbox;have BJ:=gW HB hg;replace HB:=bS HB hb;have AC:=nl J hg;have AD:=nr J hg;have Bz:=nl D hg;replace D:=bv D hb;replace J:=bv J hb;clear hb hbox hg;have Bv:=AC.o;have Bw:=AD.o;have:=cf5 A4))
 go_loopg [8] l2.length (fun kq v8 w'=>∃(x:Int) (AO:Option Addr) (cO:Nat),v8 = .int .i64 x∧Aside0 (0≤x∧x+kq=l2.length)∧Aside0 (Kd.R k35 35 w' w.heap.size (fun _=>True) (.slice AO (delS l1 (l2.take x.toNat)).length cO) (delS l1 (l2.take x.toNat)))∧Aside0 (w'.heap[AX]? = some (.cells #[.int .i64 A5,.int .i64 A6,.slice AO (delS l1 (l2.take x.toNat)).length cO,.slice Y l1.length Z,.slice none 0 0] 28 (0,0)))∧Aside0 (w'.heap[AW]? = some (.cells #[.int .i64 0,.int .i64 0,.slice none 0 0,.slice none 0 0,.slice none 0 0] 28 (0,0)))∧Aside0 (Below w.heap.size w w'))
 case atStart=>exact⟨0,none,0,fa,⟨by omega,by omega⟩,⟨Kd.R_nil _ _ _ _ _⟩,⟨bkk⟩,⟨bkk⟩,⟨bl⟩⟩
 case round=>
  obtain⟨x,AO,cO,rfl,HX,HO,A4,J,HB⟩:=hrel;have hx:=HX.o;by_cases c:x<(l2.length:Int)
  ·have ccb:decide (x<(l2.length:Int))=true:=dt c;have hstep:=delS_snoc l1 l2 x hx.1 c;obtain⟨ad,e,A8,A9,Al⟩:=at_T35 Br.o x hx.1 c;cases e;have Bh:=A8;have Bi:=A9;have Bj:=Al;replace A8:=cz HB A8;replace A9:=cz HB A9;replace Al:=cz HB Al;have p1:(0≤x)=True:=eq_true hx.1;have p2:(x<(l2.length:Int))=True:=eq_true c;have hw:wrap64 (x+1)=x+1:=by have:=HL.o;unfold wrap64;omega
   have HW:=aK hw;clear hw;by_cases c2:(l1.any (fun y=>y.f1==(rd_T35 l2 x).f0))=true
   ·rw[if_pos c2]at hstep;have HS:=aK hstep;have hA:=HA.o (rd_T35 l2 x).f0;rw[c2]at hA;have AY:=aK hA;have U:=aK (And.intro hx.1 c);clear hstep hx c c2 hA;go_wp2_with (first|(go_at_call 37;(with_reducible refine(spec_l4Linked.calls _ Y Z l1 _ true _ ?_ As.o AY.o).mono ?_);exact(Kd.C_below Ar.o bl);rintro e w' ⟨rfl,⟨nd,rfl⟩⟩));replace HO:=aK (Kd.R_drew (Kd.R_drewN HO.o nd));replace A4:=aK (blk_drew (blk_drewN A4.o nd));replace J:=aK (blk_drew (blk_drewN J.o nd));replace HB:=aK (below_drew1 (pw_below_drewN HB.o nd));refine start_ (n:=10) (S:=fun w'=>w'.cell? ⟨AX,2,none⟩=some (.slice AO (delS l1 (l2.take x.toNat)).length cO)∧w'.cell? (ad.add ((x).toNat*3))=some (.int .i64 (rd_T35 l2 x).f0)∧w'.cell? ⟨(ad.add ((x).toNat*3)).block,(ad.add ((x).toNat*3)).off+1,none⟩=some (.string (rd_T35 l2 x).f1)∧w'.cell? ⟨(ad.add ((x).toNat*3)).block,(ad.add ((x).toNat*3)).off+2,none⟩=some (.int .i64 (rd_T35 l2 x).f2)) (ds:=[9]) (bo 10 0) (by kernel_rfl) rfl rfl ⟨cb 2 A4,cz HB Bh,cz HB Bi,cz HB Bj⟩ (fun hHeld=>?_);generalize (World.drew _)=BK at HO A4 J HB hHeld ⊢;refine pV 0 28 (bo 10 1) ?_;refine pV 2 30 (bo 10 5) ?_;refine pV 3 31 (bo 10 13) ?_;refine pV 4 32 (bo 10 29) ?_;refine tV 1 29 (bo 10 31) ?_;refine tV 5 33 (bo 10 63) ?_;refine o1 6 34 (bo 10 127) (fun K hK=>?_);refine value_ (w1:=?_) (v:=?_) (by rfl) rfl ?_ ?_
    rotate_left 2
    ·go_simp;constructor
     ·rfl
     ·rfl
    refine hK.out _ _ ⟨(World.cell?_alloc_lt _ _ _ (bL _ _ hHeld.1)).trans hHeld.1,(World.cell?_alloc_lt _ _ _ (bL _ _ hHeld.2.1)).trans hHeld.2.1,(World.cell?_alloc_lt _ _ _ (bL _ _ hHeld.2.2.1)).trans hHeld.2.2.1,(World.cell?_alloc_lt _ _ _ (bL _ _ hHeld.2.2.2)).trans hHeld.2.2.2⟩ (fun hHeld=>?_);clear hK K;refine nm 34 ?_;refine o1 7 35 (bo 10 255) (fun K hK=>?_);refine Kd.R_append_step k35 (w0:=w) w.heap.size (by rfl) (.tmp 29) (.tmp 34) 24 35 (.agg #[(.int .i64 0),(.string ⟨#[]⟩),(.int .i64 0)]) 32 rfl Try.underlying24 info35 rfl (by decide) (by omega) (.slice AO (delS l1 (l2.take x.toNat)).length cO) (delS l1 (l2.take x.toNat)) (rd_T35 l2 x) [.int .i64 (rd_T35 l2 x).f0,.string (rd_T35 l2 x).f1,.int .i64 (rd_T35 l2 x).f2] (fun _=>True) (fun _=>False) rfl rfl ?aP (fun _ hk=>hk.elim) ?aF ?aO ?aB ?aS ?aL ?_
    case aP=>exact k35_mkM _ _ _ (rd_T35 l2 x)
    case aB=>exact bl
    case aF=>exact(fun _ _=>trivial)
    case aO=>exact HO.o
    case aS=>exact(below_size bl)
    case aL=>
     have h1:=HL.o;have h2:=U.o;have h3:(delS l1 (l2.take x.toNat)).length≤x.toNat:=by
      refine Nat.le_trans (List.length_filter_le _ _) ?_;rw[List.length_take];omega
     omega
    intro BL Bu ho hb hg hat;obtain⟨AP,cP,Bx⟩:=Kd.R_slice ho;subst Bx;have Au:=HS.o;rw[←Au]at ho;have By:(delS l1 (l2.take x.toNat)).length+1=(delS l1 (l2.take (x+1).toNat)).length:=by rw[Au];simp
    replace A4:=aK (blk_grown (g:=AX) (o:=.cells #[.int .i64 A5,.int .i64 A6,.slice AO (delS l1 (l2.take x.toNat)).length cO,.slice Y l1.length Z,.slice none 0 0] 28 (0,0)) bk hg (Kd.R_ne HO.o A4.o (by decide)));replace J:=aK (blk_grown (g:=AW) (o:=.cells #[.int .i64 0,.int .i64 0,.slice none 0 0,.slice none 0 0,.slice none 0 0] 28 (0,0)) bk hg (Kd.R_ne HO.o J.o (by decide)));replace HO:=aK ho;replace HB:=aK hb;clear ho hb hg hat;rw[←Au];clear Au By;refine hK.out _ _ ⟨cb 2 A4,cz HB Bh,cz HB Bi,cz HB Bj⟩ (fun hHeld=>?_);clear hK K;refine nm 35 ?_;refine pV 8 36 (bo 10 511) ?_;obtain⟨Aa,Ab,Ai,AJ,AK,Ac,Ad,Aj,AL,AM⟩:=cf5 A4;refine last_ (i:=9) (N:=none) (bo 10 1023) rfl rfl (by kernel_rfl) (by decide) (fun K hK=>?_);refine skip_ (w1:=?_) (by rfl) rfl ?_ ?_
    rotate_left
    ·go_simp;rfl
    refine hK.out _ _ ?_;clear hK K;refine done_ (by kernel_rfl) ?_;(try go_wp2)
    go_roundg (gk-1)
    case measure=>have:=HX.o;have:=U.o;omega
    case rel=>exact⟨wrap64 (x+1),AP,cP,fa,⟨by rw[HW.o];have:=U.o;omega,by rw[HW.o];have:=HX.o;have:=U.o;omega⟩,⟨by rw[HW.o];exact f1 HO A4⟩,⟨by rw[HW.o];exact blk_put A4.o 2 _ rfl⟩,⟨by first|exact blk_far J.o AC.o _|exact blk_far J.o AD.o _⟩,⟨bl⟩⟩
   ·rw[if_neg c2,List.append_nil]at hstep;have Ap:(l1.any (fun y=>y.f1==(rd_T35 l2 x).f0))=false:=by simpa using c2
    have HS:=aK hstep;have hA:=HA.o (rd_T35 l2 x).f0;rw[Ap]at hA;have AY:=aK hA;have U:=aK (And.intro hx.1 c);clear hstep hx c c2 Ap hA;go_wp2_with (first|(go_at_call 37;(with_reducible refine(spec_l4Linked.calls _ Y Z l1 _ false _ ?_ As.o AY.o).mono ?_);exact(Kd.C_below Ar.o bl);rintro e w' ⟨rfl,⟨nd,rfl⟩⟩))
    go_roundg (gk-1)
    case measure=>have:=HX.o;have:=U.o;omega
    case rel=>exact⟨wrap64 (x+1),AO,cO,fa,⟨by rw[HW.o];have:=U.o;omega,by rw[HW.o];have:=HX.o;have:=U.o;omega⟩,⟨by rw[HW.o,HS.o];exact rpR HO.o⟩,⟨by rw[HW.o,HS.o];exact bk⟩,⟨bk⟩,⟨bl⟩⟩
  ·have ccb:decide (x<(l2.length:Int))=false:=df c;have HT:=aK (show delS l1 (l2.take x.toNat)=r3 by rw[List.take_of_length_le (by omega)];exact H3.o);rw[HT.o]at HO A4;clear hx c;have:=cf5 A4;have:=cf5 J;go_wp2;refine bodyPost_ret (results_cell_row rfl _ _ AW 28 #[.int .i64 A5,.int .i64 A6,.slice AO r3.length cO,.slice Y l1.length Z,.slice none 0 0] (0,0) _ rfl bkk Try.underlying28 rfl (by kernel_rfl)) rfl ?_;exact⟨_,_,_,fe,rpR (rM (f5 HO J) (fun _ hk=>trivial)),⟨rfl,trivial⟩,Kd.R_nil _ _ _ _ _,bl⟩
end Go.Proofs.Ytndbmllnkjngnaa.PDs
