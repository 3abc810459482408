/- Contracts of settle and l4Settled, and of Go's library functions at inodes: made by hand. -/
import Derived.Test.YtndbmllnkjngnaaGreatPDsx0
import Derived.Test.YtndbmllnkjngnaaGreatPDsx31
import Derived.Test.YtndbmllnkjngnaaGreatPDsxH
import Derived.Test.YtndbmllnkjngnaaGreatZup
import Derived.Lib.SliceRun
import Derived.Outline
namespace Go.Proofs.YtndbmllnkjngnaaGreat.PDs
open Go.RowKit Go.Proofs.YtndbmllnkjngnaaGreatW.PrintWords Go.Proofs.YtndbmllnkjngnaaGreatW.PrintLast Go.Proofs.YtndbmllnkjngnaaGreatW.PrintMore Go.Proofs.YtndbmllnkjngnaaGreat.Zip
set_option linter.unusedVariables false
set_option linter.unusedSimpArgs false
set_option maxHeartbeats 8000000
set_option maxRecDepth 100000
theorem settle_2 (x0:ByteArray) (x1:Int) (a:Int) (b:ByteArray) (c:Int) (g:Nat) (w:World) (hb:w.heap[g]? = some (.cells #[.int .i64 a,.string b,.int .i64 c] 130 (0,0))) :
 Calls Tryz.prog 166 #[.agg #[.string x0,.int .i64 x1],.pointer (some ⟨g,0,none⟩)] w fun e w'=>e = .returned (.bool (x1==a))∧Below w.heap.size w w':=by
 have B0:=Tryz.underlying133
 have An:=Tryz.underlying130
 have D:=Aside0.mk hb
 have HB:=Aside0.mk (Below.refl w.heap.size w)
 clear hb
 go_enter Tryz.func166,Tryz.ntmps166
 go_wp2_with (first|((with_reducible refine gD 2 rfl ?_);refine boxW ?_;intro gb hg w1 hbox hb;replace D:=bv D hb;have J:=Aside0.mk hbox;have AE:=gw (w:=w) hg;replace HB:=bs (w:=w) hb;clear hb hbox hg;obtain⟨A7,Ao,AF,AG,Bz,B_⟩:=cf3 D;obtain⟨Aa,Ab,Ac,Ad⟩:=cf2 J))
 go_ret
 exact⟨fe,bl⟩
def ixi (a:Int):List (S133)→Int→Int
 | [],_=>-1
 |x::r,i=>if(x.f1==a)=true then i else ixi a r (i+1)
theorem ixi_drop (a:Int) (l:List (S133)) (i:Int) (h0:0≤i) (h1:i<(l.length:Int)):ixi a (l.drop i.toNat) i=if((rd_T133 l i).f1==a)=true then i else ixi a (l.drop (i+1).toNat) (i+1):=by
 have hlt:i.toNat<l.length:=by omega
 rw[List.drop_eq_getElem_cons hlt,show(i+1).toNat=i.toNat+1 by omega]
 have:rd_T133 l i=l[i.toNat]:=by unfold rd_T133;rw[List.getD_eq_getElem?_getD,List.getElem?_eq_getElem hlt];rfl
 rw[this];rfl
theorem ixi_any (a:Int):∀(l:List (S133)) (i:Int),0≤i→(decide (ixi a l i≥0))=l.any (fun x=>x.f1==a)
 | [],i,h=>by simp[ixi]
 |x::r,i,h=>by
  by_cases c:(x.f1==a)=true
  · simp[ixi,c,h]
  · have c':(x.f1==a)=false:=by simpa using c
    have:=ixi_any a r (i+1) (by omega)
    simp only[ixi,c',List.any_cons,Bool.false_or];exact this
theorem indexLink2 (A0:Option Addr) (c0:Nat) (l0:List (S133)) (a:Int) (b:ByteArray) (c_:Int) (g:Nat) (w:World) (Ae:Kd.C k133 w A0 l0.length l0) (A7:l0.length≤c0) (hb:w.heap[g]? = some (.cells #[.int .i64 a,.string b,.int .i64 c_] 130 (0,0))) :
 Calls Tryz.prog 187 #[.slice A0 l0.length c0,.func (.func 166) #[] #[.pointer (some ⟨g,0,none⟩)]] w fun e w'=>e = .returned (.int .i64 (ixi a l0 0))∧Below w.heap.size w w':=by
 have B0:=Tryz.underlying133
 have eg:=fun(args:Array Value) (w:World)=>enters_ (P:=Tryz.prog) Tryz.func166 (by kernel_rfl) rfl args w
 have hlen:=Ae.2.1
 have HL:=Aside0.mk hlen
 have Aq:=Aside0.mk Ae
 have Ak:=Aside0.mk A7
 have D:=Aside0.mk hb
 have HB:=Aside0.mk (Below.refl w.heap.size w)
 obtain⟨r,hr⟩:∃r,ixi a l0 0=r:=⟨_,rfl⟩
 rw[hr]
 have H':=Aside0.mk (show ixi a (l0.drop (0:Int).toNat) 0=r from hr)
 clear Ae A7 hb hlen hr
 go_enter Tryz.func187,Tryz.ntmps187
 go_wp2
 go_loopg [8] l0.length (fun kq v8 w'=>∃x:Int,v8 = .int .i64 x∧Aside0 (0≤x∧x+kq=l0.length)∧Aside0 (ixi a (l0.drop x.toNat) x=r)∧Aside0 (w'.heap[g]? = some (.cells #[.int .i64 a,.string b,.int .i64 c_] 130 (0,0)))∧Aside0 (Below w.heap.size w w'))
 case atStart=>exact⟨0,fa,⟨by omega,by omega⟩,H',D,HB⟩
 case round=>
  clear H'
  obtain⟨x,rfl,HX,H,D,HB⟩:=hrel
  have hx:=HX.out
  by_cases c:x<(l0.length:Int)
  · have cb:decide (x<(l0.length:Int))=true:=decide_eq_true c
    have hstep:=ixi_drop a l0 x hx.1 c
    rw[H.out]at hstep
    obtain⟨ad,e,A8,A9⟩:=at_T133 Aq.out x hx.1 c
    cases e
    replace A8:=cz HB A8
    replace A9:=cz HB A9
    have p1:(0≤x)=True:=eq_true hx.1
    have p2:(x<(l0.length:Int))=True:=eq_true c
    have hw:wrap64 (x+1)=x+1:=by have:=HL.out;unfold wrap64;omega
    have HW:=Aside0.mk hw
    clear hw
    by_cases c2:((rd_T133 l0 x).f1==a)=true
    · rw[if_pos c2]at hstep
      have HS:=Aside0.mk hstep
      clear hstep hx c
      go_wp2_with (first|(go_at_call 166;(with_reducible refine(settle_2 _ _ a b c_ g _ (bk)).mono ?_);rintro e w' ⟨rfl,hb⟩;replace HB:=bs (w:=w) hb;clear hb))
      go_ret
      exact⟨by first|(rw[HS.out];done)|(rw[HS.out];rfl),bl⟩
    · rw[if_neg c2]at hstep
      have Ap:((rd_T133 l0 x).f1==a)=false:=by simpa using c2
      have HS:=Aside0.mk hstep
      have U:=Aside0.mk (And.intro hx.1 c)
      clear hstep hx c c2
      go_wp2_with (first|(go_at_call 166;(with_reducible refine(settle_2 _ _ a b c_ g _ (bk)).mono ?_);rintro e w' ⟨rfl,hb⟩;replace D:=bv D hb;replace HB:=bs (w:=w) hb;clear hb))
      go_roundg (gk-1)
      case measure=>have:=HX.out;have:=U.out;omega
      case rel=>exact⟨wrap64 (x+1),fa,⟨by rw[HW.out];have:=U.out;omega,by rw[HW.out];have:=HX.out;have:=U.out;omega⟩,⟨by rw[HW.out];exact HS.out.symm⟩,⟨bk⟩,⟨bl⟩⟩
  · have cb:decide (x<(l0.length:Int))=false:=decide_eq_false c
    have hd:l0.drop x.toNat = []:=List.drop_of_length_le (by omega)
    have HS:=Aside0.mk (show r = -1 by rw[←H.out,hd];rfl)
    clear hx c hd
    go_wp2
    go_ret
    exact⟨by first|(rw[HS.out];done)|(rw[HS.out];rfl),bl⟩
theorem containsLink (A0:Option Addr) (c0:Nat) (l0:List (S133)) (a:Int) (b:ByteArray) (c_:Int) (g:Nat) (w:World) (Ae:Kd.C k133 w A0 l0.length l0) (A7:l0.length≤c0) (hb:w.heap[g]? = some (.cells #[.int .i64 a,.string b,.int .i64 c_] 130 (0,0))) :
 Calls Tryz.prog 165 #[.slice A0 l0.length c0,.func (.func 166) #[] #[.pointer (some ⟨g,0,none⟩)]] w fun e w'=>e = .returned (.bool (l0.any (fun x=>x.f1==a)))∧Below w.heap.size w w':=by
 have Aq:=Aside0.mk Ae
 have Ak:=Aside0.mk A7
 have D:=Aside0.mk hb
 have HB:=Aside0.mk (Below.refl w.heap.size w)
 have hA:=ixi_any a l0 0 (by omega)
 obtain⟨r,hr⟩:∃r,l0.any (fun x=>x.f1==a)=r:=⟨_,rfl⟩
 obtain⟨q,hq⟩:∃q,ixi a l0 0=q:=⟨_,rfl⟩
 rw[hr]at hA ⊢
 rw[hq]at hA
 have HQ:=Aside0.mk hq
 have hA':decide (0≤q)=r:=hA
 clear Ae A7 hb hr hq hA
 go_enter Tryz.func165,Tryz.ntmps165
 go_wp2_with (first|(go_at_call 187;(with_reducible refine(indexLink2 A0 c0 l0 a b c_ g _ (Kd.C_below Aq.out bl) Ak.out (bk)).mono ?_);rintro e w' ⟨rfl,hb⟩;rw[HQ.out];replace HB:=bs (w:=w) hb;clear hb))
 go_ret
 exact⟨by first|exact fe|rfl|simp,bl⟩
theorem settle_1 (a:Int) (b:ByteArray) (c_:Int) (Y:Option Addr) (Z:Nat) (l1:List (S133)) (g:Nat) (w:World) (A3:Kd.C k133 w Y l1.length l1) (Ao:l1.length≤Z) (hb:w.heap[g]? = some (.cells #[.slice Y l1.length Z] 32 (0,0))) :
 Calls Tryz.prog 164 #[.agg #[.int .i64 a,.string b,.int .i64 c_],.pointer (some ⟨g,0,none⟩)] w fun e w'=>e = .returned (.bool (!(l1.any (fun x=>x.f1==a))))∧Below w.heap.size w w':=by
 have An:=Tryz.underlying130
 have B1:=Tryz.underlying32
 have Ar:=Aside0.mk A3
 have As:=Aside0.mk Ao
 have D:=Aside0.mk hb
 have HB:=Aside0.mk (Below.refl w.heap.size w)
 clear A3 Ao hb
 go_enter Tryz.func164,Tryz.ntmps164
 go_wp2_with (first|((with_reducible refine gD 2 rfl ?_);refine boxW ?_;intro gb hg w1 hbox hb;replace D:=bv D hb;have J:=Aside0.mk hbox;have AE:=gw (w:=w) hg;replace HB:=bs (w:=w) hb;clear hb hbox hg;obtain⟨A7,AG⟩:=cf1 D)|(go_at_call 165;(with_reducible refine(containsLink Y Z l1 a b c_ gb _ (Kd.C_below Ar.out bl) As.out (bk)).mono ?_);rintro e w' ⟨rfl,hb⟩;replace HB:=bs (w:=w) hb;clear hb))
 go_ret
 exact⟨fe,bl⟩
def gone (l1:List (S133)) (a:Int):Bool:=!(l1.any (fun x=>x.f1==a))
theorem settle_g (x:S130) (u:Value) (hu:u = .agg #[.int .i64 x.f0,.string x.f1,.int .i64 x.f2]) (Y:Option Addr) (Z:Nat) (l1:List (S133)) (g b1:Nat) (ok:Nat→Prop) (w:World) (A3:Kd.R k133 133 w b1 ok (.slice Y l1.length Z) l1) (hb:w.heap[g]? = some (.cells #[.slice Y l1.length Z] 32 (0,0))) :
 Calls Tryz.prog 164 #[u,.pointer (some ⟨g,0,none⟩)] w fun e w'=>e = .returned (.bool (gone l1 x.f0))∧Below w.heap.size w w':=by
 subst hu;exact settle_1 _ _ _ Y Z l1 g w (Kd.R_reads' A3).2.2 (Kd.R_reads' A3).2.1 hb
def ixs (l1:List (S133)):List (S130)→Int→Int
 | [],_=>-1
 |x::r,i=>if gone l1 x.f0=true then i else ixs l1 r (i+1)
theorem ixs_drop (l1:List (S133)) (l:List (S130)) (i:Int) (h0:0≤i) (h1:i<(l.length:Int)):ixs l1 (l.drop i.toNat) i=if gone l1 (rd_T130 l i).f0=true then i else ixs l1 (l.drop (i+1).toNat) (i+1):=by
 have hlt:i.toNat<l.length:=by omega
 rw[List.drop_eq_getElem_cons hlt,show(i+1).toNat=i.toNat+1 by omega]
 have:rd_T130 l i=l[i.toNat]:=by unfold rd_T130;rw[List.getD_eq_getElem?_getD,List.getElem?_eq_getElem hlt];rfl
 rw[this];rfl
theorem indexInode2 (A0:Option Addr) (c0:Nat) (l0:List (S130)) (Y:Option Addr) (Z:Nat) (l1:List (S133)) (g b1:Nat) (ok:Nat→Prop) (w:World) (A3:Kd.R k133 133 w b1 ok (.slice Y l1.length Z) l1) (Ae:Kd.C k130 w A0 l0.length l0) (A7:l0.length≤c0) (hb:w.heap[g]? = some (.cells #[.slice Y l1.length Z] 32 (0,0))) :
 Calls Tryz.prog 167 #[.slice A0 l0.length c0,.func (.func 164) #[] #[.pointer (some ⟨g,0,none⟩)]] w fun e w'=>e = .returned (.int .i64 (ixs l1 l0 0))∧Below w.heap.size w w':=by
 have An:=Tryz.underlying130
 have eg:=fun(args:Array Value) (w:World)=>enters_ (P:=Tryz.prog) Tryz.func164 (by kernel_rfl) rfl args w
 have hlen:=Ae.2.1
 have HL:=Aside0.mk hlen
 have Aq:=Aside0.mk Ae
 have X:=Aside0.mk A3
 have Ak:=Aside0.mk A7
 have D:=Aside0.mk hb
 have HB:=Aside0.mk (Below.refl w.heap.size w)
 obtain⟨r,hr⟩:∃r,ixs l1 l0 0=r:=⟨_,rfl⟩
 rw[hr]
 have H':=Aside0.mk (show ixs l1 (l0.drop (0:Int).toNat) 0=r from hr)
 clear Ae A3 A7 hb hlen hr
 go_enter Tryz.func167,Tryz.ntmps167
 go_wp2
 go_loopg [8] l0.length (fun kq v8 w'=>∃x:Int,v8 = .int .i64 x∧Aside0 (0≤x∧x+kq=l0.length)∧Aside0 (ixs l1 (l0.drop x.toNat) x=r)∧Aside0 (w'.heap[g]? = some (.cells #[.slice Y l1.length Z] 32 (0,0)))∧Aside0 (Below w.heap.size w w'))
 case atStart=>exact⟨0,fa,⟨by omega,by omega⟩,H',D,HB⟩
 case round=>
  clear H'
  obtain⟨x,rfl,HX,H,D,HB⟩:=hrel
  have hx:=HX.out
  by_cases c:x<(l0.length:Int)
  · have cb:decide (x<(l0.length:Int))=true:=decide_eq_true c
    have hstep:=ixs_drop l1 l0 x hx.1 c
    rw[H.out]at hstep
    obtain⟨ad,e,A8,A9,Al⟩:=at_T130 Aq.out x hx.1 c
    cases e
    replace A8:=cz HB A8
    replace A9:=cz HB A9
    replace Al:=cz HB Al
    have p1:(0≤x)=True:=eq_true hx.1
    have p2:(x<(l0.length:Int))=True:=eq_true c
    have hw:wrap64 (x+1)=x+1:=by have:=HL.out;unfold wrap64;omega
    have HW:=Aside0.mk hw
    clear hw
    by_cases c2:gone l1 (rd_T130 l0 x).f0=true
    · rw[if_pos c2]at hstep
      have HS:=Aside0.mk hstep
      clear hstep hx c
      go_wp2_with (first|(go_at_call 164;(with_reducible refine(settle_g (rd_T130 l0 x) _ rfl Y Z l1 g b1 ok _ (Kd.R_below X.out bl) (bk)).mono ?_);rintro e w' ⟨rfl,hb⟩;replace HB:=bs (w:=w) hb;clear hb))
      go_ret
      exact⟨by first|(rw[HS.out];done)|(rw[HS.out];rfl),bl⟩
    · rw[if_neg c2]at hstep
      have Ap:gone l1 (rd_T130 l0 x).f0=false:=by simpa using c2
      have HS:=Aside0.mk hstep
      have U:=Aside0.mk (And.intro hx.1 c)
      clear hstep hx c c2
      go_wp2_with (first|(go_at_call 164;(with_reducible refine(settle_g (rd_T130 l0 x) _ rfl Y Z l1 g b1 ok _ (Kd.R_below X.out bl) (bk)).mono ?_);rintro e w' ⟨rfl,hb⟩;replace D:=bv D hb;replace HB:=bs (w:=w) hb;clear hb))
      go_roundg (gk-1)
      case measure=>have:=HX.out;have:=U.out;omega
      case rel=>exact⟨wrap64 (x+1),fa,⟨by rw[HW.out];have:=U.out;omega,by rw[HW.out];have:=HX.out;have:=U.out;omega⟩,⟨by rw[HW.out];exact HS.out.symm⟩,⟨bk⟩,⟨bl⟩⟩
  · have cb:decide (x<(l0.length:Int))=false:=decide_eq_false c
    have hd:l0.drop x.toNat = []:=List.drop_of_length_le (by omega)
    have HS:=Aside0.mk (show r = -1 by rw[←H.out,hd];rfl)
    clear hx c hd
    go_wp2
    go_ret
    exact⟨by first|(rw[HS.out];done)|(rw[HS.out];rfl),bl⟩
def delS (l1:List (S133)) (l:List (S130)):List (S130):=l.filter (fun x=>!(gone l1 x.f0))
theorem ixs_spec (l1:List (S133)):∀(l:List (S130)) (i:Int),0≤i→(ixs l1 l i = -1∧delS l1 l=l)∨(∃n:Nat,ixs l1 l i=i+n∧n<l.length∧delS l1 l=l.take n++delS l1 (l.drop (n+1)))
 | [],i,_=>.inl ⟨rfl,rfl⟩
 |x::r,i,h=>by
  by_cases c:gone l1 x.f0=true
  · exact .inr ⟨0,by simp[ixs,c],by simp,by simp[delS,c]⟩
  · have c':gone l1 x.f0=false:=by simpa using c
    have e:delS l1 (x::r)=x::delS l1 r:=by simp[delS,c']
    have e2:ixs l1 (x::r) i=ixs l1 r (i+1):=by simp[ixs,c']
    rcases ixs_spec l1 r (i+1) (by omega)with⟨h1,h2⟩|⟨n,h1,h2,h3⟩
    · exact .inl ⟨by rw[e2,h1],by rw[e,h2]⟩
    · exact .inr ⟨n+1,by rw[e2,h1];omega,by simp;omega,by rw[e,h3];rfl⟩
theorem deleteInode (u:Value) (l0:List (S130)) (Y:Option Addr) (Z:Nat) (l1:List (S133)) (g b1:Nat) (ok:Nat→Prop) (w0 w:World) (hB:Below w0.heap.size w0 w) (ho:Kd.R k130 130 w w0.heap.size (fun _=>True) u l0) (hlim:l0.length<4398046511104) (A3:Kd.R k133 133 w b1 ok (.slice Y l1.length Z) l1) (hb:w.heap[g]? = some (.cells #[.slice Y l1.length Z] 32 (0,0))) :
 Calls Tryz.prog 163 #[u,.func (.func 164) #[] #[.pointer (some ⟨g,0,none⟩)]] w fun e w'=>∃v,e = .returned v∧Kd.R k130 130 w' w0.heap.size (fun _=>True) v (delS l1 l0)∧Kd.R k133 133 w' b1 ok (.slice Y l1.length Z) l1∧Below w0.heap.size w0 w':=by
 have An:=Tryz.underlying130
 have eg:=fun(args:Array Value) (w:World)=>enters_ (P:=Tryz.prog) Tryz.func164 (by kernel_rfl) rfl args w
 have HL:=Aside0.mk hlim
 have X:=Aside0.mk A3
 have D:=Aside0.mk hb
 have HB:=Aside0.mk hB
 have HO:=Aside0.mk ho
 clear hB hb hlim A3
 rcases ixs_spec l1 l0 0 (by omega)with⟨h1,h2⟩|⟨n,h1,h2,h3⟩
 · obtain⟨A,c,rfl,hlc,hC⟩:=Kd.R_reads ho
   have HI:=Aside0.mk h1
   have Ak:=Aside0.mk hC
   have HLC:=Aside0.mk hlc
   rw[h2]
   clear ho h1 h2 hC hlc
   go_enter Tryz.func163,Tryz.ntmps163
   go_wp2_with (first|(go_at_call 167;(with_reducible refine(indexInode2 A c l0 Y Z l1 g b1 ok _ X.out Ak.out HLC.out (bk)).mono ?_);rintro e w' ⟨rfl,hb⟩;rw[HI.out];have AH:=Aside0.mk (Kd.R_below HO.out hb);replace X:=Aside0.mk (Kd.R_below X.out hb);replace HB:=bs (w:=w0) hb;clear hb))
   go_ret
   exact⟨_,rfl,AH.out,X.out,bl⟩
 · have Bk:0<l0.length:=by omega
   obtain⟨g2,cap,rfl,hcap⟩:∃g2 cap,u = .slice (some ⟨g2,0,none⟩) l0.length cap∧l0.length≤cap:=by
    obtain⟨_,inner,⟨hl,hown⟩,hr⟩:=ho
    rcases hown with⟨rfl,hz⟩|⟨g2,cap,cur,rfl,_,_,hle,_⟩
    · omega
    · exact⟨g2,cap,rfl,hle⟩
   have HNE:=Aside0.mk (show g≠g2 from fun e_=>Kd.R_ne ho D.out (by decide) (by rw[e_];rfl))
   obtain⟨BA,Aw⟩:=(show ∃cells,w.heap[g2]? = some (.cells cells 130 (0,0))from(by obtain⟨inner,Bl⟩:=Kd.R_own ho;exact own_typed Bl g2 rfl))
   replace X:=Aside0.mk (Kd.R_types X.out Aw (by decide))
   clear Aw
   have hC:=(Kd.R_reads' ho).2.2
   have Ak:=Aside0.mk hC
   have HLC:=Aside0.mk hcap
   have HI:=Aside0.mk h1
   have HD:Aside0 (l0.take n++delS l1 (l0.drop (n+1))=delS l1 l0):=⟨h3.symm⟩
   have HN:=Aside0.mk h2
   obtain⟨r,hr⟩:∃r,delS l1 l0=r:=⟨_,rfl⟩
   rw[hr]at HD ⊢
   clear ho h1 h2 h3 hC hcap hr Bk
   have e1:wrap64 ((n:Int)+1)=(n:Int)+1:=by have:=HN.out;have:=HL.out;unfold wrap64;omega
   have hne:((n:Int) == -1)=false:=by simp
   go_enter Tryz.func163,Tryz.ntmps163
   go_wp2_with (first|(go_at_call 167;(with_reducible refine(indexInode2 (some ⟨g2,0,none⟩) cap l0 Y Z l1 g b1 _ _ X.out Ak.out HLC.out (bk)).mono ?_);rintro e w' ⟨rfl,hb⟩;rw[show ixs l1 l0 0=(n:Int) by rw[HI.out];omega];replace HO:=Aside0.mk (Kd.R_below HO.out hb);replace X:=Aside0.mk (Kd.R_below X.out hb);replace D:=bv D hb;replace HB:=bs (w:=w0) hb;clear hb))
   go_loopg [5,6] (l0.length-(n+1)) (fun kq v5 v6 w'=>∃(i j:Int) (xs:List (S130)),v5 = .int .i64 i∧v6 = .int .i64 j∧Aside0 (0≤i∧i<j∧j+kq=l0.length)∧Aside0 (xs.length=l0.length)∧Aside0 (xs.take i.toNat++delS l1 (l0.drop j.toNat)=r)∧Aside0 (xs.drop j.toNat=l0.drop j.toNat)∧Aside0 (Kd.R k130 130 w' w0.heap.size (fun _=>True) (.slice (some ⟨g2,0,none⟩) l0.length cap) xs)∧Aside0 (Kd.R k133 133 w' b1 (fun k=>ok k∧k≠g2) (.slice Y l1.length Z) l1)∧Aside0 (w'.heap[g]? = some (.cells #[.slice Y l1.length Z] 32 (0,0)))∧Aside0 (Below w0.heap.size w0 w'))
   case atStart=>exact⟨(n:Int),wrap64 ((n:Int)+1),l0,fa,fa,⟨by rw[e1];have:=HN.out;omega⟩,⟨rfl⟩,⟨by rw[e1];exact HD.out⟩,⟨rfl⟩,HO,X,D,HB⟩
   case round=>
    clear Ak e1 hne HD HI
    obtain⟨i,j,xs,rfl,rfl,HX,HXL,H,HT,HO,X,D,HB⟩:=hrel
    have hx:=HX.out
    by_cases c:j<(l0.length:Int)
    · have cb:decide (j<(l0.length:Int))=true:=decide_eq_true c
      have hC:=(Kd.R_reads' HO.out).2.2
      rw[HXL.out]at hC
      obtain⟨ad,e,A8,A9,Al⟩:=at_T130 hC j (by omega) c
      cases e
      obtain⟨ad,e,Bm,Bn,Bo⟩:=at_T130 hC i (by omega) (by omega)
      cases e
      simp only[addz]at A8 A9 Al Bm Bn Bo
      have p1:(0≤j)=True:=eq_true (by omega)
      have p2:(j<(l0.length:Int))=True:=eq_true c
      have q1:(0≤i)=True:=eq_true (by omega)
      have q2:(i<(l0.length:Int))=True:=eq_true (by omega)
      have HW:=Aside0.mk (show wrap64 (j+1)=j+1 by have:=HL.out;unfold wrap64;omega)
      have B2:=Aside0.mk (show wrap64 (i+1)=i+1 by have:=HL.out;unfold wrap64;omega)
      have hdj:l0.drop j.toNat=rd_T130 xs j::l0.drop (j+1).toNat:=by
       have hlt:j.toNat<xs.length:=by have:=HXL.out;omega
       have B3:j.toNat<l0.length:=by omega
       rw[←HT.out,List.drop_eq_getElem_cons hlt,show(j+1).toNat=j.toNat+1 by omega]
       have:rd_T130 xs j=xs[j.toNat]:=by unfold rd_T130;rw[List.getD_eq_getElem?_getD,List.getElem?_eq_getElem hlt];rfl
       rw[this]
       have ht:=congrArg List.tail HT.out
       rw[List.drop_eq_getElem_cons hlt,List.drop_eq_getElem_cons B3,List.tail_cons,List.tail_cons]at ht
       rw[ht]
      have B4:xs.drop (j+1).toNat=l0.drop (j+1).toNat:=by
       rw[show(j+1).toNat=j.toNat+1 by omega,←List.drop_drop,←List.drop_drop,HT.out]
      have B5:=Aside0.mk B4
      have U:=Aside0.mk (And.intro hx c)
      have hH:=H.out
      rw[hdj]at hH
      clear hx c hC B4 hdj
      by_cases c2:gone l1 (rd_T130 xs j).f0=true
      · have HH:Aside0 (xs.take i.toNat++delS l1 (l0.drop (j+1).toNat)=r):=⟨by rw[←hH];simp[delS,c2]⟩
        clear hH H HT
        go_wp2_with (first|((with_reducible refine gD 7 rfl ?_);refine boxW ?_;intro gb hg w1 hbox hb;have AI:=Aside0.mk (Kd.R_below (Kd.R_bound HO.out) hb);have Am:=Aside0.mk (Kd.R_below (Kd.R_bound X.out) hb);have HG:=Aside0.mk hg;have NB:=nl D hg;replace D:=bv D hb;have J:=Aside0.mk hbox;have AE:=gw (w:=w0) hg;replace HB:=bs (w:=w0) hb;clear hb hbox hg;obtain⟨Aa,Ab,Ai,Ac,Ad,Aj⟩:=cf3 J)|(go_at_call 164;(with_reducible refine(settle_g (rd_T130 xs j) _ rfl Y Z l1 g b1 (fun _=>True) _ ?sr ?sb).mono ?_);(case sb=>exact blk_far (blk_far (blk_far D.out NB.out _) NB.out _) NB.out _);(case sr=>exact Kd.R_mono (Kd.R_far (p:=⟨gb,2,none⟩) (Kd.R_far (p:=⟨gb,1,none⟩) (Kd.R_far (p:=⟨gb,0,none⟩) Am.out (fun k hk=>by rw[HG.out];exact Nat.ne_of_lt hk.2.2.1) _) (fun k hk=>by rw[HG.out];exact Nat.ne_of_lt hk.2.2.1) _) (fun k hk=>by rw[HG.out];exact Nat.ne_of_lt hk.2.2.1) _) (fun _ _=>trivial));rintro e w2 ⟨rfl,hb⟩;replace HO:=Aside0.mk (Kd.R_mono (Kd.R_below (Kd.R_far (p:=⟨gb,2,none⟩) (Kd.R_far (p:=⟨gb,1,none⟩) (Kd.R_far (p:=⟨gb,0,none⟩) AI.out (fun k hk=>by rw[HG.out];exact Nat.ne_of_lt hk.2.2.1) _) (fun k hk=>by rw[HG.out];exact Nat.ne_of_lt hk.2.2.1) _) (fun k hk=>by rw[HG.out];exact Nat.ne_of_lt hk.2.2.1) _) hb) (fun _ _=>trivial));replace X:=Aside0.mk (Kd.R_mono (Kd.R_below (Kd.R_far (p:=⟨gb,2,none⟩) (Kd.R_far (p:=⟨gb,1,none⟩) (Kd.R_far (p:=⟨gb,0,none⟩) Am.out (fun k hk=>by rw[HG.out];exact Nat.ne_of_lt hk.2.2.1) _) (fun k hk=>by rw[HG.out];exact Nat.ne_of_lt hk.2.2.1) _) (fun k hk=>by rw[HG.out];exact Nat.ne_of_lt hk.2.2.1) _) hb) (fun _ hk=>hk.1));replace D:=Aside0.mk (blk_below (blk_far (blk_far (blk_far D.out NB.out _) NB.out _) NB.out _) hb);replace J:=Aside0.mk (blk_below (blk_put (blk_put (blk_put J.out 0 _ rfl) 1 _ rfl) 2 _ rfl) hb);replace HB:=bs (w:=w0) hb;clear hb Aa Ab Ai Ac Ad Aj;obtain⟨Aa,Ab,Ai,Ac,Ad,Aj⟩:=cf3 J))
        go_roundg (gk-1)
        case measure=>have:=U.out;omega
        case rel=>exact⟨i,wrap64 (j+1),xs,fa,fa,⟨by rw[HW.out];have:=U.out;omega⟩,HXL,⟨by rw[HW.out];exact HH.out⟩,⟨by rw[HW.out];exact B5.out⟩,HO,X,D,HB⟩
      · have Ap:gone l1 (rd_T130 xs j).f0=false:=by simpa using c2
        have HH:Aside0 (xs.take i.toNat++(rd_T130 xs j::delS l1 (l0.drop (j+1).toNat))=r):=⟨by rw[←hH];simp[delS,Ap]⟩
        clear hH H HT c2
        go_wp2_with (first|((with_reducible refine gD 7 rfl ?_);refine boxW ?_;intro gb hg w1 hbox hb;have AI:=Aside0.mk (Kd.R_below (Kd.R_bound HO.out) hb);have Am:=Aside0.mk (Kd.R_below (Kd.R_bound X.out) hb);have HG:=Aside0.mk hg;have NB:=nl D hg;replace D:=bv D hb;have J:=Aside0.mk hbox;have AE:=gw (w:=w0) hg;replace HB:=bs (w:=w0) hb;clear hb hbox hg;obtain⟨Aa,Ab,Ai,Ac,Ad,Aj⟩:=cf3 J)|(go_at_call 164;(with_reducible refine(settle_g (rd_T130 xs j) _ rfl Y Z l1 g b1 (fun _=>True) _ ?sr ?sb).mono ?_);(case sb=>exact blk_far (blk_far (blk_far D.out NB.out _) NB.out _) NB.out _);(case sr=>exact Kd.R_mono (Kd.R_far (p:=⟨gb,2,none⟩) (Kd.R_far (p:=⟨gb,1,none⟩) (Kd.R_far (p:=⟨gb,0,none⟩) Am.out (fun k hk=>by rw[HG.out];exact Nat.ne_of_lt hk.2.2.1) _) (fun k hk=>by rw[HG.out];exact Nat.ne_of_lt hk.2.2.1) _) (fun k hk=>by rw[HG.out];exact Nat.ne_of_lt hk.2.2.1) _) (fun _ _=>trivial));rintro e w2 ⟨rfl,hb⟩;replace HO:=Aside0.mk (Kd.R_mono (Kd.R_below (Kd.R_far (p:=⟨gb,2,none⟩) (Kd.R_far (p:=⟨gb,1,none⟩) (Kd.R_far (p:=⟨gb,0,none⟩) AI.out (fun k hk=>by rw[HG.out];exact Nat.ne_of_lt hk.2.2.1) _) (fun k hk=>by rw[HG.out];exact Nat.ne_of_lt hk.2.2.1) _) (fun k hk=>by rw[HG.out];exact Nat.ne_of_lt hk.2.2.1) _) hb) (fun _ _=>trivial));replace X:=Aside0.mk (Kd.R_mono (Kd.R_below (Kd.R_far (p:=⟨gb,2,none⟩) (Kd.R_far (p:=⟨gb,1,none⟩) (Kd.R_far (p:=⟨gb,0,none⟩) Am.out (fun k hk=>by rw[HG.out];exact Nat.ne_of_lt hk.2.2.1) _) (fun k hk=>by rw[HG.out];exact Nat.ne_of_lt hk.2.2.1) _) (fun k hk=>by rw[HG.out];exact Nat.ne_of_lt hk.2.2.1) _) hb) (fun _ hk=>hk.1));replace D:=Aside0.mk (blk_below (blk_far (blk_far (blk_far D.out NB.out _) NB.out _) NB.out _) hb);replace J:=Aside0.mk (blk_below (blk_put (blk_put (blk_put J.out 0 _ rfl) 1 _ rfl) 2 _ rfl) hb);replace HB:=bs (w:=w0) hb;clear hb Aa Ab Ai Ac Ad Aj;obtain⟨Aa,Ab,Ai,Ac,Ad,Aj⟩:=cf3 J)|((with_reducible refine gate_store (t:=130) (p:=33) rfl ?_);refine Kd.R_store k130 (w0:=w0) w0.heap.size rfl rfl 130 (.tmp 33) (.tmp 32) rfl 130 (g:=g2) (n:=l0.length) (cap:=cap) i 0 xs (rd_T130 xs j) (.agg #[.int .i64 (rd_T130 xs j).f0,.string (rd_T130 xs j).f1,.int .i64 (rd_T130 xs j).f2]) [.int .i64 (rd_T130 xs j).f0,.string (rd_T130 xs j).f1,.int .i64 (rd_T130 xs j).f2] [.int .i64 (rd_T130 xs i).f0,.string (rd_T130 xs i).f1,.int .i64 (rd_T130 xs i).f2] (fun _=>True) (fun _=>False) rfl (show i.toNat*3=i.toNat*k130.sz+0 from rfl) rfl rfl ?ht ?h1 HO.out ?h0 ?hi rfl ?hcc (show 0+3≤3 from Nat.le_refl _) ?hM (fun _ h=>h.elim) HB.out ?_;(case ht=>kernel_rfl);(case h1=>intro q hq;rcases List.mem_cons.1 hq with rfl|hq;rfl;rcases List.mem_cons.1 hq with rfl|hq;rfl;rcases List.mem_cons.1 hq with rfl|hq;rfl;cases hq);(case h0=>have:=U.out;omega);(case hi=>have:=U.out;omega);(case hcc=>have B6:=(Kd.R_reads' HO.out).2.2;rw[HXL.out]at B6;obtain⟨ad,e,B7,At,AJ⟩:=at_T130 B6 i (by have:=U.out;omega) (by have:=U.out;omega);cases e;simp only[addz]at B7 At AJ;intro q u hq;match q,hq with| 0,hq=>(cases hq;exact B7)| 1,hq=>(cases hq;exact At)| 2,hq=>(cases hq;exact AJ));(case hM=>exact k130_mkM _ _ _ _);intro w3 ho hb hg;replace D:=Aside0.mk (blk_grown D.out hg (fun e_=>HNE.out (by injection e_)));replace X:=Aside0.mk (Kd.R_grown X.out hg (fun k hk e_=>hk.2 (by injection e_)));replace HO:=Aside0.mk ho;replace HB:=Aside0.mk hb;clear hb hg ho))
        go_roundg (gk-1)
        case measure=>have:=U.out;omega
        case rel=>exact⟨wrap64 (i+1),wrap64 (j+1),xs.set i.toNat (rd_T130 xs j),fa,fa,⟨by rw[HW.out,B2.out];have:=U.out;omega⟩,⟨by rw[List.length_set];exact HXL.out⟩,⟨by rw[HW.out,B2.out,show(i+1).toNat=i.toNat+1 by have:=U.out;omega,set_take _ _ _ (by have:=U.out;have:=HXL.out;omega),List.append_assoc];exact HH.out⟩,⟨by rw[HW.out,List.drop_set_of_lt (by have:=U.out;omega)];exact B5.out⟩,HO,X,D,HB⟩
    · have cb:decide (j<(l0.length:Int))=false:=decide_eq_false c
      have hfin:xs.take i.toNat=r:=by
       have h:=H.out
       rw[List.drop_of_length_le (show l0.length≤j.toNat by omega)]at h
       simpa [delS] using h
      have HF:=Aside0.mk hfin
      have U:=Aside0.mk (And.intro hx c)
      have q1:(0≤i)=True:=eq_true (by omega)
      have q2:(i≤(l0.length:Int))=True:=eq_true (by omega)
      have hcl:∃zs:List Value,zs.length=(l0.length-i.toNat)*3∧(Builtin.clear_ #[31] 0 #[.slice (some ⟨g2,i.toNat*3,none⟩) (l0.length-i.toNat) (cap-i.toNat)]).run Tryz.prog wr = .ok (.tuple #[]) (wr.setCells g2 (i.toNat*3) zs):=by
       obtain⟨_,inner,⟨_,hown⟩,_⟩:=HO.out
       rcases hown with⟨hv,_⟩|⟨g',cap',cur,hv,hb,hh,hle,hm,hs,ht⟩
       · cases hv
       injection hv with ha hn hc
       injection ha with ha
       injection ha with hg
       subst hg;subst hc
       have BB:cur.size=cap*3:=hs
       exact run_clear_cells wr 31 130 0 (.agg #[.int .i64 0,.string ⟨#[]⟩,.int .i64 0]) Tryz.underlying31 (fun w=>by kernel_rfl) g2 (i.toNat*3) (l0.length-i.toNat) (cap-i.toNat) (by omega) (by intro v hv;rcases List.mem_cons.1 hv with rfl|hv;rfl;rcases List.mem_cons.1 hv with rfl|hv;rfl;rcases List.mem_cons.1 hv with rfl|hv;rfl;cases hv) (by decide) cur 130 hh (by have:=HLC.out;show i.toNat*3+(l0.length-i.toNat)*3≤cur.size;omega)
      obtain⟨zs,At,AJ⟩:=hcl
      have HOF:Aside0 (Kd.R k130 130 (wr.setCells g2 (i.toNat*3) zs) w0.heap.size (fun _=>True) (.slice (some ⟨g2,0,none⟩) i.toNat cap) r):=⟨by
       have h:=Kd.R_take HO.out (m:=i.toNat) (by have:=HXL.out;omega)
       rw[HF.out]at h
       exact R_tail h _ _ (Nat.le_refl _) (by have:=HLC.out;show i.toNat*3+zs.length≤cap*3;omega)⟩
      have HDF:Aside0 (Kd.R k133 133 (wr.setCells g2 (i.toNat*3) zs) b1 ok (.slice Y l1.length Z) l1):=⟨Kd.R_mono (Kd.R_step X.out (fun k hk _=>setCells_far zs _ k hk.2)) (fun _ hk=>hk.1)⟩
      have HBF:Aside0 (Below w0.heap.size w0 (wr.setCells g2 (i.toNat*3) zs)):=⟨by
       obtain⟨s1,s2,s3,s4⟩:=setCells_same g2 zs (i.toNat*3) wr
       have BC:=Kd.R_base HO.out g2 rfl
       exact⟨s1.trans HB.out.os,s2.trans HB.out.tape,s3.trans HB.out.output,by rw[s4];exact HB.out.size,fun k hk=>(setCells_far zs _ k (by omega)).trans (HB.out.block k hk)⟩⟩
      have q3:(i≤(cap:Int))=True:=eq_true (by have:=HLC.out;omega)
      have n1:¬(i.toNat=cap):=by have:=HLC.out;omega
      have n2:¬(cap=i.toNat):=by have:=HLC.out;omega
      clear H HT hx c hfin At
      go_wp2_with fail
      go_ret
      exact⟨_,rfl,HOF.out,HDF.out,HBF.out⟩
theorem cut_world (w:World) (N:Nat) (h:N≤w.heap.size):∃w0:World,w0.heap.size=N∧Below N w0 w:=by
 refine⟨{ w with heap:=w.heap.extract 0 N},by simp;omega,rfl,rfl,rfl,by simp;omega,fun k hk=>?_⟩
 simp only[Array.getElem?_extract]
 rw[if_pos (by omega),Nat.zero_add]
theorem deleteInode' (u:Value) (l0:List (S130)) (Y:Option Addr) (Z:Nat) (l1:List (S133)) (g b1:Nat) (ok:Nat→Prop) (N:Nat) (w:World) (hN:N≤w.heap.size) (ho:Kd.R k130 130 w N (fun _=>True) u l0) (hlim:l0.length<4398046511104) (A3:Kd.R k133 133 w b1 ok (.slice Y l1.length Z) l1) (hb:w.heap[g]? = some (.cells #[.slice Y l1.length Z] 32 (0,0))) :
 Calls Tryz.prog 163 #[u,.func (.func 164) #[] #[.pointer (some ⟨g,0,none⟩)]] w fun e w'=>∃v,e = .returned v∧Kd.R k130 130 w' N (fun _=>True) v (delS l1 l0)∧Kd.R k133 133 w' b1 ok (.slice Y l1.length Z) l1∧(∀k,k<N→w'.heap[k]? = w.heap[k]?)∧(∀(M:Nat) (w0:World),Below M w0 w→M≤N→w0.heap.size≤N→Below M w0 w'):=by
 obtain⟨w0,h1,h2⟩:=cut_world w N hN
 subst h1
 refine(deleteInode u l0 Y Z l1 g b1 ok w0 w h2 ho hlim A3 hb).mono ?_
 rintro e w' ⟨v,rfl,a1,a2,a3⟩
 exact⟨v,rfl,a1,a2,fun k hk=>(a3.block k hk).trans (h2.block k hk).symm,fun M w1 h hM hs=>⟨a3.os.trans (h2.os.symm.trans h.os),a3.tape.trans (h2.tape.symm.trans h.tape),a3.output.trans (h2.output.symm.trans h.output),Nat.le_trans hs a3.size,fun k hk=>((a3.block k (by omega)).trans (h2.block k (by omega)).symm).trans (h.block k hk)⟩⟩
theorem settle.calls (gd:Nat) (x0 x1:Int) (vI Bp Bq:Value) (lI:List (S130)) (Y:Option Addr) (Z:Nat) (lD:List (S133)) (b1:Nat) (ok:Nat→Prop) (N:Nat) (w0 w:World) (hN:gd<N) (hNw:N≤w.heap.size) (hB:Below w0.heap.size w0 w) (hgd:w0.heap.size≤gd) (hbd:w.heap[gd]? = some (.cells #[.int .i64 x0,.int .i64 x1,vI,Bp,Bq] 35 (0,0))) (hI:Kd.R k130 130 w N (fun _=>True) vI lI) (hD:Kd.R k133 133 w b1 ok (.slice Y lD.length Z) lD) (hlim:lI.length<4398046511104) :
 Calls Tryz.prog 117 #[.pointer (some ⟨gd,0,none⟩),.slice Y lD.length Z] w fun e w'=>e = .returned (.tuple #[])∧∃vI',w'.heap[gd]? = some (.cells #[.int .i64 x0,.int .i64 x1,vI',.slice Y lD.length Z,.slice none 0 0] 35 (0,0))∧Kd.R k130 130 w' N (fun _=>True) vI' (delS lD lI)∧Kd.R k133 133 w' b1 ok (.slice Y lD.length Z) lD∧Below w0.heap.size w0 w'∧(∀k,k<N→k≠gd→w'.heap[k]? = w.heap[k]?):=by
 have B8:=Tryz.underlying35
 have B1:=Tryz.underlying32
 have HN:=Aside0.mk hN
 have HNW:=Aside0.mk hNw
 have HGD:=Aside0.mk hgd
 have HL:=Aside0.mk hlim
 have HI:=Aside0.mk (Kd.R_types hI hbd (by decide))
 have HD:=Aside0.mk (Kd.R_types hD hbd (by decide))
 have BKd:=Aside0.mk hbd
 have HB:=Aside0.mk hB
 obtain⟨A,c,eI⟩:=Kd.R_slice hI
 subst eI
 clear hN hNw hgd hlim hI hD hbd hB
 go_enter Tryz.func117,Tryz.ntmps117
 go_wp2_with (first|((with_reducible refine gD 3 rfl ?_);refine boxW ?_;intro g hg w1 hbox hb;have HG:=Aside0.mk hg;have NB:=nl BKd hg;have B9:=nr BKd hg;replace BKd:=bv BKd hb;have BKg:=Aside0.mk hbox;replace HI:=Aside0.mk (Kd.R_below HI.out hb);replace HD:=Aside0.mk (Kd.R_below HD.out hb);have Ba:=Aside0.mk hb;replace HB:=bs (w:=w0) hb;clear hb hbox hg;obtain⟨A7,AG⟩:=cf1 BKg;obtain⟨Aa,Ab,Ai,AK,AL,Ac,Ad,Aj,AM,AN⟩:=cf5 BKd)|(go_at_call 163;(with_reducible refine(deleteInode' (.slice A lI.length c) lI Y Z lD g b1 ok N _ ?hN ?ho HL.out ?hr ?hb).mono ?_);(case hN=>have:=HNW.out;have:=Ba.out.size;simp only[World.size_setCell];omega);(case ho=>exact Kd.R_mono (Kd.R_far (p:=⟨gd,4,none⟩) (Kd.R_far (p:=⟨gd,3,none⟩) HI.out (fun _ hk=>hk.2) _) (fun _ hk=>hk.2) _) (fun _ _=>trivial));(case hr=>exact Kd.R_mono (Kd.R_far (p:=⟨gd,4,none⟩) (Kd.R_far (p:=⟨gd,3,none⟩) HD.out (fun _ hk=>hk.2) _) (fun _ hk=>hk.2) _) (fun _ hk=>hk.1));(case hb=>exact blk_far (blk_far BKg.out B9.out _) B9.out _);rintro e w2 ⟨v,rfl,r1,r2,r3,r4⟩;obtain⟨Av,cv,ev⟩:=Kd.R_slice r1;subst ev;have AH:=Aside0.mk (r4 w0.heap.size w0 (below_set (below_set HB.out HGD.out) HGD.out) (by have:=HGD.out;have:=HN.out;omega) (by have:=HGD.out;have:=HN.out;omega));have J:=Aside0.mk ((r3 gd HN.out).trans (blk_put (blk_put BKd.out 3 _ rfl) 4 _ rfl));have Br:=Aside0.mk (Kd.R_types r1 J.out (by decide));have Am:=Aside0.mk (Kd.R_types r2 J.out (by decide));have HF:=Aside0.mk (show ∀k,k<N→k≠gd→w2.heap[k]? = w.heap[k]? from fun k hk hne=>(r3 k hk).trans ((Below.heap_setCell _ _ _ k hne).trans ((Below.heap_setCell _ _ _ k hne).trans (Ba.out.block k (by have:=HNW.out;omega)))));clear r1 r2 r3 r4 A7 AG Aa Ab Ai AK AL Ac Ad Aj AM AN;obtain⟨Aa,Ab,Ai,AK,AL,Ac,Ad,Aj,AM,AN⟩:=cf5 J))
 refine bodyPost_end (results_none rfl _ _ _) rfl ?_
 exact⟨rfl,_,blk_put J.out 2 _ rfl,Kd.R_mono (Kd.R_far (p:=⟨gd,2,none⟩) Br.out (fun _ hk=>hk.2) _) (fun _ _=>trivial),Kd.R_mono (Kd.R_far (p:=⟨gd,2,none⟩) Am.out (fun _ hk=>hk.2) _) (fun _ hk=>hk.1),below_set AH.out HGD.out,fun k hk hne=>(Below.heap_setCell _ _ _ k hne).trans (HF.out k hk hne)⟩
theorem linked_run (i:Int) (l:List (S133)) (h:l.length≤9223372036854775807):∀(n:Nat) (x:Int),0≤x→x+n=l.length→spec_l4Linked.l0 (n+1) l i x=some ((l.drop x.toNat).any (fun y=>y.f1==i))
 | 0,x,h0,h1=>by
  simp only[spec_l4Linked.l0]
  rw[if_neg (by omega),List.drop_of_length_le (by omega)];rfl
 |n+1,x,h0,h1=>by
  have f:=linked_run i l h n (x+1) (by omega) (by omega)
  have hlt:x.toNat<l.length:=by omega
  have e:rd_T133 l x=l[x.toNat]:=by unfold rd_T133;rw[List.getD_eq_getElem?_getD,List.getElem?_eq_getElem hlt];rfl
  rw[spec_l4Linked.l0,if_pos (by omega),if_pos h0,show wrap64 (x+1)=x+1 by unfold wrap64;omega,f,List.drop_eq_getElem_cons hlt,List.any_cons,show(x+1).toNat=x.toNat+1 by omega,e]
  by_cases c:(l[x.toNat]).f1=i
  · rw[if_pos c];simp[c]
  · rw[if_neg c];have c':((l[x.toNat]).f1==i)=false:=by simpa using c
    rw[c'];simp
theorem linked_f (i:Int) (l:List (S133)) (h:l.length≤9223372036854775807):spec_l4Linked.f (l.length+1) l i=some (l.any (fun y=>y.f1==i)):=by
 have:=linked_run i l h l.length 0 (by omega) (by omega)
 unfold spec_l4Linked.f;simpa using this
theorem delS_snoc (l1:List (S133)) (l:List (S130)) (i:Int) (h0:0≤i) (h1:i<(l.length:Int)):delS l1 (l.take (i+1).toNat)=delS l1 (l.take i.toNat)++(if(l1.any (fun y=>y.f1==(rd_T130 l i).f0))=true then[rd_T130 l i]else[]):=by
 have hlt:i.toNat<l.length:=by omega
 have e:rd_T130 l i=l[i.toNat]:=by unfold rd_T130;rw[List.getD_eq_getElem?_getD,List.getElem?_eq_getElem hlt];rfl
 rw[show(i+1).toNat=i.toNat+1 by omega,List.take_succ_eq_append_getElem hlt]
 unfold delS
 rw[List.filter_append,e]
 congr 1
 simp only[List.filter_cons,List.filter_nil,gone,Bool.not_not]
def spec_l4Settled.f (A5:Int) (A6:Int) (Af:List (S130)) (Ag:List (S133)) (Ah:List (S135)) (l1:List (S133)) (l2:List (S130)):Option (Int×Int×(List (S130))×(List (S133))×(List (S135))):=if l2.length<4398046511104 then some (A5,A6,delS l1 l2,l1,([]:List (S135)))else none
theorem spec_l4Settled.calls (A5:Int) (A6:Int) (Ax:Option Addr) (Ay:Nat) (Af:List (S130)) (Az:Option Addr) (A_:Nat) (Ag:List (S133)) (AA:Option Addr) (AB:Nat) (Ah:List (S135)) (Y:Option Addr) (Z:Nat) (l1:List (S133)) (A2:Option Addr) (c2:Nat) (l2:List (S130)) (r1:Int) (r2:Int) (r3:List (S130)) (r4:List (S133)) (r5:List (S135)) (w:World) (AQ:Kd.C k130 w Ax Af.length Af) (AR:Af.length≤Ay) (AS:Kd.C k133 w Az Ag.length Ag) (AT:Ag.length≤A_) (AU:Kd.C k135 w AA Ah.length Ah) (AV:Ah.length≤AB) (A3:Kd.C k133 w Y l1.length l1) (Ao:l1.length≤Z) (Bb:Kd.C k130 w A2 l2.length l2) (AF:l2.length≤c2) (h:spec_l4Settled.f A5 A6 Af Ag Ah l1 l2=some (r1,r2,r3,r4,r5)) :
 Calls Tryz.prog 109 #[.agg #[.int .i64 A5,.int .i64 A6,.slice Ax Af.length Ay,.slice Az Ag.length A_,.slice AA Ah.length AB],.slice Y l1.length Z,.slice A2 l2.length c2] w fun e w'=>∃Bc Bd Be:Value,e = .returned (.agg #[.int .i64 r1,.int .i64 r2,Bc,Bd,Be])∧Kd.R k130 130 w' w.heap.size (fun _=>True) Bc r3∧(Bd = .slice Y l1.length Z∧r4=l1)∧Kd.R k135 135 w' w.heap.size (fun _=>True) Be r5∧Below w.heap.size w w':=by
 have hlim:l2.length<4398046511104:=by
  by_cases c:l2.length<4398046511104
  · exact c
  · simp[spec_l4Settled.f,c]at h
 have h1:(A5,A6,delS l1 l2,l1,([]:List (S135)))=(r1,r2,r3,r4,r5):=by simpa [spec_l4Settled.f,hlim] using h
 simp only[Prod.mk.injEq]at h1
 obtain⟨rfl,rfl,h3,rfl,rfl⟩:=h1
 have AW:=A3.2.1
 have B8:=Tryz.underlying35;have An:=Tryz.underlying130;have Ar:=aK A3;have As:=aK Ao;have Bs:=aK Bb;have BD:=aK AF;have HL:=aK hlim;have HB:=aK (Below.refl w.heap.size w)
 have HA:=aK (fun i=>linked_f i l1 (by omega))
 have H3:=aK h3
 clear AQ AR AS AT AU AV A3 Ao Bb AF h hlim h3 AW
 go_enter Tryz.func109,Tryz.ntmps109
 go_wp2_with (first|((with_reducible refine gD 3 rfl ?_);refine boxW ?_;intro BE hg BF hbox hb;have D:=aK hbox;have BG:=gW HB hg;replace HB:=bS HB hb;clear hb hbox hg)|((with_reducible refine gD 6 rfl ?_);refine boxW ?_;intro AX hg BH hbox hb;have J:=aK hbox;have BI:=gW HB hg;replace HB:=bS HB hb;have Bf:=nl D hg;have Bg:=nr D hg;replace D:=bv D hb;clear hb hbox hg;have Bt:=Bf.o;have Bu:=Bg.o;have:=cf5 D)|((with_reducible refine gD 7 rfl ?_);refine boxW ?_;intro AY hg BJ hbox hb;have A4:=aK hbox;have BK:=gW HB hg;replace HB:=bS HB hb;have AC:=nl J hg;have AD:=nr J hg;have By:=nl D hg;replace D:=bv D hb;replace J:=bv J hb;clear hb hbox hg;have Bv:=AC.o;have Bw:=AD.o;have:=cf5 A4))
 go_loopg [8] l2.length (fun kq v8 w'=>∃(x:Int) (AO:Option Addr) (cO:Nat),v8 = .int .i64 x∧Aside0 (0≤x∧x+kq=l2.length)∧Aside0 (Kd.R k130 130 w' w.heap.size (fun _=>True) (.slice AO (delS l1 (l2.take x.toNat)).length cO) (delS l1 (l2.take x.toNat)))∧Aside0 (w'.heap[AY]? = some (.cells #[.int .i64 A5,.int .i64 A6,.slice AO (delS l1 (l2.take x.toNat)).length cO,.slice Y l1.length Z,.slice none 0 0] 35 (0,0)))∧Aside0 (w'.heap[AX]? = some (.cells #[.int .i64 0,.int .i64 0,.slice none 0 0,.slice none 0 0,.slice none 0 0] 35 (0,0)))∧Aside0 (Below w.heap.size w w'))
 case atStart=>exact⟨0,none,0,fa,⟨by omega,by omega⟩,⟨Kd.R_nil _ _ _ _ _⟩,⟨bkk⟩,⟨bkk⟩,⟨bl⟩⟩
 case round=>
  obtain⟨x,AO,cO,rfl,HX,HO,A4,J,HB⟩:=hrel
  have hx:=HX.out
  by_cases c:x<(l2.length:Int)
  · have ccb:decide (x<(l2.length:Int))=true:=decide_eq_true c
    have hstep:=delS_snoc l1 l2 x hx.1 c
    obtain⟨ad,e,A8,A9,Al⟩:=at_T130 Bs.out x hx.1 c
    cases e
    have Bh:=A8;have Bi:=A9;have Bj:=Al
    replace A8:=cz HB A8
    replace A9:=cz HB A9
    replace Al:=cz HB Al
    have p1:(0≤x)=True:=eq_true hx.1
    have p2:(x<(l2.length:Int))=True:=eq_true c
    have hw:wrap64 (x+1)=x+1:=by have:=HL.out;unfold wrap64;omega
    have HW:=Aside0.mk hw
    clear hw
    by_cases c2:(l1.any (fun y=>y.f1==(rd_T130 l2 x).f0))=true
    · rw[if_pos c2]at hstep
      have HS:=Aside0.mk hstep
      have hA:=HA.out (rd_T130 l2 x).f0
      rw[c2]at hA
      have AZ:=Aside0.mk hA
      have U:=Aside0.mk (And.intro hx.1 c)
      clear hstep hx c c2 hA
      go_wp2_with (first|(go_at_call 101;(with_reducible refine(spec_l4Linked.calls _ Y Z l1 _ true _ ?_ As.out AZ.out).mono ?_);exact(Kd.C_below Ar.out bl);rintro e w' ⟨rfl,⟨nd,rfl⟩⟩))
      replace HO:=aK (Kd.R_drew (Kd.R_drewN HO.o nd));replace A4:=aK (blk_drew (blk_drewN A4.o nd));replace J:=aK (blk_drew (blk_drewN J.o nd));replace HB:=aK (below_drew1 (pw_below_drewN HB.o nd))
      refine start_ (n:=10) (S:=fun w'=>w'.cell? ⟨AY,2,none⟩=some (.slice AO (delS l1 (l2.take x.toNat)).length cO)∧w'.cell? (ad.add ((x).toNat*3))=some (.int .i64 (rd_T130 l2 x).f0)∧w'.cell? ⟨(ad.add ((x).toNat*3)).block,(ad.add ((x).toNat*3)).off+1,none⟩=some (.string (rd_T130 l2 x).f1)∧w'.cell? ⟨(ad.add ((x).toNat*3)).block,(ad.add ((x).toNat*3)).off+2,none⟩=some (.int .i64 (rd_T130 l2 x).f2)) (ds:=[9]) (bo 10 0) (by kernel_rfl) rfl rfl ⟨cb 2 A4,cz HB Bh,cz HB Bi,cz HB Bj⟩ (fun hHeld=>?_)
      generalize (World.drew _)=BL at HO A4 J HB hHeld ⊢
      refine pV 0 28 (bo 10 1) ?_;refine pV 2 30 (bo 10 5) ?_;refine pV 3 31 (bo 10 13) ?_;refine pV 4 32 (bo 10 29) ?_;refine tV 1 29 (bo 10 31) ?_;refine tV 5 33 (bo 10 63) ?_
      refine o1 6 34 (bo 10 127) (fun K hK=>?_)
      refine value_ (w1:=?_) (v:=?_) (by rfl) rfl ?_ ?_
      rotate_left 2
      ·go_simp
       constructor
       ·rfl
       ·rfl
      refine hK.out _ _ ⟨(World.cell?_alloc_lt _ _ _ (World.block_lt_of_cell? _ _ hHeld.1)).trans hHeld.1,(World.cell?_alloc_lt _ _ _ (World.block_lt_of_cell? _ _ hHeld.2.1)).trans hHeld.2.1,(World.cell?_alloc_lt _ _ _ (World.block_lt_of_cell? _ _ hHeld.2.2.1)).trans hHeld.2.2.1,(World.cell?_alloc_lt _ _ _ (World.block_lt_of_cell? _ _ hHeld.2.2.2)).trans hHeld.2.2.2⟩ (fun hHeld=>?_)
      clear hK K;refine nm 34 ?_
      refine o1 7 35 (bo 10 255) (fun K hK=>?_)
      refine Kd.R_append_step k130 (w0:=w) w.heap.size (by rfl) (.tmp 29) (.tmp 34) 31 130 (.agg #[(.int .i64 0),(.string ⟨#[]⟩),(.int .i64 0)]) 32 rfl Tryz.underlying31 info130 rfl (by decide) (by omega) (.slice AO (delS l1 (l2.take x.toNat)).length cO) (delS l1 (l2.take x.toNat)) (rd_T130 l2 x) [.int .i64 (rd_T130 l2 x).f0,.string (rd_T130 l2 x).f1,.int .i64 (rd_T130 l2 x).f2] (fun _=>True) (fun _=>False) rfl rfl ?aP (fun _ hk=>hk.elim) ?aF ?aO ?aB ?aS ?aL ?_
      case aP=>exact k130_mkM _ _ _ (rd_T130 l2 x)
      case aB=>exact bl
      case aF=>exact(fun _ _=>trivial)
      case aO=>exact HO.o
      case aS=>exact(below_size bl)
      case aL=>
       have h1:=HL.out;have h2:=U.out;have h3:(delS l1 (l2.take x.toNat)).length≤x.toNat:=by
        refine Nat.le_trans (List.length_filter_le _ _) ?_
        rw[List.length_take];omega
       omega
      intro v1 w9 ho hb hg hat
      obtain⟨AP,cP,e9⟩:=Kd.R_slice ho
      subst e9
      have Au:=HS.out
      rw[←Au]at ho
      have Bx:(delS l1 (l2.take x.toNat)).length+1=(delS l1 (l2.take (x+1).toNat)).length:=by rw[Au];simp
      replace A4:=aK (blk_grown (g:=AY) (o:=.cells #[.int .i64 A5,.int .i64 A6,.slice AO (delS l1 (l2.take x.toNat)).length cO,.slice Y l1.length Z,.slice none 0 0] 35 (0,0)) bk hg (Kd.R_ne HO.out A4.out (by decide)))
      replace J:=aK (blk_grown (g:=AX) (o:=.cells #[.int .i64 0,.int .i64 0,.slice none 0 0,.slice none 0 0,.slice none 0 0] 35 (0,0)) bk hg (Kd.R_ne HO.out J.out (by decide)))
      replace HO:=aK ho;replace HB:=aK hb;clear ho hb hg hat
      rw[←Au]
      clear Au Bx
      refine hK.out _ _ ⟨cb 2 A4,cz HB Bh,cz HB Bi,cz HB Bj⟩ (fun hHeld=>?_)
      clear hK K;refine nm 35 ?_;refine pV 8 36 (bo 10 511) ?_
      obtain⟨Aa,Ab,Ai,AK,AL,Ac,Ad,Aj,AM,AN⟩:=cf5 A4
      refine last_ (i:=9) (N:=none) (bo 10 1023) rfl rfl (by kernel_rfl) (by decide) (fun K hK=>?_)
      refine skip_ (w1:=?_) (by rfl) rfl ?_ ?_
      rotate_left
      ·go_simp;rfl
      refine hK.out _ _ ?_;clear hK K;refine done_ (by kernel_rfl) ?_;(try go_wp2)
      go_roundg (gk-1)
      case measure=>have:=HX.out;have:=U.out;omega
      case rel=>exact⟨wrap64 (x+1),AP,cP,fa,⟨by rw[HW.out];have:=U.out;omega,by rw[HW.out];have:=HX.out;have:=U.out;omega⟩,⟨by rw[HW.out];exact f1 HO A4⟩,⟨by rw[HW.out];exact blk_put A4.o 2 _ rfl⟩,⟨by first|exact blk_far J.o AC.o _|exact blk_far J.o AD.o _⟩,⟨bl⟩⟩
    · rw[if_neg c2,List.append_nil]at hstep
      have Ap:(l1.any (fun y=>y.f1==(rd_T130 l2 x).f0))=false:=by simpa using c2
      have HS:=Aside0.mk hstep
      have hA:=HA.out (rd_T130 l2 x).f0
      rw[Ap]at hA
      have AZ:=Aside0.mk hA
      have U:=Aside0.mk (And.intro hx.1 c)
      clear hstep hx c c2 Ap hA
      go_wp2_with (first|(go_at_call 101;(with_reducible refine(spec_l4Linked.calls _ Y Z l1 _ false _ ?_ As.out AZ.out).mono ?_);exact(Kd.C_below Ar.out bl);rintro e w' ⟨rfl,⟨nd,rfl⟩⟩))
      go_roundg (gk-1)
      case measure=>have:=HX.out;have:=U.out;omega
      case rel=>exact⟨wrap64 (x+1),AO,cO,fa,⟨by rw[HW.out];have:=U.out;omega,by rw[HW.out];have:=HX.out;have:=U.out;omega⟩,⟨by rw[HW.out,HS.out];exact rpR HO.out⟩,⟨by rw[HW.out,HS.out];exact bk⟩,⟨bk⟩,⟨bl⟩⟩
  · have ccb:decide (x<(l2.length:Int))=false:=decide_eq_false c
    have HT:=Aside0.mk (show delS l1 (l2.take x.toNat)=r3 by rw[List.take_of_length_le (by omega)];exact H3.out)
    rw[HT.out]at HO A4
    clear hx c
    have:=cf5 A4;have:=cf5 J
    go_wp2
    refine bodyPost_ret (results_cell_row rfl _ _ AX 35 #[.int .i64 A5,.int .i64 A6,.slice AO r3.length cO,.slice Y l1.length Z,.slice none 0 0] (0,0) _ rfl bkk Tryz.underlying35 rfl (by kernel_rfl)) rfl ?_;exact⟨_,_,_,fe,rpR (rM (f5 HO J) (fun _ hk=>trivial)),⟨rfl,trivial⟩,Kd.R_nil _ _ _ _ _,bl⟩
end Go.Proofs.YtndbmllnkjngnaaGreat.PDs
