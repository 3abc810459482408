/- Functions of the program, each with its contract, written by a program out of the translation. -/
import Derived.Test.YtndbmllnkjngnaaGreatPDsx0
import Derived.Test.YtndbmllnkjngnaaGreatZip
import Derived.Test.YtndbmllnkjngnaaGreatWWords
import Derived.Lib.SliceRun
import Derived.Lib.Bytealg
import Derived.Lib.SlBuf
import Derived.Lib.Overlaps
import Derived.Lib.AppendZerosOnto
import Derived.Shelf.RegionOpenPlain
import Derived.Outline
namespace Go.Proofs.YtndbmllnkjngnaaGreat.PDs
open Go.RowKit Go.Proofs.YtndbmllnkjngnaaGreatW.PrintWords Go.Proofs.YtndbmllnkjngnaaGreatW.PrintLast Go.Proofs.YtndbmllnkjngnaaGreatW.PrintMore Go.Proofs.YtndbmllnkjngnaaGreat.Zip
attribute [local go_sem] max2_int min2_int max_two min_two max_three min_three max_four min_four
set_option linter.unusedVariables false
set_option linter.unusedSimpArgs false
set_option maxHeartbeats 8000000
set_option maxRecDepth 100000
def impl_Link_125.f (l0:List (S133)):Option ((List (S133))):=if l0.length<5864062014805 then some l0 else none
theorem impl_Link_125.calls (X:Option Addr) (c0:Nat) (l0:List (S133)) (r:List (S133)) (w:World) (D:Kd.C k133 w X l0.length l0) (J:l0.length≤c0) (h:impl_Link_125.f l0=some r) :
 Calls Tryz.prog 125 #[.slice X l0.length c0] w fun e w'=>∃U:Value,e = .returned (U)∧Kd.R k133 133 w' w.heap.size (fun _=>True) U r∧Below w.heap.size w w':=by
 have Y:l0.length<5864062014805:=by
  by_cases c:l0.length<5864062014805
  ·exact c
  ·simp[impl_Link_125.f,c]at h
 obtain rfl:l0=r:=by simpa [impl_Link_125.f,Y] using h
 have LMc:=aK Y;clear Y h;have HB:=aK (Below.refl w.heap.size w);cases X with
 |none=>
  have hl:l0 = []:=by
   rcases Nat.eq_zero_or_pos l0.length with g|g
   ·exact List.length_eq_zero_iff.1 g
   ·obtain⟨ad,e,_⟩:=D.2.2 g;cases e
  subst hl;clear D J;have hq:=fun(w:World) (n c:Nat)=>Lib.run_eql_slice_nil (P:=Tryz.prog) w 32 133 none n c 0 0 Tryz.underlying32
  simp only[Option.isNone_none]at hq
  go_enter Tryz.func125,Tryz.ntmps125
  go_wp2
  go_ret
  exact⟨_,rfl,Kd.R_nil _ _ _ _ _,bl⟩
 |some ad=>
  have Z:=aK D;clear D J;have hq:=fun(w:World) (n c:Nat)=>Lib.run_eql_slice_nil (P:=Tryz.prog) w 32 133 (some ad) n c 0 0 Tryz.underlying32
  simp only[Option.isNone_some]at hq
  go_enter Tryz.func125,Tryz.ntmps125
  go_wp2_with (first|((with_reducible refine gd 5 ?_);refine Kd.R_lit k133 _ 133 ?hg (N:=5) ?hd (xs:=([]:List (S133))) (inner:=[]) (ok:=fun _=>True) (okp:=fun _=>True) ?hr ?hp (fun _ hk=>hk) trivial (Below.refl _ _) (Nat.le_refl _) (by simp) ?_;(case hd=>rfl);(case hg=>rfl);(case hr=>first|(go_simp;done)|(go_simp;rfl));(case hp=>exact(Reps.none _ _));intro v1 w1 ho hb hg_ hnew_;clear hg_ hnew_;have HO:=rl HB ho;replace HB:=bS HB hb;clear hb ho)|((with_reducible refine gate_builtin (b:=.append) (xs:=#[.tmp 5,.tmp 6]) rfl ?_);at_builtin;refine Kd.R_append_rows k133 (w0:=w) w.heap.size rfl (.tmp 5) (.tmp 6) 32 133 (.agg #[(.string ⟨#[]⟩),(.int .i64 0)]) 24 rfl Tryz.underlying32 info133 rfl (by decide) (by omega) v1 [] l0 _ _ _ (fun _=>True) (fun _=>False) rfl rfl ?aO ?aR (fun _ _ h=>h) (fun _ h=>h.elim) ?aF ?aB ?aS ?aL ?_;(case aR=>exact(Kd.C_below Z.o bl));(case aB=>exact bl);(case aF=>exact(fun _ _=>trivial));(case aO=>exact HO.o);(case aS=>exact(below_size bl));(case aL=>have:=LMc.o;simp;omega);intro v2 w2 ho hb hg hat;clear HO HB hg hat;have HO:=aK ho;have HB:=aK hb;clear ho hb;obtain⟨Ao,co,eo⟩:=rs HO;subst eo))
  go_ret
  exact⟨_,rfl,HO.o,bl⟩
end Go.Proofs.YtndbmllnkjngnaaGreat.PDs
namespace Go.Proofs.YtndbmllnkjngnaaGreat.PDs
open Go.RowKit Go.Proofs.YtndbmllnkjngnaaGreatW.PrintWords Go.Proofs.YtndbmllnkjngnaaGreatW.PrintLast Go.Proofs.YtndbmllnkjngnaaGreatW.PrintMore Go.Proofs.YtndbmllnkjngnaaGreat.Zip
set_option linter.unusedVariables false
set_option linter.unusedSimpArgs false
set_option maxHeartbeats 8000000
set_option maxRecDepth 100000
theorem unlinked_1 (x0:ByteArray) (x1:Int) (a:ByteArray) (g:Nat) (w:World) (hb:w.heap[g]? = some (.cells #[.string a] 9 (0,0))) :
 Calls Tryz.prog 190 #[.agg #[.string x0,.int .i64 x1],.pointer (some ⟨g,0,none⟩)] w fun e w'=>e = .returned (.bool (x0.toList==a.toList))∧Below w.heap.size w w':=by
 have Af:=Tryz.underlying133;have J:=aK hb;have HB:=aK (Below.refl w.heap.size w);clear hb
 go_enter Tryz.func190,Tryz.ntmps190
 go_wp2_with (first|((with_reducible refine gd 2 ?_);refine boxW ?_;intro gb hg w1 hbox hb;replace J:=bv J hb;have A1:=aK hbox;replace HB:=bS HB hb;clear hb hbox hg;obtain⟨Y,As⟩:=cf1 J;obtain⟨A3,A4,A5,A6⟩:=cf2 A1))
 go_ret
 exact⟨fe,bl⟩
def ixl (a:ByteArray):List (S133)→Int→Int
 | [],_=>-1
 |x::r,i=>if(x.f0.toList==a.toList)=true then i else ixl a r (i+1)
theorem ixl_drop (a:ByteArray) (l:List (S133)) (i:Int) (h0:0≤i) (h1:i<(l.length:Int)):ixl a (l.drop i.toNat) i=if((rd_T133 l i).f0.toList==a.toList)=true then i else ixl a (l.drop (i+1).toNat) (i+1):=by
 have hlt:i.toNat<l.length:=by omega
 rw[List.drop_eq_getElem_cons hlt,show(i+1).toNat=i.toNat+1 by omega];have:rd_T133 l i=l[i.toNat]:=by unfold rd_T133;rw[List.getD_eq_getElem?_getD,List.getElem?_eq_getElem hlt];rfl
 rw[this];rfl
theorem indexLink (A0:Option Addr) (c0:Nat) (l0:List (S133)) (a:ByteArray) (g:Nat) (w:World) (Z:Kd.C k133 w A0 l0.length l0) (Y:l0.length≤c0) (hb:w.heap[g]? = some (.cells #[.string a] 9 (0,0))) :
 Calls Tryz.prog 187 #[.slice A0 l0.length c0,.func (.func 190) #[] #[.pointer (some ⟨g,0,none⟩)]] w fun e w'=>e = .returned (.int .i64 (ixl a l0 0))∧Below w.heap.size w w':=by
 have Af:=Tryz.underlying133;have eg:=fun(args:Array Value) (w:World)=>enters_ (P:=Tryz.prog) Tryz.func190 (by kernel_rfl) rfl args w
 have hlen:=Z.2.1;have HL:=aK hlen;have Aa:=aK Z;have Ab:=aK Y;have J:=aK hb;have HB:=aK (Below.refl w.heap.size w)
 obtain⟨r,hr⟩:∃r,ixl a l0 0=r:=⟨_,rfl⟩
 rw[hr];have H':=aK (show ixl a (l0.drop (0:Int).toNat) 0=r from hr);clear Z Y hb hlen hr
 go_enter Tryz.func187,Tryz.ntmps187
 go_wp2
 go_loopg [8] l0.length (fun kq v8 w'=>∃x:Int,v8 = .int .i64 x∧Aside0 (0≤x∧x+kq=l0.length)∧Aside0 (ixl a (l0.drop x.toNat) x=r)∧Aside0 (w'.heap[g]? = some (.cells #[.string a] 9 (0,0)))∧Aside0 (Below w.heap.size w w'))
 case atStart=>exact⟨0,fa,⟨by omega,by omega⟩,H',J,HB⟩
 case round=>
  clear H';obtain⟨x,rfl,HX,H,J,HB⟩:=hrel;have hx:=HX.o;by_cases c:x<(l0.length:Int)
  · have cb:decide (x<(l0.length:Int))=true:=dt c;have hstep:=ixl_drop a l0 x hx.1 c;rw[H.o]at hstep;obtain⟨ad,e,A7,A8⟩:=at_T133 Aa.o x hx.1 c
    cases e
    replace A7:=cz HB A7;replace A8:=cz HB A8;have p1:(0≤x)=True:=eq_true hx.1;have p2:(x<(l0.length:Int))=True:=eq_true c;have hw:wrap64 (x+1)=x+1:=by have:=HL.o;unfold wrap64;omega
    have HW:=aK hw;clear hw;by_cases c2:((rd_T133 l0 x).f0.toList==a.toList)=true
    · rw[if_pos c2]at hstep;have HS:=aK hstep;clear hstep hx c
      go_wp2_with (first|(go_at_call 190;(with_reducible refine(unlinked_1 _ _ a g _ (bk)).mono ?_);rintro e w' ⟨rfl,hb⟩;replace HB:=bS HB hb;clear hb))
      go_ret
      exact⟨by first|(rw[HS.o];done)|(rw[HS.o];rfl),bl⟩
    · rw[if_neg c2]at hstep;have Ai:((rd_T133 l0 x).f0.toList==a.toList)=false:=by simpa using c2
      have HS:=aK hstep;have U:=aK (And.intro hx.1 c);clear hstep hx c c2
      go_wp2_with (first|(go_at_call 190;(with_reducible refine(unlinked_1 _ _ a g _ (bk)).mono ?_);rintro e w' ⟨rfl,hb⟩;replace J:=bv J hb;replace HB:=bS HB hb;clear hb))
      go_roundg (gk-1)
      case measure=>have:=HX.o;have:=U.o;omega
      case rel=>exact⟨wrap64 (x+1),fa,⟨by rw[HW.o];have:=U.o;omega,by rw[HW.o];have:=HX.o;have:=U.o;omega⟩,⟨by rw[HW.o];exact HS.out.symm⟩,⟨bk⟩,⟨bl⟩⟩
  · have cb:decide (x<(l0.length:Int))=false:=df c;have hd:l0.drop x.toNat = []:=List.drop_of_length_le (by omega);have HS:=aK (show r = -1 by rw[←H.o,hd];rfl);clear hx c hd
    go_wp2
    go_ret
    exact⟨by first|(rw[HS.o];done)|(rw[HS.o];rfl),bl⟩
def delM (a:ByteArray) (l:List (S133)):List (S133):=l.filter (fun x=>!(x.f0.toList==a.toList))
theorem ixl_spec (a:ByteArray):∀(l:List (S133)) (i:Int),0≤i→(ixl a l i = -1∧delM a l=l)∨(∃n:Nat,ixl a l i=i+n∧n<l.length∧delM a l=l.take n++delM a (l.drop (n+1)))
 | [],i,_=>.inl ⟨rfl,rfl⟩
 |x::r,i,h=>by
  by_cases c:(x.f0.toList==a.toList)=true
  · exact .inr ⟨0,by simp[ixl,c],by simp,by simp[delM,c]⟩
  · have c':(x.f0.toList==a.toList)=false:=by simpa using c
    have e:delM a (x::r)=x::delM a r:=by simp[delM,c']
    have e2:ixl a (x::r) i=ixl a r (i+1):=by simp[ixl,c']
    rcases ixl_spec a r (i+1) (by omega)with⟨h1,h2⟩|⟨n,h1,h2,h3⟩
    · exact .inl ⟨by rw[e2,h1],by rw[e,h2]⟩
    · exact .inr ⟨n+1,by rw[e2,h1];omega,by simp;omega,by rw[e,h3];rfl⟩
theorem set_take {α:Type} (xs:List α) (i:Nat) (x:α) (h:i<xs.length):(xs.set i x).take (i+1)=xs.take i ++ [x]:=by
 rw[List.take_succ_eq_append_getElem (by simpa using h)];simp[List.take_set,List.set_eq_of_length_le (show(xs.take i).length≤i by simp;omega)]
theorem addz (g m:Nat):(⟨g,0,none⟩:Addr).add m = ⟨g,m,none⟩:=by
 unfold Addr.add;by_cases h:m=0
 · rw[if_pos h,h]
 · rw[if_neg h,Nat.zero_add]
theorem R_tail {α:Type} {d:Kd α} {e:Nat} {w:World} {base:Nat} {ok:Nat→Prop} {g n cap:Nat} {xs:List α} (h:d.R e w base ok (.slice (some ⟨g,0,none⟩) n cap) xs) (o:Nat) (seg:List Value) (ho:n*d.sz≤o) (hfit:o+seg.length≤cap*d.sz):d.R e (w.setCells g o seg) base ok (.slice (some ⟨g,0,none⟩) n cap) xs:=by
 obtain⟨h0,inner,⟨hl,hown⟩,hr⟩:=h
 rcases hown with⟨hv,_⟩|⟨g',cap',cur,hv,hb,hh,hle,hm,hs,ht⟩
 · cases hv
 injection hv with ha hn hc
 injection ha with ha
 injection ha with hg
 subst hg;subst hc;subst hn;obtain⟨cur',h3,h4,h5⟩:=setCells_row seg o w cur hh (by omega);refine⟨h0,inner,⟨hl,.inr ⟨g,cap,cur',rfl,hb,h3,hle,hm,by rw[h4,hs],?_⟩⟩,hr.imp_ (fun p c hp=>Kd.M_step hp (fun k hk hlt=>setCells_far seg o k (fun e_=>hk.2 (by rw[e_];rfl))))⟩;rw[h5,List.append_assoc,List.take_append_of_le_length (by have hz:cur.toList.length=cur.size:=Array.length_toList;rw[List.length_take];omega),List.take_take,Nat.min_eq_left ho];exact ht
theorem run_clear_cells {P:Program} (w:World) (t e ty:TypeId) (z:Value) (ht:P.underlying t=some (.slice e)) (hv:∀w,(zeroValue e).run P w = .ok z w) (b o n c:Nat) (hn:0<n) (hz:∀v∈z.cells.toList,v.oneCell'=true) (At:0<z.cells.size)
    (cur:Array Value) (ce:TypeId) (hh:w.heap[b]? = some (.cells cur ce (0,0))) (hfit:o+n*z.cells.size≤cur.size) :
    ∃zs:List Value,zs.length=n*z.cells.size∧(Builtin.clear_ #[t] ty #[.slice (some ⟨b,o,none⟩) n c]).run P w = .ok (.tuple #[]) (w.setCells b o zs):=by
 refine⟨(Builtin.zeroCells z.cells n).toList,by simp[Builtin.zeroCells],?_⟩
 have h1:∀v∈(Builtin.zeroCells z.cells n).toList,v.oneCell'=true:=by
  intro v hv';simp only[Builtin.zeroCells,Array.toList_map,List.mem_map]at hv';obtain⟨q,hq,rfl⟩:=hv';have hlt:q%z.cells.size<z.cells.size:=Nat.mod_lt _ At;rw[getElem!_pos z.cells _ hlt];exact hz _ (by simp)
 have hst:=run_storeCells_cells (P:=P) b o (Builtin.zeroCells z.cells n).toList 0 w (fun j hj=>by rw[cell_of_row w b _ cur ce (0,0) hh];simp[Builtin.zeroCells]at hj ⊢;omega) (fun j _=>blk_frozen hh _) h1;simp only[Nat.add_zero]at hst
 obtain⟨m,rfl⟩:∃m,n=m+1:=⟨n-1,by omega⟩
 simp[Builtin.clear_,run_underlying ht,hv,hst]
theorem deleteLink (u:Value) (l0:List (S133)) (a:ByteArray) (g:Nat) (w0 w:World) (hB:Below w0.heap.size w0 w) (ho:Kd.R k133 133 w w0.heap.size (fun _=>True) u l0) (hlim:l0.length<5864062014805) (hb:w.heap[g]? = some (.cells #[.string a] 9 (0,0))) :
 Calls Tryz.prog 189 #[u,.func (.func 190) #[] #[.pointer (some ⟨g,0,none⟩)]] w fun e w'=>∃v,e = .returned v∧Kd.R k133 133 w' w0.heap.size (fun _=>True) v (delM a l0)∧Below w0.heap.size w0 w':=by
 have Af:=Tryz.underlying133;have eg:=fun(args:Array Value) (w:World)=>enters_ (P:=Tryz.prog) Tryz.func190 (by kernel_rfl) rfl args w
 have HL:=aK hlim;have J:=aK hb;have HB:=aK hB;have HO:=aK ho;clear hB hb hlim
 rcases ixl_spec a l0 0 (by omega)with⟨h1,h2⟩|⟨n,h1,h2,h3⟩
 · obtain⟨A,c,rfl,hlc,hC⟩:=Kd.R_reads ho;have HI:=aK h1;have Ab:=aK hC;have HLC:=aK hlc;rw[h2];clear ho h1 h2 hC hlc
   go_enter Tryz.func189,Tryz.ntmps189
   go_wp2_with (first|(go_at_call 187;(with_reducible refine(indexLink A c l0 a g _ Ab.o HLC.o (bk)).mono ?_);rintro e w' ⟨rfl,hb⟩;rw[HI.o];have B5:=aK (Kd.R_below HO.o hb);replace HB:=bs (w:=w0) hb;clear hb))
   go_ret
   exact⟨_,rfl,B5.o,bl⟩
 · have B6:0<l0.length:=by omega
   obtain⟨g2,cap,rfl,hcap⟩:∃g2 cap,u = .slice (some ⟨g2,0,none⟩) l0.length cap∧l0.length≤cap:=by
    obtain⟨_,inner,⟨hl,hown⟩,hr⟩:=ho
    rcases hown with⟨rfl,hz⟩|⟨g2,cap,cur,rfl,_,_,hle,_⟩
    · omega
    · exact⟨g2,cap,rfl,hle⟩
   have HNE:=aK (show g≠g2 from fun e_=>Kd.R_ne ho J.o (by decide) (by rw[e_];rfl));have hC:=(Kd.R_reads' ho).2.2;have Ab:=aK hC;have HLC:=aK hcap;have HI:=aK h1
   have HD:Aside0 (l0.take n++delM a (l0.drop (n+1))=delM a l0):=⟨h3.symm⟩
   have HN:=aK h2
   obtain⟨r,hr⟩:∃r,delM a l0=r:=⟨_,rfl⟩
   rw[hr]at HD ⊢;clear ho h1 h2 h3 hC hcap hr B6;have e1:wrap64 ((n:Int)+1)=(n:Int)+1:=by have:=HN.o;have:=HL.o;unfold wrap64;omega
   have hne:((n:Int) == -1)=false:=by simp
   go_enter Tryz.func189,Tryz.ntmps189
   go_wp2_with (first|(go_at_call 187;(with_reducible refine(indexLink (some ⟨g2,0,none⟩) cap l0 a g _ Ab.o HLC.o (bk)).mono ?_);rintro e w' ⟨rfl,hb⟩;rw[show ixl a l0 0=(n:Int) by rw[HI.o];omega];replace HO:=aK (Kd.R_below HO.o hb);replace J:=bv J hb;replace HB:=bs (w:=w0) hb;clear hb))
   go_loopg [5,6] (l0.length-(n+1)) (fun kq v5 v6 w'=>∃(i j:Int) (xs:List (S133)),v5 = .int .i64 i∧v6 = .int .i64 j∧Aside0 (0≤i∧i<j∧j+kq=l0.length)∧Aside0 (xs.length=l0.length)∧Aside0 (xs.take i.toNat++delM a (l0.drop j.toNat)=r)∧Aside0 (xs.drop j.toNat=l0.drop j.toNat)∧Aside0 (Kd.R k133 133 w' w0.heap.size (fun _=>True) (.slice (some ⟨g2,0,none⟩) l0.length cap) xs)∧Aside0 (w'.heap[g]? = some (.cells #[.string a] 9 (0,0)))∧Aside0 (Below w0.heap.size w0 w'))
   case atStart=>exact⟨(n:Int),wrap64 ((n:Int)+1),l0,fa,fa,⟨by rw[e1];have:=HN.o;omega⟩,⟨rfl⟩,⟨by rw[e1];exact HD.o⟩,⟨rfl⟩,HO,J,HB⟩
   case round=>
    clear Ab e1 hne HD HI;obtain⟨i,j,xs,rfl,rfl,HX,HXL,H,HT,HO,J,HB⟩:=hrel;have hx:=HX.o;by_cases c:j<(l0.length:Int)
    · have cb:decide (j<(l0.length:Int))=true:=dt c;have hC:=(Kd.R_reads' HO.o).2.2;rw[HXL.o]at hC;obtain⟨ad,e,A7,A8⟩:=at_T133 hC j (by omega) c
      cases e
      obtain⟨ad,e,B7,B8⟩:=at_T133 hC i (by omega) (by omega)
      cases e
      simp only[addz]at A7 A8 B7 B8;have p1:(0≤j)=True:=eq_true (by omega);have p2:(j<(l0.length:Int))=True:=eq_true c;have q1:(0≤i)=True:=eq_true (by omega);have q2:(i<(l0.length:Int))=True:=eq_true (by omega);have HW:=aK (show wrap64 (j+1)=j+1 by have:=HL.o;unfold wrap64;omega);have AI:=aK (show wrap64 (i+1)=i+1 by have:=HL.o;unfold wrap64;omega)
      have hdj:l0.drop j.toNat=rd_T133 xs j::l0.drop (j+1).toNat:=by
       have hlt:j.toNat<xs.length:=by have:=HXL.o;omega
       have AJ:j.toNat<l0.length:=by omega
       rw[←HT.o,List.drop_eq_getElem_cons hlt,show(j+1).toNat=j.toNat+1 by omega];have:rd_T133 xs j=xs[j.toNat]:=by unfold rd_T133;rw[List.getD_eq_getElem?_getD,List.getElem?_eq_getElem hlt];rfl
       rw[this];have ht:=congrArg List.tail HT.o;rw[List.drop_eq_getElem_cons hlt,List.drop_eq_getElem_cons AJ,List.tail_cons,List.tail_cons]at ht;rw[ht]
      have AK:xs.drop (j+1).toNat=l0.drop (j+1).toNat:=by
       rw[show(j+1).toNat=j.toNat+1 by omega,←List.drop_drop,←List.drop_drop,HT.o]
      have AL:=aK AK;have U:=aK (And.intro hx c);have hH:=H.o;rw[hdj]at hH;clear hx c hC AK hdj;by_cases c2:((rd_T133 xs j).f0.toList==a.toList)=true
      · have HH:Aside0 (xs.take i.toNat++delM a (l0.drop (j+1).toNat)=r):=⟨by rw[←hH];simp[delM,c2]⟩
        clear hH H HT
        go_wp2_with (first|((with_reducible refine gd 7 ?_);refine boxW ?_;intro gb hg w1 hbox hb;have Az:=aK (Kd.R_below (Kd.R_bound HO.o) hb);have HG:=aK hg;have NB:=nl J hg;replace J:=bv J hb;have A1:=aK hbox;have B9:=gw (w:=w0) hg;replace HB:=bs (w:=w0) hb;clear hb hbox hg;obtain⟨A3,A4,A5,A6⟩:=cf2 A1)|(go_at_call 190;(with_reducible refine(unlinked_1 _ _ a g _ ?sb).mono ?_);(case sb=>exact blk_far (blk_far J.o NB.o _) NB.o _);rintro e w2 ⟨rfl,hb⟩;replace HO:=aK (rM (Kd.R_below (Kd.R_far (p:=⟨gb,1,none⟩) (Kd.R_far (p:=⟨gb,0,none⟩) Az.o (fun k hk=>by rw[HG.o];exact Nat.ne_of_lt hk.2.2.1) _) (fun k hk=>by rw[HG.o];exact Nat.ne_of_lt hk.2.2.1) _) hb) (fun _ _=>trivial));replace J:=aK (blk_below (blk_far (blk_far J.o NB.o _) NB.o _) hb);replace A1:=aK (blk_below (blk_put (blk_put A1.o 0 _ rfl) 1 _ rfl) hb);replace HB:=bs (w:=w0) hb;clear hb A3 A4 A5 A6;obtain⟨A3,A4,A5,A6⟩:=cf2 A1))
        go_roundg (gk-1)
        case measure=>have:=U.o;omega
        case rel=>exact⟨i,wrap64 (j+1),xs,fa,fa,⟨by rw[HW.o];have:=U.o;omega⟩,HXL,⟨by rw[HW.o];exact HH.o⟩,⟨by rw[HW.o];exact AL.o⟩,HO,J,HB⟩
      · have Ai:((rd_T133 xs j).f0.toList==a.toList)=false:=by simpa using c2
        have HH:Aside0 (xs.take i.toNat++(rd_T133 xs j::delM a (l0.drop (j+1).toNat))=r):=⟨by rw[←hH];simp[delM,Ai]⟩
        clear hH H HT c2
        go_wp2_with (first|((with_reducible refine gd 7 ?_);refine boxW ?_;intro gb hg w1 hbox hb;have Az:=aK (Kd.R_below (Kd.R_bound HO.o) hb);have HG:=aK hg;have NB:=nl J hg;replace J:=bv J hb;have A1:=aK hbox;have B9:=gw (w:=w0) hg;replace HB:=bs (w:=w0) hb;clear hb hbox hg;obtain⟨A3,A4,A5,A6⟩:=cf2 A1)|(go_at_call 190;(with_reducible refine(unlinked_1 _ _ a g _ ?sb).mono ?_);(case sb=>exact blk_far (blk_far J.o NB.o _) NB.o _);rintro e w2 ⟨rfl,hb⟩;replace HO:=aK (rM (Kd.R_below (Kd.R_far (p:=⟨gb,1,none⟩) (Kd.R_far (p:=⟨gb,0,none⟩) Az.o (fun k hk=>by rw[HG.o];exact Nat.ne_of_lt hk.2.2.1) _) (fun k hk=>by rw[HG.o];exact Nat.ne_of_lt hk.2.2.1) _) hb) (fun _ _=>trivial));replace J:=aK (blk_below (blk_far (blk_far J.o NB.o _) NB.o _) hb);replace A1:=aK (blk_below (blk_put (blk_put A1.o 0 _ rfl) 1 _ rfl) hb);replace HB:=bs (w:=w0) hb;clear hb A3 A4 A5 A6;obtain⟨A3,A4,A5,A6⟩:=cf2 A1)|((with_reducible refine gate_store (t:=133) (p:=33) rfl ?_);refine Kd.R_store k133 (w0:=w0) w0.heap.size rfl rfl 133 (.tmp 33) (.tmp 32) rfl 133 (g:=g2) (n:=l0.length) (cap:=cap) i 0 xs (rd_T133 xs j) (.agg #[.string (rd_T133 xs j).f0,.int .i64 (rd_T133 xs j).f1]) [.string (rd_T133 xs j).f0,.int .i64 (rd_T133 xs j).f1] [.string (rd_T133 xs i).f0,.int .i64 (rd_T133 xs i).f1] (fun _=>True) (fun _=>False) rfl (show i.toNat*2=i.toNat*k133.sz+0 from rfl) rfl rfl ?ht ?h1 HO.o ?h0 ?hi rfl ?hcc (show 0+2≤2 from Nat.le_refl _) ?hM (fun _ h=>h.elim) HB.o ?_;(case ht=>kernel_rfl);(case h1=>intro q hq;rcases List.mem_cons.1 hq with rfl|hq;rfl;rcases List.mem_cons.1 hq with rfl|hq;rfl;cases hq);(case h0=>have:=U.o;omega);(case hi=>have:=U.o;omega);(case hcc=>have AM:=(Kd.R_reads' HO.o).2.2;rw[HXL.o]at AM;obtain⟨ad,e,At,Ag⟩:=at_T133 AM i (by have:=U.o;omega) (by have:=U.o;omega);cases e;simp only[addz]at At Ag;intro q u hq;match q,hq with| 0,hq=>(cases hq;exact At)| 1,hq=>(cases hq;exact Ag));(case hM=>exact k133_mkM _ _ _ _);intro w3 ho hb hg;replace J:=aK (blk_grown J.o hg (fun e_=>HNE.o (by injection e_)));replace HO:=aK ho;replace HB:=aK hb;clear hb hg ho))
        go_roundg (gk-1)
        case measure=>have:=U.o;omega
        case rel=>exact⟨wrap64 (i+1),wrap64 (j+1),xs.set i.toNat (rd_T133 xs j),fa,fa,⟨by rw[HW.o,AI.o];have:=U.o;omega⟩,⟨by rw[List.length_set];exact HXL.o⟩,⟨by rw[HW.o,AI.o,show(i+1).toNat=i.toNat+1 by have:=U.o;omega,set_take _ _ _ (by have:=U.o;have:=HXL.o;omega),List.append_assoc];exact HH.o⟩,⟨by rw[HW.o,List.drop_set_of_lt (by have:=U.o;omega)];exact AL.o⟩,HO,J,HB⟩
    · have cb:decide (j<(l0.length:Int))=false:=df c
      have hfin:xs.take i.toNat=r:=by
       have h:=H.o;rw[List.drop_of_length_le (show l0.length≤j.toNat by omega)]at h;simpa [delM] using h
      have HF:=aK hfin;have U:=aK (And.intro hx c);have q1:(0≤i)=True:=eq_true (by omega);have q2:(i≤(l0.length:Int))=True:=eq_true (by omega)
      have hcl:∃zs:List Value,zs.length=(l0.length-i.toNat)*2∧(Builtin.clear_ #[32] 0 #[.slice (some ⟨g2,i.toNat*2,none⟩) (l0.length-i.toNat) (cap-i.toNat)]).run Tryz.prog wr = .ok (.tuple #[]) (wr.setCells g2 (i.toNat*2) zs):=by
       obtain⟨_,inner,⟨_,hown⟩,_⟩:=HO.o
       rcases hown with⟨hv,_⟩|⟨g',cap',cur,hv,hb,hh,hle,hm,hs,ht⟩
       · cases hv
       injection hv with ha hn hc
       injection ha with ha
       injection ha with hg
       subst hg;subst hc;have AN:cur.size=cap*2:=hs;exact run_clear_cells wr 32 133 0 (.agg #[.string ⟨#[]⟩,.int .i64 0]) Tryz.underlying32 (fun w=>by kernel_rfl) g2 (i.toNat*2) (l0.length-i.toNat) (cap-i.toNat) (by omega) (by intro v hv;rcases List.mem_cons.1 hv with rfl|hv;rfl;rcases List.mem_cons.1 hv with rfl|hv;rfl;cases hv) (by decide) cur 133 hh (by have:=HLC.o;show i.toNat*2+(l0.length-i.toNat)*2≤cur.size;omega)
      obtain⟨zs,Ag,AO⟩:=hcl
      have HOF:Aside0 (Kd.R k133 133 (wr.setCells g2 (i.toNat*2) zs) w0.heap.size (fun _=>True) (.slice (some ⟨g2,0,none⟩) i.toNat cap) r):=⟨by
       have h:=Kd.R_take HO.o (m:=i.toNat) (by have:=HXL.o;omega);rw[HF.o]at h
       exact R_tail h _ _ (Nat.le_refl _) (by have:=HLC.o;show i.toNat*2+zs.length≤cap*2;omega)⟩
      have HBF:Aside0 (Below w0.heap.size w0 (wr.setCells g2 (i.toNat*2) zs)):=⟨by
       obtain⟨s1,s2,s3,s4⟩:=setCells_same g2 zs (i.toNat*2) wr;have Bk:=Kd.R_base HO.o g2 rfl
       exact⟨s1.trans HB.out.os,s2.trans HB.out.tape,s3.trans HB.out.output,by rw[s4];exact HB.out.size,fun k hk=>(setCells_far zs _ k (by omega)).trans (HB.out.block k hk)⟩⟩
      have q3:(i≤(cap:Int))=True:=eq_true (by have:=HLC.o;omega);have n1:¬(i.toNat=cap):=by have:=HLC.o;omega
      have n2:¬(cap=i.toNat):=by have:=HLC.o;omega
      clear H HT hx c hfin Ag
      go_wp2_with fail
      go_ret
      exact⟨_,rfl,HOF.o,HBF.o⟩
def impl_unlinked.f (l0:List (S133)) (a1:ByteArray):Option ((List (S133))):=if l0.length<5864062014805 then some (delM a1 l0)else none
theorem impl_unlinked.calls (A0:Option Addr) (c0:Nat) (l0:List (S133)) (a1:ByteArray) (r:List (S133)) (w:World) (Z:Kd.C k133 w A0 l0.length l0) (Y:l0.length≤c0) (h:impl_unlinked.f l0 a1=some r) :
 Calls Tryz.prog 171 #[.slice A0 l0.length c0,.string a1] w fun e w'=>∃Aj:Value,e = .returned (Aj)∧Kd.R k133 133 w' w.heap.size (fun _=>True) Aj r∧Below w.heap.size w w':=by
 have c1:l0.length<5864062014805:=by
  by_cases c:l0.length<5864062014805
  ·exact c
  ·simp[impl_unlinked.f,c]at h
 obtain rfl:delM a1 l0=r:=by simpa [impl_unlinked.f,c1] using h
 have HL:=aK c1;have HF:=aK (show impl_Link_125.f l0=some l0 by simp[impl_Link_125.f,c1]);have Aa:=aK Z;have Ab:=aK Y;have HB:=aK (Below.refl w.heap.size w);obtain⟨r,hr⟩:∃r,delM a1 l0=r:=⟨_,rfl⟩;have HQ:=aK hr;rw[hr];clear Z Y c1 h hr
 go_enter Tryz.func171,Tryz.ntmps171
 go_wp2_with (first|((with_reducible refine gd 3 ?_);refine boxW ?_;intro g hg w1 hbox hb;have J:=aK hbox;replace HB:=bS HB hb;clear hb hbox hg)|(go_at_call 125;(with_reducible refine(impl_Link_125.calls A0 c0 l0 l0 _ ?s1 Ab.o HF.o).mono ?_);(case s1=>exact(Kd.C_below Aa.o bl));rintro e w2 ⟨v,rfl,ho,hb⟩;have HO:=rl HB ho;replace J:=bv J hb;replace HB:=bS HB hb;clear hb ho)|(go_at_call 189;(with_reducible refine(deleteLink v l0 a1 g w _ bl HO.o HL.o (bk)).mono ?_);rintro e w3 ⟨v2,rfl,ho,hb⟩;rw[HQ.o]at ho;replace HO:=aK ho;replace HB:=aK hb;clear hb ho))
 go_ret
 exact⟨_,rfl,HO.o,HB.o⟩
theorem inodeAt_1 (x0:Int) (x1:ByteArray) (x2:Int) (a:Int) (g:Nat) (w:World) (hb:w.heap[g]? = some (.cells #[.int .i64 a] 3 (0,0))) :
 Calls Tryz.prog 168 #[.agg #[.int .i64 x0,.string x1,.int .i64 x2],.pointer (some ⟨g,0,none⟩)] w fun e w'=>e = .returned (.bool (x0==a))∧Below w.heap.size w w':=by
 have AP:=Tryz.underlying130;have J:=aK hb;have HB:=aK (Below.refl w.heap.size w);clear hb
 go_enter Tryz.func168,Tryz.ntmps168
 go_wp2_with (first|((with_reducible refine gd 2 ?_);refine boxW ?_;intro gb hg w1 hbox hb;replace J:=bv J hb;have A1:=aK hbox;replace HB:=bS HB hb;clear hb hbox hg;obtain⟨Y,As⟩:=cf1 J;obtain⟨A3,A4,Bl,A5,A6,Bm⟩:=cf3 A1))
 go_ret
 exact⟨fe,bl⟩
def ixf (a:Int):List (S130)→Int→Int
 | [],_=>-1
 |x::r,i=>if(x.f0==a)=true then i else ixf a r (i+1)
theorem ixf_drop (a:Int) (l:List (S130)) (i:Int) (h0:0≤i) (h1:i<(l.length:Int)):ixf a (l.drop i.toNat) i=if((rd_T130 l i).f0==a)=true then i else ixf a (l.drop (i+1).toNat) (i+1):=by
 have hlt:i.toNat<l.length:=by omega
 rw[List.drop_eq_getElem_cons hlt,show(i+1).toNat=i.toNat+1 by omega];have:rd_T130 l i=l[i.toNat]:=by unfold rd_T130;rw[List.getD_eq_getElem?_getD,List.getElem?_eq_getElem hlt];rfl
 rw[this];rfl
theorem indexInode (A0:Option Addr) (c0:Nat) (l0:List (S130)) (a:Int) (g:Nat) (w:World) (Z:Kd.C k130 w A0 l0.length l0) (Y:l0.length≤c0) (hb:w.heap[g]? = some (.cells #[.int .i64 a] 3 (0,0))) :
 Calls Tryz.prog 167 #[.slice A0 l0.length c0,.func (.func 168) #[] #[.pointer (some ⟨g,0,none⟩)]] w fun e w'=>e = .returned (.int .i64 (ixf a l0 0))∧Below w.heap.size w w':=by
 have AP:=Tryz.underlying130;have eg:=fun(args:Array Value) (w:World)=>enters_ (P:=Tryz.prog) Tryz.func168 (by kernel_rfl) rfl args w
 have hlen:=Z.2.1;have HL:=aK hlen;have Aa:=aK Z;have Ab:=aK Y;have J:=aK hb;have HB:=aK (Below.refl w.heap.size w)
 obtain⟨r,hr⟩:∃r,ixf a l0 0=r:=⟨_,rfl⟩
 rw[hr];have H':=aK (show ixf a (l0.drop (0:Int).toNat) 0=r from hr);clear Z Y hb hlen hr
 go_enter Tryz.func167,Tryz.ntmps167
 go_wp2
 go_loopg [8] l0.length (fun kq v8 w'=>∃x:Int,v8 = .int .i64 x∧Aside0 (0≤x∧x+kq=l0.length)∧Aside0 (ixf a (l0.drop x.toNat) x=r)∧Aside0 (w'.heap[g]? = some (.cells #[.int .i64 a] 3 (0,0)))∧Aside0 (Below w.heap.size w w'))
 case atStart=>exact⟨0,fa,⟨by omega,by omega⟩,H',J,HB⟩
 case round=>
  clear H';obtain⟨x,rfl,HX,H,J,HB⟩:=hrel;have hx:=HX.o;by_cases c:x<(l0.length:Int)
  · have cb:decide (x<(l0.length:Int))=true:=dt c;have hstep:=ixf_drop a l0 x hx.1 c;rw[H.o]at hstep;obtain⟨ad,e,A7,A8,AQ⟩:=at_T130 Aa.o x hx.1 c
    cases e
    replace A7:=cz HB A7;replace A8:=cz HB A8;replace AQ:=cz HB AQ;have p1:(0≤x)=True:=eq_true hx.1;have p2:(x<(l0.length:Int))=True:=eq_true c;have hw:wrap64 (x+1)=x+1:=by have:=HL.o;unfold wrap64;omega
    have HW:=aK hw;clear hw;by_cases c2:((rd_T130 l0 x).f0==a)=true
    · rw[if_pos c2]at hstep;have HS:=aK hstep;clear hstep hx c
      go_wp2_with (first|(go_at_call 168;(with_reducible refine(inodeAt_1 _ _ _ a g _ (bk)).mono ?_);rintro e w' ⟨rfl,hb⟩;replace HB:=bS HB hb;clear hb))
      go_ret
      exact⟨by first|(rw[HS.o];done)|(rw[HS.o];rfl),bl⟩
    · rw[if_neg c2]at hstep;have Ai:((rd_T130 l0 x).f0==a)=false:=by simpa using c2
      have HS:=aK hstep;have U:=aK (And.intro hx.1 c);clear hstep hx c c2
      go_wp2_with (first|(go_at_call 168;(with_reducible refine(inodeAt_1 _ _ _ a g _ (bk)).mono ?_);rintro e w' ⟨rfl,hb⟩;replace J:=bv J hb;replace HB:=bS HB hb;clear hb))
      go_roundg (gk-1)
      case measure=>have:=HX.o;have:=U.o;omega
      case rel=>exact⟨wrap64 (x+1),fa,⟨by rw[HW.o];have:=U.o;omega,by rw[HW.o];have:=HX.o;have:=U.o;omega⟩,⟨by rw[HW.o];exact HS.out.symm⟩,⟨bk⟩,⟨bl⟩⟩
  · have cb:decide (x<(l0.length:Int))=false:=df c;have hd:l0.drop x.toNat = []:=List.drop_of_length_le (by omega);have HS:=aK (show r = -1 by rw[←H.o,hd];rfl);clear hx c hd
    go_wp2
    go_ret
    exact⟨by first|(rw[HS.o];done)|(rw[HS.o];rfl),bl⟩
def impl_inodeAt.f (Ak:Int) (Al:Int) (A2:List (S130)) (Ac:List (S133)) (Ad:List (S135)) (a1:Int):Option (Int):=some (ixf a1 A2 0)
theorem impl_inodeAt.calls (Ak:Int) (Al:Int) (Am:Option Addr) (An:Nat) (A2:List (S130)) (Av:Option Addr) (Aw:Nat) (Ac:List (S133)) (Ax:Option Addr) (Ay:Nat) (Ad:List (S135)) (a1:Int) (r:Int) (w:World) (Ap:Kd.C k130 w Am A2.length A2) (Aq:A2.length≤An) (A_:Kd.C k133 w Av Ac.length Ac) (AA:Ac.length≤Aw) (AB:Kd.C k135 w Ax Ad.length Ad) (AC:Ad.length≤Ay) (h:impl_inodeAt.f Ak Al A2 Ac Ad a1=some r) :
 Calls Tryz.prog 121 #[.agg #[.int .i64 Ak,.int .i64 Al,.slice Am A2.length An,.slice Av Ac.length Aw,.slice Ax Ad.length Ay],.int .i64 a1] w fun e w'=>e = .returned (.int .i64 r)∧Below w.heap.size w w':=by
 obtain rfl:ixf a1 A2 0=r:=oj h;have Bh:=Tryz.underlying35;have Ba:=aK Ap;have Bb:=aK Aq;have HB:=aK (Below.refl w.heap.size w);clear Ap Aq A_ AA AB AC h
 obtain⟨q,hq⟩:∃q,ixf a1 A2 0=q:=⟨_,rfl⟩
 have HQ:=aK hq;rw[hq];clear hq
 go_enter Tryz.func121,Tryz.ntmps121
 go_wp2_with (first|((with_reducible refine gd 2 ?_);refine boxW ?_;intro g1 hg w1 hbox hb;have J:=aK hbox;replace HB:=bS HB hb;clear hb hbox hg;obtain⟨Y,AR,AS,AT,AU,As,AV,AW,AX,AY⟩:=cf5 J)|((with_reducible refine gd 3 ?_);refine boxW ?_;intro g2 hg w2 hbox hb;have Bi:=nL J hg;have Bj:=nR J hg;have A1:=aK hbox;replace J:=bv J hb;replace HB:=bS HB hb;clear hb hbox hg Y AR AS AT AU As AV AW AX AY;obtain⟨Y,AR,AS,AT,AU,As,AV,AW,AX,AY⟩:=cf5 J)|((with_reducible refine gc 167 ?_);refine goesW Tryz.func167 ?_;(with_reducible refine(indexInode Am An A2 a1 g2 _ ?s1 Bb.o ?s2).mono ?_);(case s1=>exact(Kd.C_below Ba.o bl));(case s2=>exact bk);rintro e w3 ⟨rfl,hb⟩;refine⟨_,rfl,?_⟩;replace HB:=bS HB hb;clear hb))
 go_ret
 exact⟨by first|(rw[HQ.o];done)|(rw[HQ.o];rfl),bl⟩
def cmpS (a b:ByteArray):Int:=Lib.compareBytes a.data.toList b.data.toList
theorem cmpString (a b:ByteArray) (w:World):Calls Tryz.prog 195 #[.string a,.string b] w fun e w'=>e = .returned (.int .i64 (cmpS a b))∧w=w':=by
 go_enter Tryz.func195,Tryz.ntmps195
 go_wp2
 rw[run_callFunc_extern Tryz.func198 (by kernel_rfl) (by kernel_rfl) (by kernel_rfl) (e:=Extern.BytealgCompare.compare) (by kernel_rfl),Lib.run_compareString];simp only[Result.andThen];rw[Oper.upon_value]
 go_wp2
 go_ret
 exact⟨rfl,rfl⟩
theorem strCompare (a b:ByteArray) (w:World):Calls Tryz.prog 186 #[.string a,.string b] w fun e w'=>e = .returned (.int .i64 (cmpS a b))∧w=w':=by
 go_enter Tryz.func186,Tryz.ntmps186
 go_wp2_with (go_at_call 195;refine(cmpString _ _ _).mono ?_;rintro e w' ⟨rfl,rfl⟩)
 go_ret
 exact⟨rfl,rfl⟩
theorem linkAt_1 (x0:ByteArray) (x1:Int) (s:ByteArray) (w:World) :
 Calls Tryz.prog 185 #[.agg #[.string x0,.int .i64 x1],.string s] w fun e w'=>e = .returned (.int .i64 (cmpS x0 s))∧Below w.heap.size w w':=by
 have Af:=Tryz.underlying133;have HB:=aK (Below.refl w.heap.size w)
 go_enter Tryz.func185,Tryz.ntmps185
 go_wp2_with (first|((with_reducible refine gd 2 ?_);refine boxW ?_;intro gb hg w1 hbox hb;have A1:=aK hbox;replace HB:=bS HB hb;clear hb hbox hg;obtain⟨A3,A4,A5,A6⟩:=cf2 A1)|(go_at_call 186;refine(strCompare _ _ _).mono ?_;rintro e w' ⟨rfl,rfl⟩))
 go_ret
 exact⟨fe,bl⟩
def bsn (l:List (S133)) (s:ByteArray):Nat→Int→Int→Int
 | 0,i,_=>i
 |k+1,i,j=>if i<j then(if cmpS (rd_T133 l ((i+j)/2)).f0 s<0 then bsn l s k ((i+j)/2+1) j else bsn l s k i ((i+j)/2))else i
theorem searchLink (A0:Option Addr) (c0:Nat) (l0:List (S133)) (s:ByteArray) (w:World) (Z:Kd.C k133 w A0 l0.length l0) (Y:l0.length≤c0) (hlim:l0.length<5864062014805) :
 Calls Tryz.prog 184 #[.slice A0 l0.length c0,.string s,.func (.func 185) #[] #[]] w fun e w'=>e = .returned (.tuple #[.int .i64 (bsn l0 s l0.length 0 l0.length),.bool (decide (bsn l0 s l0.length 0 l0.length<(l0.length:Int))&&(cmpS (rd_T133 l0 (bsn l0 s l0.length 0 l0.length)).f0 s==0))])∧Below w.heap.size w w':=by
 have Af:=Tryz.underlying133;have eg:=fun(args:Array Value) (w:World)=>enters_ (P:=Tryz.prog) Tryz.func185 (by kernel_rfl) rfl args w
 have HL:=aK hlim;have Aa:=aK Z;have HB:=aK (Below.refl w.heap.size w)
 obtain⟨p,hp⟩:∃p,bsn l0 s l0.length 0 l0.length=p:=⟨_,rfl⟩
 rw[hp];have H':=aK hp;clear Z hlim hp
 go_enter Tryz.func184,Tryz.ntmps184
 go_wp2
 go_loopg [9,10] l0.length (fun kq v9 Bc w'=>∃i j:Int,v9 = .int .i64 i∧Bc = .int .i64 j∧Aside0 (0≤i∧i≤j∧j≤l0.length∧j-i≤kq)∧Aside0 (bsn l0 s kq i j=p)∧Aside0 (Below w.heap.size w w'))
 case atStart=>exact⟨0,l0.length,fa,fa,⟨by omega,by omega,by omega,by omega⟩,H',HB⟩
 case round=>
  clear H';obtain⟨i,j,rfl,rfl,HX,H,HB⟩:=hrel;have hx:=HX.o;have hl:=HL.o;by_cases c:i<j
  · have cb:decide (i<j)=true:=dt c
    obtain⟨k,rfl⟩:∃k,gk=k+1:=⟨gk-1,by omega⟩
    have hstep:=H.o;simp only[bsn]at hstep;rw[if_pos c]at hstep;have h0:0≤i:=hx.1;have Bn:0≤j:=by omega
    have h1:i+j≤11728124029610:=by omega
    have U:=aK (And.intro hx c);have q0:0≤(i+j)/2:=by omega
    have q1:(i+j)/2<(l0.length:Int):=by omega
    obtain⟨ad,e,A7,A8⟩:=at_T133 Aa.o ((i+j)/2) q0 q1
    cases e
    replace A7:=cz HB A7;replace A8:=cz HB A8;have p1:(0≤(i+j)/2)=True:=eq_true q0;have p2:((i+j)/2<(l0.length:Int))=True:=eq_true q1;have HW:=aK (show wrap64 ((i+j)/2+1)=(i+j)/2+1 by unfold wrap64;omega);clear hx q0 q1 hl;by_cases c2:cmpS (rd_T133 l0 ((i+j)/2)).f0 s<0
    · rw[if_pos c2]at hstep;have Ai:=dt c2;have HS:=aK hstep;clear hstep c c2
      go_wp2_with (first|(go_at_call 185;(with_reducible refine(linkAt_1 _ _ _ _).mono ?_);rintro e w' ⟨rfl,hb⟩;replace HB:=bS HB hb;clear hb))
      go_roundg k
      case measure=>omega
      case rel=>exact⟨(i+j)/2+1,j,fa,fa,⟨by have:=U.o;omega,by have:=U.o;omega,by have:=U.o;omega,by have:=U.o;omega⟩,⟨HS.o⟩,⟨bl⟩⟩
    · rw[if_neg c2]at hstep;have Ai:=df c2;have HS:=aK hstep;clear hstep c c2
      go_wp2_with (first|(go_at_call 185;(with_reducible refine(linkAt_1 _ _ _ _).mono ?_);rintro e w' ⟨rfl,hb⟩;replace HB:=bS HB hb;clear hb))
      go_roundg k
      case measure=>omega
      case rel=>exact⟨i,(i+j)/2,fa,fa,⟨by have:=U.o;omega,by have:=U.o;omega,by have:=U.o;omega,by have:=U.o;omega⟩,⟨HS.o⟩,⟨bl⟩⟩
  · have cb:decide (i<j)=false:=df c
    have hp:i=p:=by
      have h:=H.o
      cases gk with
      |zero=>exact h
      |succ k=>simp only[bsn]at h;rw[if_neg c]at h;exact h
    subst hp;by_cases c3:i<(l0.length:Int)
    · have AD:=dt c3;obtain⟨ad,e,A7,A8⟩:=at_T133 Aa.o i hx.1 c3
      cases e
      replace A7:=cz HB A7;replace A8:=cz HB A8;have p1:(0≤i)=True:=eq_true hx.1;have p2:(i<(l0.length:Int))=True:=eq_true c3;clear hx c c3 hl
      go_wp2_with (first|(go_at_call 185;(with_reducible refine(linkAt_1 _ _ _ _).mono ?_);rintro e w' ⟨rfl,hb⟩;replace HB:=bS HB hb;clear hb))
      go_ret2
      exact⟨by simp[AD],bl⟩
    · have AD:=df c3;clear hx c c3 hl
      go_wp2_with fail
      go_ret2
      exact⟨by simp[AD],bl⟩
def impl_linkAt.f (l0:List (S133)) (a1:ByteArray):Option (Int×Bool):=if l0.length<5864062014805 then some (bsn l0 a1 l0.length 0 l0.length,decide (bsn l0 a1 l0.length 0 l0.length<(l0.length:Int))&&(cmpS (rd_T133 l0 (bsn l0 a1 l0.length 0 l0.length)).f0 a1==0))else none
theorem impl_linkAt.calls (A0:Option Addr) (c0:Nat) (l0:List (S133)) (a1:ByteArray) (r1:Int) (r2:Bool) (w:World) (Z:Kd.C k133 w A0 l0.length l0) (Y:l0.length≤c0) (h:impl_linkAt.f l0 a1=some (r1,r2)) :
 Calls Tryz.prog 157 #[.slice A0 l0.length c0,.string a1] w fun e w'=>e = .returned (.tuple #[.int .i64 r1,.bool r2])∧Below w.heap.size w w':=by
 have hlim:l0.length<5864062014805:=by
  by_cases c:l0.length<5864062014805
  ·exact c
  ·simp[impl_linkAt.f,c]at h
 have hs:=searchLink A0 c0 l0 a1 w Z Y hlim;unfold impl_linkAt.f at h;rw[if_pos hlim]at h;have h:=oj h;simp only[Prod.mk.injEq]at h;obtain⟨h1,h2⟩:=h;rw[h1]at hs h2;rw[h2]at hs;have HS:=aK hs;have HB:=aK (Below.refl w.heap.size w);clear h1 h2 hs hlim Z Y
 go_enter Tryz.func157,Tryz.ntmps157
 go_wp2_with (first|(go_at_call 184;(with_reducible refine HS.out.mono ?_);rintro e w' ⟨rfl,hb⟩;replace HB:=bS HB hb;clear hb))
 go_ret2
 exact⟨rfl,bl⟩
theorem step_copy_runI {P:Program} {ops:Array Oper} {o:Oper} {a:Act} {w:World} {K:Act→World→Prop} {Q:Exit→Act→World→Prop} {E:Prop}
 (hg:o.guard=none) (d x:Operand) (dT sT:TypeId) (hop:o.op=Op.call { callee:=Callee.builtin Builtin.copy,args:=#[d,x],argTypes:=#[dT,sT]})
 (v u:Value) (hd:a.eval d=v) (hx:a.eval x=u) {v':Value} {w':World} (hr:(Builtin.copy_ #[dT,sT] o.type #[v,u]).run P w = .ok v' w') (hK:K (a.put o.dst v') w') :
 if Region.wanted o (yielded ops a.tmps)=true then Oper.wp P o a w K Q else E:=by
 have hw:Region.wanted o (yielded ops a.tmps)=true:=by simp[Region.wanted,hg]
 rw[if_pos hw];exact Lib.wp_copy_run w d x dT sT hop v u hd hx hr hK
theorem run_copy_sz {P:Program} (w:World) (dT sT ty elem:TypeId) (sz g o dLen dCap:Nat) (a:Addr) (sLen sCap:Nat) (cs:List Value) (cur:Array Value) (ce:TypeId)
 (hu:P.underlying dT=some (.slice elem)) (hs:(P.info? elem).map (·.size)=some sz)
 (hh:w.heap[g]? = some (.cells cur ce (0,0))) (hn:cs.length=Nat.min sLen dLen*sz)
 (hsrc:∀j v,cs[j]? = some v→w.cell? (a.add j)=some v) (hfit:o+cs.length≤cur.size) (h1:∀v∈cs,v.oneCell'=true) :
 (Builtin.copy_ #[dT,sT] ty #[.slice (some ⟨g,o,none⟩) dLen dCap,.slice (some a) sLen sCap]).run P w = .ok (goInt ((Nat.min sLen dLen:Nat):Int)) (w.setCells g o cs):=by
 have hl:=run_loadCells_list (P:=P) w a cs hsrc;have hst:=run_storeCells_cells (P:=P) g o cs 0 w (fun j hj=>by rw[cell_of_row w g _ cur ce (0,0) hh];simp;omega) (fun j _=>blk_frozen hh _) h1;simp only[Nat.add_zero]at hst
 cases hq:P.info? elem with
 |none=>simp[hq]at hs
 |some i=>
  have hi:i.size=sz:=by simpa [hq] using hs
  simp[Builtin.copy_,run_underlying hu,Builtin.lenOf,Builtin.firstCells,sizeOf,typeInfo,hq,hi,←hn,hl,hst]
theorem ins_shift (cur inner V:List Value) (i n:Nat) (hi:i≤n) (hV:V.length=2) (h:cur.take (n*2)=inner) (hc:(n+1)*2≤cur.length) (c1 c2:List Value)
 (h1:c1=cur.take ((i+1)*2)++inner.drop (i*2)++cur.drop ((i+1)*2+(inner.drop (i*2)).length)) (h2:c2=c1.take (i*2)++V++c1.drop (i*2+V.length)) :
 c2.take ((n+1)*2)=inner.take (i*2)++(V++inner.drop (i*2)):=by
 have hl:inner.length=n*2:=by rw[←h,List.length_take];omega
 have e1:c1.take (i*2)=inner.take (i*2):=by
  rw[h1,List.append_assoc,List.take_append_of_le_length (by rw[List.length_take];omega),List.take_take,←h,List.take_take];congr 1;omega
 have e2:c1.drop (i*2+V.length)=inner.drop (i*2)++cur.drop ((i+1)*2+(inner.drop (i*2)).length):=by
  rw[h1,List.append_assoc,hV,show i*2+2=(i+1)*2 by omega,List.drop_left' (by rw[List.length_take];omega)]
 have e3:c2=(inner.take (i*2)++(V++inner.drop (i*2)))++cur.drop ((i+1)*2+(inner.drop (i*2)).length):=by rw[h2,e1,e2];simp only[List.append_assoc]
 rw[e3,List.take_left' (by simp only[List.length_append,List.length_take,List.length_drop];omega)]
theorem ins_grow (row inner V:List Value) (i n:Nat) (hi:i≤n) (hV:V.length=2) (hl:inner.length=n*2) (h:row.take (i*2)=inner.take (i*2)) (hc:(n+1)*2≤row.length) (c1 c2:List Value)
 (h1:c1=row.take (i*2)++V++row.drop (i*2+V.length)) (h2:c2=c1.take ((i+1)*2)++inner.drop (i*2)++c1.drop ((i+1)*2+(inner.drop (i*2)).length)) :
 c2.take ((n+1)*2)=inner.take (i*2)++(V++inner.drop (i*2)):=by
 have e1:c1.take ((i+1)*2)=inner.take (i*2)++V:=by
  rw[h1,h,List.take_left' (by simp only[List.length_append,List.length_take];omega)]
 rw[h2,e1,List.take_left' (by simp only[List.length_append,List.length_take,List.length_drop];omega),List.append_assoc]
theorem R_open {α:Type} {d:Kd α} {e:Nat} {w:World} {base:Nat} {ok:Nat→Prop} {v:Value} {xs:List α} (h:d.R e w base ok v xs) (hn:0<xs.length) :
 ∃g cap cur inner,v = .slice (some ⟨g,0,none⟩) xs.length cap∧base≤g∧w.heap[g]? = some (.cells cur e (0,0))∧xs.length≤cap∧cap≤maxLen∧cur.size=cap*d.sz∧cur.toList.take (xs.length*d.sz)=inner∧inner.length=xs.length*d.sz∧Reps (d.M w base (fun k=>ok k∧some k≠v.ownBlock)) d.sz xs inner:=by
 obtain⟨h0,inner,⟨hl,hown⟩,hr⟩:=h
 rcases hown with⟨hv,h0⟩|⟨g,cap,cur,rfl,hb,hh,hle,hm,hs,ht⟩
 · omega
 · exact⟨g,cap,cur,inner,rfl,hb,hh,hle,hm,hs,ht,hl,hr⟩
def lkC (x:S133):List Value:=[.string x.f0,.int .i64 x.f1]
theorem R_ins (w':World) (base g cap:Nat) (cur':Array Value) (l0:List (S133)) (x:S133) (inner:List Value) (i:Nat) (hi:i≤l0.length) (hb:base≤g) (hh:w'.heap[g]? = some (.cells cur' 133 (0,0))) (hle:l0.length+1≤cap) (hm:cap≤maxLen) (hs:cur'.size=cap*2) (hl:inner.length=l0.length*2)
 (hr:Reps (fun(p:S133) cs=>cs=lkC p) 2 l0 inner) (ht:cur'.toList.take ((l0.length+1)*2)=inner.take (i*2)++(lkC x++inner.drop (i*2))) :
 Kd.R k133 133 w' base (fun _=>True) (.slice (some ⟨g,0,none⟩) (l0.length+1) cap) (l0.take i++x::l0.drop i):=by
 have hlen:(l0.take i++x::l0.drop i).length=l0.length+1:=by simp;omega
 refine⟨fun _ _=>trivial,inner.take (i*2)++(lkC x++inner.drop (i*2)),?_,?_⟩
 · rw[hlen];refine⟨?_,.inr ⟨g,cap,cur',rfl,hb,hh,hle,hm,hs,ht⟩⟩;show(inner.take (i*2)++(lkC x++inner.drop (i*2))).length=(l0.length+1)*2;simp only[List.length_append,List.length_take,List.length_drop,lkC,List.length_cons,List.length_nil];omega
 · exact Kd.reps_append (Kd.reps_take (hr.imp_ (fun p _ h=>h▸k133_mkM _ _ _ p)) hi) (Reps.c2 (k133_mkM _ _ _ x) (Kd.reps_drop (hr.imp_ (fun p _ h=>h▸k133_mkM _ _ _ p))))
theorem one_row (w:World) (vb:Nat) (x:S133) (m:Nat) (hm:m=1) (h:w.heap[vb]? = some (.cells #[.string x.f0,.int .i64 x.f1] 133 (0,0))):Kd.C k133 w (some ⟨vb,0,none⟩) m [x]:=by
 subst hm;refine⟨rfl,by omega,fun _=>⟨_,rfl,fun j p hj=>?_⟩⟩
 cases j with
 |succ j=>simp at hj
 |zero=>
  simp only[List.getElem?_cons_zero,Option.some.injEq]at hj;subst hj;refine⟨lkC x,rfl,k133_mk _ _,fun q u hq=>?_⟩;rw[Nat.zero_mul,Nat.zero_add,addz]
  match q,hq with
  | 0,hq=>cases hq;exact(blk_cell h 0).trans rfl
  | 1,hq=>cases hq;exact(blk_cell h 1).trans rfl
theorem insertEnd (u:Value) (l0:List (S133)) (x:S133) (vb m:Nat) (hm:m=1) (w0 w:World) (hB:Below w0.heap.size w0 w) (ho:Kd.R k133 133 w w0.heap.size (fun _=>True) u l0) (hlim:l0.length+1<5864062014805) (hvb:w.heap[vb]? = some (.cells #[.string x.f0,.int .i64 x.f1] 133 (0,0))) :
 Calls Tryz.prog 188 #[u,.int .i64 (l0.length:Int),.slice (some ⟨vb,0,none⟩) m m] w fun e w'=>∃v,e = .returned v∧Kd.R k133 133 w' w0.heap.size (fun _=>True) v (l0 ++ [x])∧Below w0.heap.size w0 w':=by
 have HC:=one_row w vb x m hm hvb;have Ag:¬((m:Int)=0):=by omega
 have mixed:Tryz.prog.follows .mixedOrders=true:=by kernel_rfl
 obtain⟨A,c,rfl,hlc,hC⟩:=Kd.R_reads ho;have hlc':(l0.length:Int)≤(c:Int):=by omega
 go_enter Tryz.func188,Tryz.ntmps188
 go_wp2_with (at_builtin;refine Kd.R_append_rows k133 (w0:=w0) w0.heap.size rfl _ _ 32 133 (.agg #[(.string ⟨#[]⟩),(.int .i64 0)]) 24 rfl Tryz.underlying32 info133 rfl (by decide) (by omega) _ l0 [x] _ _ _ (fun _=>True) (fun _=>False) rfl rfl ho HC (fun _ _ h=>h) (fun _ h=>h.elim) (fun _ _=>trivial) hB hB.size (by omega) ?_;intro v2 w2 ho hb hg hat;clear hg hat;obtain⟨Ao,co,eo⟩:=Kd.R_slice ho;subst eo)
 all_goals (go_ret;rw[List.length_append,List.length_singleton]at ho;exact⟨_,rfl,ho,hb⟩)
theorem ov_false (w:World) (vb g m c o lb cb:Nat) (cells cur:Array Value) (hne:vb≠g) (hv:w.heap[vb]? = some (.cells cells 133 (0,0))) (hg:w.heap[g]? = some (.cells cur 133 (0,0))) (hc:cur.size≠0) :
 (callFunc 196 #[.slice (some ⟨vb,0,none⟩) m c,.slice (some ⟨g,o,none⟩) lb cb]).run Tryz.prog w = .ok (.value (.bool false)) w:=by
 rw[run_callFunc_extern Tryz.func196 (by kernel_rfl) (by kernel_rfl) (by kernel_rfl) (e:=Extern.SlicesOverlaps.overlaps #[32,32] #[4]) (by kernel_rfl),
   Lib.run_overlaps_apart w 32 4 133 Tryz.underlying32 2 (fun w=>by kernel_rfl) ⟨vb,0,none⟩ ⟨g,o,none⟩ m c lb cb hne 133 133 cells.size cur.size (by simp[World.shape?,hv]) (by simp[World.shape?,hg]) hc (blk_frozen hv 0) (blk_frozen hv _)]
 rfl
theorem lkC_one (x:S133):∀v∈lkC x,v.oneCell'=true:=by
 intro q hq
 rcases List.mem_cons.1 hq with rfl|hq
 · rfl
 · rcases List.mem_cons.1 hq with rfl|hq
   · rfl
   · cases hq
theorem inner_one {l0:List (S133)} {inner:List Value} (hr:Reps (fun(p:S133) cs=>cs=lkC p) 2 l0 inner):∀v∈inner,v.oneCell'=true:=Kd.reps_one hr (by omega) (fun p c h u hu=>by subst h;exact lkC_one p u hu)
theorem take_cell {cur:Array Value} {inner:List Value} {N j:Nat} {v:Value} (h:cur.toList.take N=inner) (hj:inner[j]? = some v):cur[j]? = some v:=by
 rw[←h,List.getElem?_take]at hj
 split at hj
 · rw[←Array.getElem?_toList];exact hj
 · cases hj
theorem insertShift (l0:List (S133)) (x:S133) (i vb m g c:Nat) (cur:Array Value) (inner:List Value) (hm:m=1) (w0 w:World) (hB:Below w0.heap.size w0 w) (hi:i<l0.length) (hlim:l0.length+1<5864062014805)
 (hvb:w.heap[vb]? = some (.cells #[.string x.f0,.int .i64 x.f1] 133 (0,0))) (hne:vb≠g) (hb:w0.heap.size≤g) (hh:w.heap[g]? = some (.cells cur 133 (0,0))) (hroom:l0.length+m≤c) (hcm:c≤maxLen) (hs:cur.size=c*2) (ht:cur.toList.take (l0.length*2)=inner) (hl:inner.length=l0.length*2)
 (hr:Reps (fun(p:S133) cs=>cs=lkC p) 2 l0 inner) :
 Calls Tryz.prog 188 #[.slice (some ⟨g,0,none⟩) l0.length c,.int .i64 (i:Int),.slice (some ⟨vb,0,none⟩) m m] w fun e w'=>e = .returned (.slice (some ⟨g,0,none⟩) (l0.length+m) c)∧w'=(w.drew.setCells g ((i+m)*2) (inner.drop (i*2))).setCells g (i*2) (lkC x):=by
 obtain⟨n,hn⟩:∃n,l0.length=n:=⟨_,rfl⟩
 rw[hn]at hi hlim hroom ht hl ⊢;have Ag:¬((m:Int)=0):=by omega
 have AO:¬((i:Int)=(n:Int)):=by omega
 have mixed:Tryz.prog.follows .mixedOrders=true:=by kernel_rfl
 have hov:∀lb cb,(callFunc 196 #[.slice (some ⟨vb,0,none⟩) m m,.slice (some ⟨g,(i+m)*2,none⟩) lb cb]).run Tryz.prog w = .ok (.value (.bool false)) w:=fun lb cb=>ov_false w vb g m m _ lb cb _ cur hne hvb hh (by omega)
 have hsz:(Tryz.prog.info? 133).map (·.size)=some 2:=by kernel_rfl
 have h1:=inner_one hr;have hdl:(inner.drop (i*2)).length=(n-i)*2:=by rw[List.length_drop,hl];omega
 unfold maxLen at hcm;have Bd:IntKind.i64.wrap ((i:Int)+(m:Int))=(i:Int)+(m:Int):=by rw[IntKind.wrap_i64];omega
 have Be:(0:Int)≤(i:Int)+(m:Int):=by omega
 have hin:i≤n:=by omega
 have htn:((i:Int)+(m:Int)).toNat=i+m:=by omega
 have Bo:¬(c=i+m):=by omega
 have Bf:(i:Int)≤(n:Int)+(m:Int):=by omega
 have Bp:¬(c=i):=by omega
 obtain⟨W1,Ae⟩:∃W1,W1=w.drew.setCells g ((i+m)*2) (inner.drop (i*2)):=⟨_,rfl⟩
 have AZ:∀ty dc sc,(Builtin.copy_ #[32,32] ty #[.slice (some ⟨g,(i+m)*2,none⟩) (n+m-(i+m)) dc,.slice (some ⟨g,i*2,none⟩) (n+m-i) sc]).run Tryz.prog w.drew = .ok (goInt ((n-i:Nat):Int)) W1:=fun ty dc sc=>by
  have:=run_copy_sz (P:=Tryz.prog) w.drew 32 32 ty 133 2 g ((i+m)*2) (n+m-(i+m)) dc ⟨g,i*2,none⟩ (n+m-i) sc (inner.drop (i*2)) cur 133 Tryz.underlying32 hsz hh (by rw[hdl];simp only[Nat.min_def];split<;>omega)
   (fun j v hj=>by rw[List.getElem?_drop]at hj;have:=take_cell ht hj;rw[Addr.add_lit];exact(blk_cell (w:=w.drew) hh _).trans this) (by rw[hdl];omega) (fun v hv=>h1 v (List.mem_of_mem_drop hv))
  rw[this,Ae,show Nat.min (n+m-i) (n+m-(i+m))=n-i by simp only[Nat.min_def];split<;>omega]
 obtain⟨Ar,c1,c2,c3⟩:=setCells_row (inner.drop (i*2)) ((i+m)*2) w.drew cur hh (by rw[hdl];omega);rw[←Ae]at c1;have AE:W1.heap[vb]? = some (.cells #[.string x.f0,.int .i64 x.f1] 133 (0,0)):=by rw[Ae,setCells_far _ _ _ hne];exact hvb
 have B0:∀ty dc,(Builtin.copy_ #[32,32] ty #[.slice (some ⟨g,i*2,none⟩) (n+m-i) dc,.slice (some ⟨vb,0,none⟩) m m]).run Tryz.prog W1 = .ok (goInt ((m:Nat):Int)) (W1.setCells g (i*2) (lkC x)):=fun ty dc=>by
  have:=run_copy_sz (P:=Tryz.prog) W1 32 32 ty 133 2 g (i*2) (n+m-i) dc ⟨vb,0,none⟩ m m (lkC x) Ar 133 Tryz.underlying32 hsz c1 (by show 2=_;simp only[Nat.min_def];split<;>omega)
   (fun j v hj=>by
    rw[addz]
    match j,hj with
    | 0,hj=>cases hj;exact(blk_cell AE 0).trans rfl
    | 1,hj=>cases hj;exact(blk_cell AE 1).trans rfl) (by show _+2≤_;omega) (lkC_one x)
  rw[this,show Nat.min m (n+m-i)=m by simp only[Nat.min_def];split<;>omega]
 rw[←Ae];clear hm c1 c2 c3 AE Ae hs ht hl hr h1 hdl hh hvb hB hb
 go_enter Tryz.func188,Tryz.ntmps188
 go_wp2_with (simp only[hov])
 go_region_law_o (refine step_copy_runI rfl _ _ 32 32 rfl (.slice (some ⟨g,(i+m)*2,none⟩) (n+m-(i+m)) (c-(i+m))) (.slice (some ⟨g,i*2,none⟩) (n+m-i) (c-i)) (by simp[Act.eval,Act.put]) (by simp[Act.eval,Act.put]) (AZ 3 (c-(i+m)) (c-i)) ?_)
 go_wp2_with (at_builtin;refine Lib.wpList_copy_run _ rfl _ _ 32 32 rfl _ _ rfl rfl (B0 _ _) ?_)
 go_ret
 exact⟨rfl,rfl⟩
theorem insertGrow (l0:List (S133)) (x:S133) (i vb m g c:Nat) (cur:Array Value) (inner:List Value) (hm:m=1) (w:World) (hi:i<l0.length) (hlim:l0.length+1<5864062014805)
 (hvb:w.heap[vb]? = some (.cells #[.string x.f0,.int .i64 x.f1] 133 (0,0))) (hh:w.heap[g]? = some (.cells cur 133 (0,0))) (hle:l0.length≤c) (hroom:c<l0.length+m) (ht:cur.toList.take (l0.length*2)=inner) (hl:inner.length=l0.length*2)
 (hr:Reps (fun(p:S133) cs=>cs=lkC p) 2 l0 inner) :
 ∃(G:Nat) (ROW:Array Value),l0.length+m≤G∧G≤maxLen∧ROW.size=G*2∧ROW.toList.take (i*2)=inner.take (i*2)∧
 Calls Tryz.prog 188 #[.slice (some ⟨g,0,none⟩) l0.length c,.int .i64 (i:Int),.slice (some ⟨vb,0,none⟩) m m] w fun e w'=>e = .returned (.slice (some ⟨w.heap.size,0,none⟩) (l0.length+m) G)∧w'=(((w.alloc (.cells ROW 133)).drew.setCells w.heap.size (i*2) (lkC x)).drew).setCells w.heap.size ((i+m)*2) (inner.drop (i*2)):=by
 obtain⟨n,hn⟩:∃n,l0.length=n:=⟨_,rfl⟩
 rw[hn]at hi hlim hle hroom ht hl ⊢;have Ag:¬((m:Int)=0):=by omega
 have AO:¬((i:Int)=(n:Int)):=by omega
 have Bq:(c:Int)<(n:Int)+(m:Int):=by omega
 have mixed:Tryz.prog.follows .mixedOrders=true:=by kernel_rfl
 have hsz:(Tryz.prog.info? 133).map (·.size)=some 2:=by kernel_rfl
 have h1:=inner_one hr;have hdl:(inner.drop (i*2)).length=(n-i)*2:=by rw[List.length_drop,hl];omega
 have htl:(inner.take (i*2)).length=i*2:=by rw[List.length_take,hl];omega
 obtain⟨i0,B1,hzz⟩:=Option.map_eq_some_iff.1 info133;simp only[Prod.mk.injEq]at hzz;obtain⟨B2,AF,AG⟩:=hzz;have hgw:g<w.heap.size:=blk_lt hh;have hvw:vb<w.heap.size:=blk_lt hvb;have hkk:(n:Int)+(m:Int)-(i:Int)=((n+m-i:Nat):Int):=by omega
 have hik:i+(n+m-i)=n+m:=by omega
 have hold:(Builtin.firstCells i0.size i (.slice (some ⟨g,0,none⟩) i c)).run Tryz.prog w.drew = .ok (inner.take (i*2)).toArray w.drew:=by
  rw[AF]
  exact run_firstCells_some w.drew 2 i ⟨g,0,none⟩ i c (inner.take (i*2)) htl (fun j v hj=>by
   rw[addz];rw[List.getElem?_take]at hj
   split at hj
   · exact(blk_cell (w:=w.drew) hh _).trans (take_cell ht hj)
   · cases hj)
 have hbig:(n+m)*24≤140737488355328:=by omega
 have hrz:=fun ty=>Lib.run_append_grow_zeros w 32 3 ty 133 i0 _ .i64 .i64 Tryz.underlying32 Tryz.underlying3 B1 B2 (some ⟨g,0,none⟩) i c (inner.take (i*2)) hold (n+m-i) (by omega) (by rw[AF];omega) (by omega) (by omega) (by rw[AG];omega) (by rw[AG,hik];exact growslice_fits hroom hbig)
 rw[hik,←hkk]at hrz
 obtain⟨G,hG⟩:∃G,G=grownCap w (n+m) c 133:=⟨_,rfl⟩
 rw[←hG]at hrz;have hGn:n+m≤G:=by rw[hG];exact grownCap_ge w _ _ _
 have hGm:G≤maxLen:=by rw[hG];exact grownCap_le_maxLen w (n+m) c 133 (by unfold maxLen;omega)
 obtain⟨ROW,hROW⟩:∃ROW:Array Value,ROW=(inner.take (i*2)).toArray++Builtin.zeroCells (Value.agg #[(.string ⟨#[]⟩),(.int .i64 0)]).cells (n+m-i)++Builtin.zeroCells (Value.agg #[(.string ⟨#[]⟩),(.int .i64 0)]).cells (G-(n+m)):=⟨_,rfl⟩
 rw[←hROW]at hrz
 have hRs:ROW.size=G*2:=by
  have e:(Value.agg #[(.string ⟨#[]⟩),(.int .i64 0)]).cells.size=2:=rfl;rw[hROW];simp only[Array.size_append,List.size_toArray,htl,Builtin.zeroCells,Array.size_map,Array.size_range,e];omega
 have hRt:ROW.toList.take (i*2)=inner.take (i*2):=by
  rw[hROW,Array.toList_append,Array.toList_append,List.append_assoc,List.take_left' (by rw[List.toList_toArray];exact htl)]
 refine⟨G,ROW,hGn,hGm,hRs,hRt,?_⟩;have B3:G≤9223372036854775807:=hGm
 obtain⟨W1,Ae⟩:∃W1,W1=w.drew.alloc (.cells ROW 133):=⟨_,rfl⟩
 have hN:W1.heap[w.heap.size]? = some (.cells ROW 133 (0,0)):=by rw[Ae];show(w.heap.push _)[w.heap.size]? = _;simp
 have hO:∀k,k<w.heap.size→W1.heap[k]? = w.heap[k]?:=fun k hk=>by rw[Ae];show(w.heap.push _)[k]? = _;exact Array.getElem?_push_lt hk▸(Array.getElem?_eq_getElem hk).symm
 have hcpA:∀(W:World),W.heap=W1.heap→∀ty dc,(Builtin.copy_ #[32,32] ty #[.slice (some ⟨w.heap.size,i*2,none⟩) (n+m-i) dc,.slice (some ⟨vb,0,none⟩) m m]).run Tryz.prog W = .ok (goInt ((m:Nat):Int)) (W.setCells w.heap.size (i*2) (lkC x)):=fun W hW ty dc=>by
  have hvW:W.heap[vb]? = some (.cells #[.string x.f0,.int .i64 x.f1] 133 (0,0)):=by rw[hW,hO vb hvw];exact hvb
  have:=run_copy_sz (P:=Tryz.prog) W 32 32 ty 133 2 w.heap.size (i*2) (n+m-i) dc ⟨vb,0,none⟩ m m (lkC x) ROW 133 Tryz.underlying32 hsz (by rw[hW];exact hN) (by show 2=_;simp only[Nat.min_def];split<;>omega)
   (fun j v hj=>by
    rw[addz]
    match j,hj with
    | 0,hj=>cases hj;exact(blk_cell hvW 0).trans rfl
    | 1,hj=>cases hj;exact(blk_cell hvW 1).trans rfl) (by show _+2≤_;omega) (lkC_one x)
  rw[this,show Nat.min m (n+m-i)=m by simp only[Nat.min_def];split<;>omega]
 have hcpB:∀(W:World),W.heap=(W1.setCells w.heap.size (i*2) (lkC x)).heap→∀ty dc sc,(Builtin.copy_ #[32,32] ty #[.slice (some ⟨w.heap.size,(i+m)*2,none⟩) (n+m-(i+m)) dc,.slice (some ⟨g,i*2,none⟩) (n-i) sc]).run Tryz.prog W = .ok (goInt ((n-i:Nat):Int)) (W.setCells w.heap.size ((i+m)*2) (inner.drop (i*2))):=fun W hW ty dc sc=>by
  obtain⟨Ar,c1,c2,c3⟩:=setCells_row (lkC x) (i*2) W1 ROW hN (by show _+2≤_;omega);have hgW:W.heap[g]? = some (.cells cur 133 (0,0)):=by rw[hW,setCells_far _ _ _ (by omega),hO g hgw];exact hh
  have:=run_copy_sz (P:=Tryz.prog) W 32 32 ty 133 2 w.heap.size ((i+m)*2) (n+m-(i+m)) dc ⟨g,i*2,none⟩ (n-i) sc (inner.drop (i*2)) Ar 133 Tryz.underlying32 hsz (by rw[hW];exact c1) (by rw[hdl];simp only[Nat.min_def];split<;>omega)
   (fun j v hj=>by rw[List.getElem?_drop]at hj;have:=take_cell ht hj;rw[Addr.add_lit];exact(blk_cell hgW _).trans this) (by rw[hdl];omega) (fun v hv=>h1 v (List.mem_of_mem_drop hv))
  rw[this,show Nat.min (n-i) (n+m-(i+m))=n-i by simp only[Nat.min_def];split<;>omega]
 have hGi:¬(G=i):=by omega
 have hGim:¬(G=i+m):=by omega
 have hci:¬(c=i):=by omega
 subst Ae;have hE:((w.alloc (.cells ROW 133)).drew).heap=(w.drew.alloc (.cells ROW 133)).heap:=rfl;have hF:(((w.alloc (.cells ROW 133)).drew.setCells w.heap.size (i*2) (lkC x)).drew).heap=((w.drew.alloc (.cells ROW 133)).setCells w.heap.size (i*2) (lkC x)).heap:=rfl;have Bd:IntKind.i64.wrap ((i:Int)+(m:Int))=(i:Int)+(m:Int):=by rw[IntKind.wrap_i64];omega
 have Be:(0:Int)≤(i:Int)+(m:Int):=by omega
 have hin:i≤n:=by omega
 have htn:((i:Int)+(m:Int)).toNat=i+m:=by omega
 have Bf:(i:Int)≤(n:Int):=by omega
 clear hm hkk hik hold hROW hG hRs hRt hN hO hr ht hl h1 hdl htl B2 AF AG B1 hGm B3 hh hvb hn hsz
 go_enter Tryz.func188,Tryz.ntmps188
 go_wp2_with (first
  |(at_builtin;refine Lib.wpList_append_run _ rfl _ _ _ _ rfl _ _ rfl rfl _ _ (hrz _) ?_)
  |(at_builtin;refine Lib.wpList_copy_run _ rfl _ _ 32 32 rfl _ _ rfl rfl (hcpA _ hE _ _) ?_)
  |(at_builtin;refine Lib.wpList_copy_run _ rfl _ _ 32 32 rfl _ _ rfl rfl (hcpB _ rfl _ _ _) ?_))
 go_region_law_o (refine step_copy_runI rfl _ _ 32 32 rfl (.slice (some ⟨w.heap.size,(i+m)*2,none⟩) (n+m-(i+m)) (G-(i+m))) (.slice (some ⟨g,i*2,none⟩) (n-i) (c-i)) (by simp[Act.eval,Act.put]) (by simp[Act.eval,Act.put]) (hcpB _ hF 3 (G-(i+m)) (c-i)) ?_)
 go_wp2
 go_ret
 exact⟨rfl,rfl⟩
theorem reps_lk {w:World} {base:Nat} {ok:Nat→Prop} {xs:List (S133)} {inner:List Value} (h:Reps (k133.M w base ok) 2 xs inner):Reps (fun(p:S133) cs=>cs=lkC p) 2 xs inner:=h.imp_ (fun p c hp=>k133_openM hp)
theorem below_ins {w0 w W:World} {g:Nat} (hB:Below w0.heap.size w0 w) (hg:w0.heap.size≤g) (a b:Nat) (x y:List Value) (h1:W.os=w.os) (h2:W.tape=w.tape) (h3:W.output=w.output) (h4:w.heap.size≤W.heap.size) (h5:∀k,k<w.heap.size→W.heap[k]? = w.heap[k]?) (V:World) (hV:V.heap=(W.setCells g a x).heap∧V.os=W.os∧V.tape=W.tape∧V.output=W.output):Below w0.heap.size w0 (V.setCells g b y):=by
 obtain⟨s1,s2,s3,s4⟩:=setCells_same g y b V;obtain⟨r1,r2,r3,r4⟩:=setCells_same g x a W;obtain⟨v1,v2,v3,v4⟩:=hV;refine⟨by rw[s1,v2,h1,hB.os],by rw[s2,v3,h2,hB.tape],by rw[s3,v4,h3,hB.output],by rw[s4,v1,r4];exact Nat.le_trans hB.size h4,fun k hk=>?_⟩;rw[setCells_far y b k (by omega),v1,setCells_far x a k (by omega),h5 k (Nat.lt_of_lt_of_le hk hB.size)];exact hB.block k hk
theorem insertLink (u:Value) (l0:List (S133)) (i:Nat) (x:S133) (vb m:Nat) (hm:m=1) (w0 w:World) (hB:Below w0.heap.size w0 w) (ho:Kd.R k133 133 w w0.heap.size (fun _=>True) u l0) (hi:i≤l0.length) (hlim:l0.length+1<5864062014805) (hvb:w.heap[vb]? = some (.cells #[.string x.f0,.int .i64 x.f1] 133 (0,0))) (hne:some vb≠u.ownBlock) :
 Calls Tryz.prog 188 #[u,.int .i64 (i:Int),.slice (some ⟨vb,0,none⟩) m m] w fun e w'=>∃v,e = .returned v∧Kd.R k133 133 w' w0.heap.size (fun _=>True) v (l0.take i++x::l0.drop i)∧Below w0.heap.size w0 w':=by
 by_cases he:i=l0.length
 · subst he;rw[List.take_length,List.drop_length];exact insertEnd u l0 x vb m hm w0 w hB ho hlim hvb
 · obtain⟨g,c,cur,inner,rfl,hb,hh,hle,hcm,hs,ht,hl,hr⟩:=R_open ho (by omega);have B4:vb≠g:=fun e=>hne (by rw[e];rfl)
   have AN:cur.size=c*2:=hs;have AH:cur.toList.take (l0.length*2)=inner:=ht;have Ah:inner.length=l0.length*2:=hl;have Au:=reps_lk hr;have hdl:(inner.drop (i*2)).length=(l0.length-i)*2:=by rw[List.length_drop,Ah];omega
   by_cases hroom:l0.length+m≤c
   · refine(insertShift l0 x i vb m g c cur inner hm w0 w hB (by omega) hlim hvb B4 hb hh hroom hcm AN AH Ah Au).mono ?_;rintro e w' ⟨rfl,rfl⟩;refine⟨_,rfl,?_,?_⟩
     · subst hm;obtain⟨c1,a1,a2,a3⟩:=setCells_row (inner.drop (i*2)) ((i+1)*2) w.drew cur hh (by rw[hdl];omega);obtain⟨c2,b1,b2,b3⟩:=setCells_row (lkC x) (i*2) _ c1 a1 (by show _+2≤_;omega);exact R_ins _ _ g c c2 l0 x inner i (by omega) hb b1 hroom hcm (by omega) Ah Au (ins_shift cur.toList inner (lkC x) i l0.length (by omega) rfl AH (by have:cur.toList.length=cur.size:=Array.length_toList;omega) c1.toList c2.toList a3 b3)
     · exact below_ins (W:=w.drew) hB hb _ _ _ _ rfl rfl rfl (Nat.le_refl _) (fun _ _=>rfl) _ ⟨rfl,(setCells_same g _ _ _).1,(setCells_same g _ _ _).2.1,(setCells_same g _ _ _).2.2.1⟩
   · obtain⟨G,ROW,g1,g2,g3,g4,hc⟩:=insertGrow l0 x i vb m g c cur inner hm w (by omega) hlim hvb hh hle (by omega) AH Ah Au;refine hc.mono ?_;rintro e w' ⟨rfl,rfl⟩;have hN:((w.alloc (.cells ROW 133)).drew).heap[w.heap.size]? = some (.cells ROW 133 (0,0)):=by show(w.heap.push _)[w.heap.size]? = _;simp
     refine⟨_,rfl,?_,?_⟩
     · subst hm;obtain⟨c1,a1,a2,a3⟩:=setCells_row (lkC x) (i*2) _ ROW hN (by show _+2≤_;omega);obtain⟨c2,b1,b2,b3⟩:=setCells_row (inner.drop (i*2)) ((i+1)*2) (((w.alloc (.cells ROW 133)).drew.setCells w.heap.size (i*2) (lkC x)).drew) c1 a1 (by rw[hdl];omega);exact R_ins _ _ w.heap.size G c2 l0 x inner i (by omega) hB.size b1 g1 g2 (by omega) Ah Au (ins_grow ROW.toList inner (lkC x) i l0.length (by omega) rfl Ah g4 (by have:ROW.toList.length=ROW.size:=Array.length_toList;omega) c1.toList c2.toList a3 b3)
     · exact below_ins (W:=(w.alloc (.cells ROW 133)).drew) hB hB.size _ _ _ _ rfl rfl rfl (by show _≤(w.heap.push _).size;simp) (fun k hk=>by show(w.heap.push _)[k]? = _;rw[Array.getElem?_push_lt hk,Array.getElem?_eq_getElem hk]) _ ⟨rfl,(setCells_same _ _ _ _).1,(setCells_same _ _ _ _).2.1,(setCells_same _ _ _ _).2.2.1⟩
theorem bsn_range (l:List (S133)) (s:ByteArray):∀(k:Nat) (i j:Int),0≤i→i≤j→i≤bsn l s k i j∧bsn l s k i j≤j
 | 0,i,j,h0,h1=>by simp only[bsn];omega
 |k+1,i,j,h0,h1=>by
  simp only[bsn]
  by_cases c:i<j
  · rw[if_pos c]
    split
    · have:=bsn_range l s k ((i+j)/2+1) j (by omega) (by omega);omega
    · have:=bsn_range l s k i ((i+j)/2) (by omega) (by omega);omega
  · rw[if_neg c];omega
def insL (l:List (S133)) (x:S133):List (S133):=l.take (bsn l x.f0 l.length 0 l.length).toNat++x::l.drop (bsn l x.f0 l.length 0 l.length).toNat
def impl_linked.f (l0:List (S133)) (X:ByteArray) (A9:Int):Option ((List (S133))):=if l0.length+1<5864062014805 then some (insL (delM X l0) ⟨X,A9⟩)else none
theorem impl_linked.calls (A0:Option Addr) (c0:Nat) (l0:List (S133)) (X:ByteArray) (A9:Int) (r:List (S133)) (w:World) (Z:Kd.C k133 w A0 l0.length l0) (Y:l0.length≤c0) (h:impl_linked.f l0 X A9=some r) :
 Calls Tryz.prog 170 #[.slice A0 l0.length c0,.agg #[.string X,.int .i64 A9]] w fun e w'=>∃Aj:Value,e = .returned (Aj)∧Kd.R k133 133 w' w.heap.size (fun _=>True) Aj r∧Below w.heap.size w w':=by
 have c1:l0.length+1<5864062014805:=by
  by_cases c:l0.length+1<5864062014805
  ·exact c
  ·simp[impl_linked.f,c]at h
 obtain rfl:insL (delM X l0) ⟨X,A9⟩=r:=by simpa [impl_linked.f,c1] using h
 obtain⟨D,hD⟩:∃D,delM X l0=D:=⟨_,rfl⟩;rw[hD];have hDl:D.length≤l0.length:=by rw[←hD];exact List.length_filter_le _ _
 have HF:=aK (show impl_unlinked.f l0 X=some D by rw[←hD];simp[impl_unlinked.f,show l0.length<5864062014805 by omega]);obtain⟨p,hp⟩:∃p:Nat,bsn D X D.length 0 D.length=(p:Int):=⟨(bsn D X D.length 0 D.length).toNat,by have:=bsn_range D X D.length 0 D.length (by omega) (by omega);omega⟩;have hpl:p≤D.length:=by have:=bsn_range D X D.length 0 D.length (by omega) (by omega);omega
 obtain⟨b,hb⟩:∃b:Bool,impl_linkAt.f D X=some ((p:Int),b):=⟨_,by rw[impl_linkAt.f,if_pos (show D.length<5864062014805 by omega),hp]⟩;have Bg:=aK hb;have HI:=aK (show D.take p ++ ⟨X,A9⟩::D.drop p=insL D ⟨X,A9⟩ by rw[insL,hp];rfl);have HL:=aK (show D.length+1<5864062014805 by omega);have HP:=aK hpl;have Aa:=aK Z;have Ab:=aK Y;have HB:=aK (Below.refl w.heap.size w);have Af:=Tryz.underlying133;clear Z Y c1 h hD hDl hp hpl hb
 go_enter Tryz.func170,Tryz.ntmps170
 go_wp2_with (first|((with_reducible refine gd 3 ?_);refine boxW ?_;intro g hg w1 hbox hb;have J:=aK hbox;replace HB:=bS HB hb;clear hb hbox hg;obtain⟨A3,A4,A5,A6⟩:=cf2 J)|(go_at_call 171;(with_reducible refine(impl_unlinked.calls A0 c0 l0 X D _ ?s1 Ab.o HF.o).mono ?_);(case s1=>exact(Kd.C_below Aa.o bl));rintro e w1 ⟨v,rfl,ho,hb⟩;have HO:=rl HB ho;replace J:=bv J hb;replace HB:=bS HB hb;clear hb ho;obtain⟨A,c,rfl,hlc,hC⟩:=Kd.R_reads HO.o;have HLC:=aK hlc;have HCC:=aK hC;clear hlc hC A3 A4 A5 A6;obtain⟨A3,A4,A5,A6⟩:=cf2 J)|(go_at_call 157;(with_reducible refine(impl_linkAt.calls A c D X _ _ _ (HCC.o) HLC.o Bg.o).mono ?_);rintro e w2 ⟨rfl,hb⟩;replace HO:=aK (Kd.R_below HO.o hb);replace J:=bv J hb;replace HB:=bS HB hb;clear hb HCC A3 A4 A5 A6;obtain⟨A3,A4,A5,A6⟩:=cf2 J)|(go_at_call 188;refine(insertLink _ D p ⟨X,A9⟩ _ 1 rfl w _ ?i1 ?i2 HP.o HL.o ?i3 ?i4).mono ?_;(case i1=>exact bl);(case i2=>exact rpR HO.o);(case i3=>show(Array.push _ _)[_]? = _;simp);(case i4=>intro e_;have h_:=(Kd.R_bound HO.o).1 _ e_.symm;omega);rintro e w3 ⟨v2,rfl,ho,hb⟩;rw[HI.o]at ho;replace HO:=aK ho;replace HB:=aK hb;clear hb ho))
 go_ret
 exact⟨_,rfl,HO.o,HB.o⟩
end Go.Proofs.YtndbmllnkjngnaaGreat.PDs
