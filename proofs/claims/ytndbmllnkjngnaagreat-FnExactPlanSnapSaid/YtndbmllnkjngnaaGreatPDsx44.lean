/- Functions of the program, each with its contract, written by a program out of the translation. -/
import Derived.Test.YtndbmllnkjngnaaGreatPDsx40t
import Derived.Test.YtndbmllnkjngnaaGreatZup
import Derived.Test.YtndbmllnkjngnaaGreatPDsx31
import Derived.Test.YtndbmllnkjngnaaGreatPDsx4
import Derived.Test.YtndbmllnkjngnaaGreatPDsx5
namespace Go.Proofs.YtndbmllnkjngnaaGreat.PDs
open Go.RowKit Go.Proofs.YtndbmllnkjngnaaGreatW.PrintWords Go.Proofs.YtndbmllnkjngnaaGreatW.PrintLast Go.Proofs.YtndbmllnkjngnaaGreatW.PrintMore Go.Proofs.YtndbmllnkjngnaaGreat.Zip
attribute [local go_sem] max2_int min2_int max_two min_two max_three min_three max_four min_four
set_option linter.unusedVariables false
set_option linter.unusedSimpArgs false
set_option maxHeartbeats 8000000
set_option maxRecDepth 100000
def laws_szEntry.f (X:Int) (J:ByteArray) (Y:Int):Option (Int):=if(wrap64 (Y-(J.size:Int)))<0 then(some (-1))else(some (wrap64 (Y-(J.size:Int))))
theorem laws_szEntry.z1 {p:Prop} (h:p:=by
 go_enter Tryz.func130,Tryz.ntmps130
 go_wp2_with (first|((with_reducible refine gD 2 rfl ?_);refine boxW ?_;intro Ar hg As hbox hb;have Aj:=aK hbox;have At:=gW HB hg;replace HB:=bS HB hb;clear hb hbox hg;have:=cf2 Aj))
 go_ret
 exact⟨fe,bl⟩):p:=h
theorem laws_szEntry.calls (X:Int) (J:ByteArray) (Y:Int) (r:Int) (w:World) (h:laws_szEntry.f X J Y=some r) :
 Calls Tryz.prog 130 #[.agg #[.int .i64 X,.string J],.int .i64 Y] w fun e w'=>e = .returned (.int .i64 r)∧Below w.heap.size w w':=by
 have Ak:=Tryz.underlying156;have HB:=aK (Below.refl w.heap.size w);have H:=h;unfold laws_szEntry.f at H;clear h;by_cases c3:(wrap64 (Y-(J.size:Int)))<0
 ·rw[if_pos c3]at H;have A7:=dt c3;clear c3;obtain rfl:=oj H
  exact laws_szEntry.z1
 ·rw[if_neg c3]at H;have A7:=df c3;clear c3;obtain rfl:=oj H
  exact laws_szEntry.z1
def laws_szEntryS.l0:Nat→List (S156)→Int→Int→Option (Int)
 | 0,_,_,_=>none
 |k+1,x0,x1,x5=>if x5<(x0.length:Int)then(if 0≤x5 then((laws_szEntry.f ((rd_T156 x0 x5).f0) ((rd_T156 x0 x5).f1) x1).bind fun Z=>(if Z<0 then(some (-1))else(laws_szEntryS.l0 k x0 Z (wrap64 (x5+1)))))else(none))else(some x1)
def laws_szEntryS.f (k:Nat) (l0:List (S156)) (Y:Int):Option (Int):=if(wrap64 (Y-(l0.length:Int)))<0 then(some (-1))else(laws_szEntryS.l0 k l0 (wrap64 (Y-(l0.length:Int))) 0)
theorem laws_szEntryS.z1 {p:Prop} (h:p:=by
 go_wp2_with (first|((with_reducible refine gC 130 rfl ?_);refine goesW Tryz.func130 ?_;(with_reducible refine(laws_szEntry.calls ((rd_T156 l0 D).f0) ((rd_T156 l0 D).f1) A8 Z _ A6.o).mono ?_);rintro e AB ⟨rfl,hb⟩;refine⟨_,rfl,?_⟩;replace HB:=bS HB hb;(try clear hb)))
 (first|(have _:=Au;go_ret;exact⟨fe,bl⟩)|(have _:=Av;(go_roundg k1);(case measure=>have:=An.o;omega);(case rel=>exact⟨(Z),(wrap64 (D+1)),fa,fa,H',⟨by have:=An.o;omega⟩,⟨bl⟩⟩)))):p:=h
theorem laws_szEntryS.calls (k:Nat) (A0:Option Addr) (c0:Nat) (l0:List (S156)) (Y:Int) (r:Int) (w:World) (Ao:Kd.C k156 w A0 l0.length l0) (Ap:l0.length≤c0) (h:laws_szEntryS.f k l0 Y=some r) :
 Calls Tryz.prog 70 #[.slice A0 l0.length c0,.int .i64 Y] w fun e w'=>e = .returned (.int .i64 r)∧Below w.heap.size w w':=by
 have Ak:=Tryz.underlying156;have Aw:=aK Ao;have AC:=aK Ap;clear Ao Ap;have HB:=aK (Below.refl w.heap.size w);have H:=h;unfold laws_szEntryS.f at H;clear h;by_cases c3:(wrap64 (Y-(l0.length:Int)))<0
 ·rw[if_pos c3]at H;have A7:=dt c3;clear c3;obtain rfl:=oj H
  go_enter Tryz.func70,Tryz.ntmps70
  go_wp2
  go_ret
  exact⟨fe,bl⟩
 ·rw[if_neg c3]at H;have A7:=df c3;clear c3;have H':=aK H;clear H
  go_enter Tryz.func70,Tryz.ntmps70
  go_wp2
  go_loopg [1,5] k (fun kq v1 v5 w'=>∃(A8:Int) (D:Int),v1 = .int .i64 A8∧v5 = .int .i64 D∧Aside0 (laws_szEntryS.l0 kq l0 A8 D=some r)∧Aside0 (kq≤k)∧Aside0 (Below w.heap.size w w'))
  case atStart=>exact⟨(wrap64 (Y-(l0.length:Int))),(0),fa,fa,H',⟨Nat.le_refl _⟩,⟨bl⟩⟩
  case round=>
   clear H';(try clear p2);(try clear c3);(try clear A7);obtain⟨A8,D,rfl,rfl,HA,An,HB⟩:=hrel;cases gk with
   |zero=>exact absurd HA.o (by simp[laws_szEntryS.l0])
   |succ k1=>
    have H:=HA.o;clear HA;simp only[laws_szEntryS.l0]at H;by_cases c4:D<(l0.length:Int)
    ·rw[if_pos c4]at H;have A9:=dt c4;clear c4;by_cases c5:0≤D
     ·rw[if_pos c5]at H;have A_:=dt c5;clear c5;obtain⟨Z,A6,H⟩:=bd H;have Hq_:=aK H;clear H;have Aa:0≤(D:Int):=dT am;have Ab:D<(l0.length:Int):=dT am;obtain⟨Ax,Aq,A1,A2⟩:=at_T156 Aw.o D Aa Ab;cases Aq;replace A1:=cz HB A1;replace A2:=cz HB A2;replace Aa:=eq_true Aa;replace Ab:=eq_true Ab;have H:=Hq_.o;clear Hq_;by_cases c7:Z<0
      ·rw[if_pos c7]at H;have Ac:=dt c7;(try rw[Ac]);clear c7;obtain rfl:=oj H;have Au:=trivial;exact laws_szEntryS.z1
      ·rw[if_neg c7]at H;have Ac:=df c7;(try rw[Ac]);clear c7;have H':=aK H;clear H;have Av:=trivial;exact laws_szEntryS.z1
     ·rw[if_neg c5]at H;exact absurd H (by simp)
    ·rw[if_neg c4]at H;have A9:=df c4;clear c4;obtain rfl:=oj H;go_wp2
     go_ret
     exact⟨fe,bl⟩
def laws_szWal.f (k:Nat) (X:Int) (J:Int) (Ad:Int) (Ae:Int) (U:List (S156)) (Y:Int):Option (Int):=(laws_szEntryS.f k U Y).bind fun A4=>(if A4<0 then(some (-1))else(some A4))
theorem laws_szWal.z1 {p:Prop} (h:p:=by
 go_enter Tryz.func17,Tryz.ntmps17
 go_wp2_with (first|((with_reducible refine gD 2 rfl ?_);refine boxW ?_;intro Ay hg As hbox hb;have A5:=aK hbox;have Az:=gW HB hg;replace HB:=bS HB hb;clear hb hbox hg;have:=cf5 A5)|((with_reducible refine gC 70 rfl ?_);refine goesW Tryz.func70 ?_;(with_reducible refine(laws_szEntryS.calls k _ _ U Y A4 _ ?_ ?_ A3.o).mono ?_);exact cB Al HB;exact Am.o;rintro e AD ⟨rfl,hb⟩;refine⟨_,rfl,?_⟩;replace A5:=bv A5 hb;replace HB:=bS HB hb;(try clear hb)))
 go_ret
 exact⟨fe,bl⟩):p:=h
theorem laws_szWal.calls (k:Nat) (X:Int) (J:Int) (Ad:Int) (Ae:Int) (Ah:Option Addr) (Ai:Nat) (U:List (S156)) (Y:Int) (r:Int) (w:World) (Af:Kd.C k156 w Ah U.length U) (Ag:U.length≤Ai) (h:laws_szWal.f k X J Ad Ae U Y=some r) :
 Calls Tryz.prog 17 #[.agg #[.int .i64 X,.int .i64 J,.int .i64 Ad,.int .i64 Ae,.slice Ah U.length Ai],.int .i64 Y] w fun e w'=>e = .returned (.int .i64 r)∧Below w.heap.size w w':=by
 have AA:=Tryz.underlying46;have Al:=aK Af;have Am:=aK Ag;clear Af Ag;have HB:=aK (Below.refl w.heap.size w);have H:=h;unfold laws_szWal.f at H;clear h;obtain⟨A4,A3,H⟩:=bd H;by_cases c4:A4<0
 ·rw[if_pos c4]at H;have A9:=dt c4;clear c4;obtain rfl:=oj H
  exact laws_szWal.z1
 ·rw[if_neg c4]at H;have A9:=df c4;clear c4;obtain rfl:=oj H
  exact laws_szWal.z1
def spec_l5Based.f (a0:Int) (J:Int):Option (Bool):=if a0=0 then(some (J==0))else((spec_l1In.f a0 1 100000).bind fun Bl=>(if Bl=true then((spec_l1In.f J 1 100000).bind fun Bm=>(some Bm))else(some false)))
theorem spec_l5Based.z1 {p:Prop} (h:p:=by
 go_enter Tryz.func131,Tryz.ntmps131
 go_wp2_with (first|((with_reducible refine gC 99 rfl ?_);refine goesW Tryz.func99 ?_;(with_reducible refine(spec_l1In.calls a0 1 100000 _ _ A4.o).mono ?_);rintro e w' ⟨rfl,⟨nd,rfl⟩⟩;refine⟨_,rfl,?_⟩)|(go_at_call 99;(with_reducible refine(spec_l1In.calls J 1 100000 Bm _ A6.o).mono ?_);rintro e w' ⟨rfl,⟨nd,rfl⟩⟩))
 go_ret
 exact⟨fa,fd⟩):p:=h
theorem spec_l5Based.calls (a0:Int) (J:Int) (r:Bool) (w:World) (h:spec_l5Based.f a0 J=some r) :
 Calls Tryz.prog 131 #[.int .i64 a0,.int .i64 J] w fun e w'=>e = .returned (.bool r)∧Drawn0 w w':=by
 have H:=h;unfold spec_l5Based.f at H;clear h;by_cases c3:a0=0
 ·rw[if_pos c3]at H;have BY:=bT c3;have BZ:=bE c3;clear c3;obtain rfl:=oj H
  go_enter Tryz.func131,Tryz.ntmps131
  go_wp2
  go_ret
  exact⟨fa,fd⟩
 ·rw[if_neg c3]at H;have BY:=bN c3;have BZ:=bQ c3;obtain⟨Bl,A4,H⟩:=bd H;by_cases c5:Bl=true
  ·subst c5;replace H:=iT H;obtain⟨Bm,A6,H⟩:=bd H;obtain rfl:=oj H
   exact spec_l5Based.z1
  ·replace c5:=bF c5;subst c5;replace H:=iF H;obtain rfl:=oj H
   exact spec_l5Based.z1
mutual
def spec_WalOk.j0:Nat→Bool→Int→Int→Int→Int→List (S115)→Option (Bool)
 | 0,_,_,_,_,_,_=>none
 |k+1,Cg,Ax,AE,AF,Ay,A2=>if Cg=true then(some false)else(spec_WalOk.l0 k Ay 0 Ax AE AF Ay A2)
def spec_WalOk.l0:Nat→Int→Int→Int→Int→Int→Int→List (S115)→Option (Bool)
 | 0,_,_,_,_,_,_,_=>none
 |k+1,x3,x4,Ax,AE,AF,Ay,A2=>if x4<(A2.length:Int)then(if 0≤x4 then(if((rd_T115 A2 x4).f0)<1 then(some false)else(if((rd_T115 A2 x4).f0)<x3 then(some false)else(if((rd_T115 A2 x4).f0)>Ax then(some false)else(if(((rd_T115 A2 x4).f1).size:Int)>900 then(some false)else(spec_WalOk.l0 k ((rd_T115 A2 x4).f0) (wrap64 (x4+1)) Ax AE AF Ay A2)))))else(none))else(some true)
end
def spec_WalOk.f (k:Nat) (U:Int) (X:Int) (Ab:Int) (Aa:Int) (D:List (S115)):Option (Bool):=(spec_l1In.f U 0 100000).bind fun Bn=>(if Bn=true then((spec_l1In.f X (-1) 4).bind fun Bo=>(if Bo=true then((spec_l5Based.f Ab Aa).bind fun Bp=>(if Bp=true then(if Aa>U then(spec_WalOk.j0 k true U X Ab Aa D)else(if(D.length:Int)>60 then(spec_WalOk.j0 k true U X Ab Aa D)else(spec_WalOk.j0 k (decide ((wrap64 (Ab+(D.length:Int)))>100000)) U X Ab Aa D)))else(spec_WalOk.j0 k true U X Ab Aa D)))else(spec_WalOk.j0 k true U X Ab Aa D)))else(spec_WalOk.j0 k true U X Ab Aa D))
theorem spec_WalOk.z1 {p:Prop} (h:p:=by
 go_wp2_with (first|((with_reducible refine gC 99 rfl ?_);refine goesW Tryz.func99 ?_;(with_reducible refine(spec_l1In.calls U 0 100000 _ _ A4.o).mono ?_);rintro e w' ⟨rfl,⟨nd,rfl⟩⟩;refine⟨_,rfl,?_⟩)|(go_at_call 99;(with_reducible refine(spec_l1In.calls X (-1) 4 _ _ A6.o).mono ?_);rintro e w' ⟨rfl,⟨nd,rfl⟩⟩)|(go_at_call 131;(with_reducible refine(spec_l5Based.calls Ab Aa _ _ A8.o).mono ?_);rintro e w' ⟨rfl,⟨nd,rfl⟩⟩))
 (first|(have _:=AM;go_meet;(case rel=>exact⟨_,(true),fa,H',⟨by first|omega|exact Nat.le_refl _⟩,⟨bw A1⟩,⟨bl⟩⟩))|(have _:=BG;go_meet;(case rel=>exact⟨_,(decide ((wrap64 (Ab+(D.length:Int)))>100000)),fa,H',⟨by first|omega|exact Nat.le_refl _⟩,⟨bw A1⟩,⟨bl⟩⟩)))):p:=h
theorem spec_WalOk.z2 {p:Prop} (h:p:=by
 go_wp2_with (first|((with_reducible refine gD 5 rfl ?_);(try (refine gate_guard rfl ?_;dsimp only));refine boxW ?_;intro Ch hg Ci hbox hb;have BH:=aK hbox;have Cj:=gW HB hg;replace HB:=bS HB hb;have B0:=nl A1 hg;have B1:=nr A1 hg;replace A1:=bv A1 hb;clear hb hbox hg;have Ck:=B1.o;have Cl:=B0.o;have:=cf2 BH;have:=cf5 A1))
 (first|(have _:=AM;go_ret;exact⟨fe,bl⟩)|(have _:=BG;(go_roundg k2);(case measure=>have:=C0.o;have:=Bq.o;omega);(case rel=>exact⟨((rd_T115 D Ac).f0),(wrap64 (Ac+1)),fa,fa,H',⟨by have:=C0.o;have:=Bq.o;omega⟩,⟨bkk⟩,⟨bl⟩⟩)))):p:=h
theorem spec_WalOk.calls (k:Nat) (U:Int) (X:Int) (Ab:Int) (Aa:Int) (Ae:Option Addr) (Af:Nat) (D:List (S115)) (r:Bool) (w:World) (Al:Kd.C k115 w Ae D.length D) (Am:D.length≤Af) (h:spec_WalOk.f k U X Ab Aa D=some r) :
 Calls Tryz.prog 71 #[.agg #[.int .i64 U,.int .i64 X,.int .i64 Ab,.int .i64 Aa,.slice Ae D.length Af]] w fun e w'=>e = .returned (.bool r)∧Below w.heap.size w w':=by
 have Cz:=Tryz.underlying52;have Cm:=Tryz.underlying115;have Aj:=aK Al;have An:=aK Am;clear Al Am;have HB:=aK (Below.refl w.heap.size w);have H:=h;unfold spec_WalOk.f at H;clear h;have BI:=aK H;clear H
 go_enter Tryz.func71,Tryz.ntmps71
 go_upto_region 1 with(first|((with_reducible refine gD 1 rfl ?_);(try (refine gate_guard rfl ?_;dsimp only));refine boxW ?_;intro Br hg w3 hbox hb;have A1:=aK hbox;have Cn:=gW HB hg;replace HB:=bS HB hb;clear hb hbox hg))
 (try simp only[Act.put,List.setIfInBounds_toArray,List.set_cons_zero,List.set_cons_succ])
 go_cut [45] (fun Co wc=>∃(kq:Nat) (AP:Bool),Co = .bool AP∧Aside0 (spec_WalOk.j0 kq AP U X Ab Aa D=some r)∧Aside0 (kq≤k)∧Aside0 (wc.heap[Br]? = some (.cells #[.int .i64 U,.int .i64 X,.int .i64 Ab,.int .i64 Aa,(.slice Ae D.length Af)] 52 (0,0)))∧Aside0 (Below w.heap.size w wc))
 case first=>
  have H:=BI.o;clear BI;obtain⟨Bn,A4,H⟩:=bd H;by_cases c5:Bn=true
  ·subst c5;replace H:=iT H;obtain⟨Bo,A6,H⟩:=bd H;by_cases c7:Bo=true
   ·subst c7;replace H:=iT H;obtain⟨Bp,A8,H⟩:=bd H;by_cases c9:Bp=true
    ·subst c9;replace H:=iT H;by_cases c10:Aa>U
     ·rw[if_pos c10]at H;have At:=dt c10;clear c10;(first|rw[At]|(simp only[i64_w,i32_w];rw[At])|skip);have H':=aK H;clear H;have:=cf5 A1;have AM:=trivial;exact spec_WalOk.z1
     ·rw[if_neg c10]at H;have At:=df c10;clear c10;(first|rw[At]|(simp only[i64_w,i32_w];rw[At])|skip);by_cases Ag:(D.length:Int)>60
      ·rw[if_pos Ag]at H;have A_:=dt Ag;have B2:decide (60<D.length)=true:=dt (by omega);clear Ag;have H':=aK H;clear H;have:=cf5 A1;have AM:=trivial;exact spec_WalOk.z1
      ·rw[if_neg Ag]at H;have A_:=df Ag;have B2:decide (60<D.length)=false:=df (by omega);clear Ag;have H':=aK H;clear H;have:=cf5 A1;have BG:=trivial;exact spec_WalOk.z1
    ·replace c9:=bF c9;subst c9;replace H:=iF H;have H':=aK H;clear H;have:=cf5 A1;have AM:=trivial;exact spec_WalOk.z1
   ·replace c7:=bF c7;subst c7;replace H:=iF H;have H':=aK H;clear H;have:=cf5 A1;have AM:=trivial;exact spec_WalOk.z1
  ·replace c5:=bF c5;subst c5;replace H:=iF H;have H':=aK H;clear H;have:=cf5 A1;have AM:=trivial;exact spec_WalOk.z1
 case rest=>
  clear BI;(try clear c1);(try clear p2);(try clear c5);(try clear p6);(try clear c7);(try clear c9);(try clear c10);(try clear At);(try clear Ag);(try clear A_);(try clear B2);obtain⟨kq,AP,rfl,HA,C0,A1,HB⟩:=hcut;cases kq with
  |zero=>exact absurd HA.o (by simp[spec_WalOk.j0])
  |succ C1=>
   have H:=HA.o;clear HA;simp only[spec_WalOk.j0]at H;by_cases Bs:AP=true
   ·subst Bs;replace H:=iT H;obtain rfl:=oj H;go_wp2
    go_ret
    exact⟨fe,bl⟩
   ·replace Bs:=bF Bs;subst Bs;replace H:=iF H;have H':=aK H;clear H;have:=cf5 A1;go_wp2
    go_loopg [3,4] C1 (fun kq v3 v4 w'=>∃(Bf:Int) (Ac:Int),v3 = .int .i64 Bf∧v4 = .int .i64 Ac∧Aside0 (spec_WalOk.l0 kq Bf Ac U X Ab Aa D=some r)∧Aside0 (kq≤C1)∧Aside0 (w'.heap[Br]? = some (.cells #[.int .i64 U,.int .i64 X,.int .i64 Ab,.int .i64 Aa,(.slice Ae D.length Af)] 52 (0,0)))∧Aside0 (Below w.heap.size w w'))
    case atStart=>exact⟨(Aa),(0),fa,fa,H',⟨Nat.le_refl _⟩,⟨bw A1⟩,⟨bl⟩⟩
    case round=>
     clear H';(try clear c1);(try clear p2);(try clear c5);(try clear p6);(try clear c7);(try clear c9);(try clear c10);(try clear At);(try clear Ag);(try clear A_);(try clear B2);(try clear Bs);(try clear p2);(try clear p6);obtain⟨Bf,Ac,rfl,rfl,HA,Bq,A1,HB⟩:=hrel;cases gk with
     |zero=>exact absurd HA.o (by simp[spec_WalOk.l0])
     |succ k2=>
      have H:=HA.o;clear HA;simp only[spec_WalOk.l0]at H;by_cases Bg:Ac<(D.length:Int)
      ·rw[if_pos Bg]at H;have BJ:=dt Bg;clear Bg;by_cases BC:0≤Ac
       ·rw[if_pos BC]at H;have Cp:=dt BC;clear BC;have Hq_:=aK H;clear H;have:=cf5 A1;have Bt:0≤(Ac:Int):=dT am;have Bu:Ac<(D.length:Int):=dT am;obtain⟨Cq,C2,AW,AX⟩:=at_T115 Aj.o Ac Bt Bu;cases C2;replace AW:=cz HB AW;replace AX:=cz HB AX;replace Bt:=eq_true Bt;replace Bu:=eq_true Bu;have H:=Hq_.o;clear Hq_;by_cases Bh:((rd_T115 D Ac).f0)<1
        ·rw[if_pos Bh]at H;have B3:=dt Bh;(try rw[B3]);clear Bh;obtain rfl:=oj H;have AM:=trivial;exact spec_WalOk.z2
        ·rw[if_neg Bh]at H;have B3:=df Bh;(try rw[B3]);clear Bh;by_cases Bi:((rd_T115 D Ac).f0)<Bf
         ·rw[if_pos Bi]at H;have B4:=dt Bi;(try rw[B4]);clear Bi;obtain rfl:=oj H;have AM:=trivial;exact spec_WalOk.z2
         ·rw[if_neg Bi]at H;have B4:=df Bi;(try rw[B4]);clear Bi;by_cases Bj:((rd_T115 D Ac).f0)>U
          ·rw[if_pos Bj]at H;have B5:=dt Bj;(try rw[B5]);clear Bj;obtain rfl:=oj H;have AM:=trivial;exact spec_WalOk.z2
          ·rw[if_neg Bj]at H;have B5:=df Bj;(try rw[B5]);clear Bj;by_cases Bk:(((rd_T115 D Ac).f1).size:Int)>900
           ·rw[if_pos Bk]at H;have B6:=dt Bk;(try rw[B6]);have B7:decide (900<((rd_T115 D Ac).f1).size)=true:=dt (by omega);(try rw[B7]);clear Bk;obtain rfl:=oj H;have AM:=trivial;exact spec_WalOk.z2
           ·rw[if_neg Bk]at H;have B6:=df Bk;(try rw[B6]);have B7:decide (900<((rd_T115 D Ac).f1).size)=false:=df (by omega);(try rw[B7]);clear Bk;have H':=aK H;clear H;have BG:=trivial;exact spec_WalOk.z2
       ·rw[if_neg BC]at H;exact absurd H (by simp)
      ·rw[if_neg Bg]at H;have BJ:=df Bg;clear Bg;obtain rfl:=oj H;have:=cf5 A1;go_wp2
       go_ret
       exact⟨fe,bl⟩
def spec_Load.f (k:Nat) (U:Int) (X:Int) (Y:List (S130)) (A0:List (S133)) (D:List (S135)) (J:ByteArray):Option (ByteArray×Bool):=(spec_DiskOk.f k U X Y A0 D).bind fun Bv=>(if Bv=true then((spec_l4Find.f k U X Y A0 D J).bind fun Ah=>(if Ah<0 then(some ((⟨#[]⟩:ByteArray),false))else(if 0≤Ah then(if Ah<(Y.length:Int)then(some ((rd_T130 Y Ah).f1,true))else(none))else(none))))else(some ((⟨#[]⟩:ByteArray),false)))
theorem spec_Load.z1 {p:Prop} (h:p:=by
 go_enter Tryz.func86,Tryz.ntmps86
 go_wp2_with (first|((with_reducible refine gD 2 rfl ?_);refine boxW ?_;intro BK hg BL hbox hb;have A7:=aK hbox;have BM:=gW HB hg;replace HB:=bS HB hb;clear hb hbox hg;have:=cf5 A7)|((with_reducible refine gC 42 rfl ?_);refine goesW Tryz.func42 ?_;(with_reducible refine(spec_DiskOk.calls k U X _ _ Y _ _ A0 _ _ D _ _ ?_ ?_ ?_ ?_ ?_ ?_ A3.o).mono ?_);exact cB Ao HB;exact Au.o;exact cB Av HB;exact Aw.o;exact cB Aj HB;exact An.o;rintro e BN ⟨rfl,hb⟩;refine⟨_,rfl,?_⟩;replace A7:=bv A7 hb;replace HB:=bS HB hb;(try clear hb);have:=cf5 A7)|((with_reducible refine gC 106 rfl ?_);refine goesW Tryz.func106 ?_;(with_reducible refine(spec_l4Find.calls k U X _ _ Y _ _ A0 _ _ D J Ah _ ?_ ?_ ?_ ?_ ?_ ?_ A5.o).mono ?_);exact cB Ao HB;exact Au.o;exact cB Av HB;exact Aw.o;exact cB Aj HB;exact An.o;rintro e BO ⟨rfl,hb⟩;refine⟨_,rfl,?_⟩;replace A7:=bv A7 hb;replace HB:=bS HB hb;(try clear hb)))
 go_ret2
 exact⟨fe,bl⟩):p:=h
theorem spec_Load.calls (k:Nat) (U:Int) (X:Int) (AA:Option Addr) (AB:Nat) (Y:List (S130)) (AC:Option Addr) (AD:Nat) (A0:List (S133)) (Ae:Option Addr) (Af:Nat) (D:List (S135)) (J:ByteArray) (r1:ByteArray) (r2:Bool) (w:World) (AG:Kd.C k130 w AA Y.length Y) (AH:Y.length≤AB) (AI:Kd.C k133 w AC A0.length A0) (AJ:A0.length≤AD) (Al:Kd.C k135 w Ae D.length D) (Am:D.length≤Af) (h:spec_Load.f k U X Y A0 D J=some (r1,r2)) :
 Calls Tryz.prog 86 #[.agg #[.int .i64 U,.int .i64 X,.slice AA Y.length AB,.slice AC A0.length AD,.slice Ae D.length Af],.string J] w fun e w'=>e = .returned (.tuple #[.string r1,.bool r2])∧Below w.heap.size w w':=by
 have C3:=Tryz.underlying35;have Ao:=aK AG;have Au:=aK AH;clear AG AH;have Av:=aK AI;have Aw:=aK AJ;clear AI AJ;have Aj:=aK Al;have An:=aK Am;clear Al Am;have HB:=aK (Below.refl w.heap.size w);have H:=h;unfold spec_Load.f at H;clear h;obtain⟨Bv,A3,H⟩:=bd H;by_cases c4:Bv=true
 ·subst c4;replace H:=iT H;obtain⟨Ah,A5,H⟩:=bd H;by_cases c6:Ah<0
  ·rw[if_pos c6]at H;have C4:=dt c6;clear c6;simp only[Option.some.injEq,Prod.mk.injEq]at H;obtain⟨rfl,rfl⟩:=H
   exact spec_Load.z1
  ·rw[if_neg c6]at H;have C4:=df c6;clear c6;by_cases Ag:0≤Ah
   ·rw[if_pos Ag]at H;have A_:=dt Ag;clear Ag;by_cases BD:Ah<(Y.length:Int)
    ·rw[if_pos BD]at H;have Cr:=dt BD;clear BD;simp only[Option.some.injEq,Prod.mk.injEq]at H;obtain⟨rfl,rfl⟩:=H
     go_enter Tryz.func86,Tryz.ntmps86
     go_wp2_with (first|((with_reducible refine gD 2 rfl ?_);refine boxW ?_;intro BK hg BL hbox hb;have A7:=aK hbox;have BM:=gW HB hg;replace HB:=bS HB hb;clear hb hbox hg;have:=cf5 A7)|((with_reducible refine gC 42 rfl ?_);refine goesW Tryz.func42 ?_;(with_reducible refine(spec_DiskOk.calls k U X _ _ Y _ _ A0 _ _ D _ _ ?_ ?_ ?_ ?_ ?_ ?_ A3.o).mono ?_);exact cB Ao HB;exact Au.o;exact cB Av HB;exact Aw.o;exact cB Aj HB;exact An.o;rintro e BN ⟨rfl,hb⟩;refine⟨_,rfl,?_⟩;replace A7:=bv A7 hb;replace HB:=bS HB hb;(try clear hb);have:=cf5 A7)|((with_reducible refine gC 106 rfl ?_);refine goesW Tryz.func106 ?_;(with_reducible refine(spec_l4Find.calls k U X _ _ Y _ _ A0 _ _ D J Ah _ ?_ ?_ ?_ ?_ ?_ ?_ A5.o).mono ?_);exact cB Ao HB;exact Au.o;exact cB Av HB;exact Aw.o;exact cB Aj HB;exact An.o;rintro e BO ⟨rfl,hb⟩;refine⟨_,rfl,?_⟩;replace A7:=bv A7 hb;replace HB:=bS HB hb;(try clear hb);have:=cf5 A7;have BP:0≤(Ah:Int):=dT am;have BQ:Ah<(Y.length:Int):=dT am;obtain⟨C_,Cs,AQ,AR,AS⟩:=at_T130 Ao.o Ah BP BQ;cases Cs;replace AQ:=(HB.out.cell (bL w _ AQ)).trans AQ;replace AR:=(HB.out.cell (bL w _ AR)).trans AR;replace AS:=(HB.out.cell (bL w _ AS)).trans AS;replace BP:=eq_true BP;replace BQ:=eq_true BQ))
     go_ret2
     exact⟨fe,bl⟩
    ·rw[if_neg BD]at H;exact absurd H (by simp)
   ·rw[if_neg Ag]at H;exact absurd H (by simp)
 ·replace c4:=bF c4;subst c4;replace H:=iF H;simp only[Option.some.injEq,Prod.mk.injEq]at H;obtain⟨rfl,rfl⟩:=H
  exact spec_Load.z1
def spec_l6Anew.f (k:Nat) (U:Int) (X:Int) (Y:List (S130)) (A0:List (S133)) (D:List (S135)) (J:ByteArray) (a2:ByteArray):Option ((List (S39))):=(some (([]:List (S39)):List (S39))).bind fun Ad=>(if J.size+4≤9223372036854775807 then((spec_Load.f k U X Y A0 D (J++(⟨#[46,110,101,119]⟩:ByteArray))).bind fun B8=>(if B8.2=true then(if Ad.length<2513169434916 then((some (Ad ++ [(⟨5,J++(⟨#[46,110,101,119]⟩:ByteArray),(⟨#[]⟩:ByteArray),(⟨#[]⟩:ByteArray)⟩:S39)]:List (S39))).bind fun Az=>((some (([(⟨1,J++(⟨#[46,110,101,119]⟩:ByteArray),(⟨#[]⟩:ByteArray),(⟨#[]⟩:ByteArray)⟩:S39),(⟨2,J++(⟨#[46,110,101,119]⟩:ByteArray),(⟨#[]⟩:ByteArray),a2⟩:S39),(⟨3,J++(⟨#[46,110,101,119]⟩:ByteArray),(⟨#[]⟩:ByteArray),(⟨#[]⟩:ByteArray)⟩:S39),(⟨4,J++(⟨#[46,110,101,119]⟩:ByteArray),J,(⟨#[]⟩:ByteArray)⟩:S39),(⟨6,(⟨#[]⟩:ByteArray),(⟨#[]⟩:ByteArray),(⟨#[]⟩:ByteArray)⟩:S39)]:List (S39)):List (S39))).bind fun Aq=>(if Az.length+Aq.length<2513169434916 then(some (Az++Aq))else(none))))else(none))else((some (([(⟨1,J++(⟨#[46,110,101,119]⟩:ByteArray),(⟨#[]⟩:ByteArray),(⟨#[]⟩:ByteArray)⟩:S39),(⟨2,J++(⟨#[46,110,101,119]⟩:ByteArray),(⟨#[]⟩:ByteArray),a2⟩:S39),(⟨3,J++(⟨#[46,110,101,119]⟩:ByteArray),(⟨#[]⟩:ByteArray),(⟨#[]⟩:ByteArray)⟩:S39),(⟨4,J++(⟨#[46,110,101,119]⟩:ByteArray),J,(⟨#[]⟩:ByteArray)⟩:S39),(⟨6,(⟨#[]⟩:ByteArray),(⟨#[]⟩:ByteArray),(⟨#[]⟩:ByteArray)⟩:S39)]:List (S39)):List (S39))).bind fun Ar=>(if Ad.length+Ar.length<2513169434916 then(some (Ad++Ar))else(none)))))else(none))
theorem spec_l6Anew.calls (k:Nat) (U:Int) (X:Int) (AA:Option Addr) (AB:Nat) (Y:List (S130)) (AC:Option Addr) (AD:Nat) (A0:List (S133)) (Ae:Option Addr) (Af:Nat) (D:List (S135)) (J:ByteArray) (a2:ByteArray) (r:List (S39)) (w:World) (AG:Kd.C k130 w AA Y.length Y) (AH:Y.length≤AB) (AI:Kd.C k133 w AC A0.length A0) (AJ:A0.length≤AD) (Al:Kd.C k135 w Ae D.length D) (Am:D.length≤Af) (h:spec_l6Anew.f k U X Y A0 D J a2=some r) :
 Calls Tryz.prog 72 #[.agg #[.int .i64 U,.int .i64 X,.slice AA Y.length AB,.slice AC A0.length AD,.slice Ae D.length Af],.string J,.string a2] w fun e w'=>∃C5:Value,e = .returned (C5)∧Kd.R k39 39 w' w.heap.size (fun _=>True) C5 r∧Below w.heap.size w w':=by
 have C3:=Tryz.underlying35;have CA:=Tryz.underlying39;have Ao:=aK AG;have Au:=aK AH;clear AG AH;have Av:=aK AI;have Aw:=aK AJ;clear AI AJ;have Aj:=aK Al;have An:=aK Am;clear Al Am;have HB:=aK (Below.refl w.heap.size w)
 have H:=h;unfold spec_l6Anew.f at H
 clear h;obtain⟨Ad,AK⟩:∃y_:List (S39),y_=(([]:List (S39))):=⟨_,rfl⟩
 replace H:(if J.size+4≤9223372036854775807 then((spec_Load.f k U X Y A0 D (J++(⟨#[46,110,101,119]⟩:ByteArray))).bind fun B8=>(if B8.2=true then(if Ad.length<2513169434916 then((some (Ad ++ [(⟨5,J++(⟨#[46,110,101,119]⟩:ByteArray),(⟨#[]⟩:ByteArray),(⟨#[]⟩:ByteArray)⟩:S39)]:List (S39))).bind fun Az=>((some (([(⟨1,J++(⟨#[46,110,101,119]⟩:ByteArray),(⟨#[]⟩:ByteArray),(⟨#[]⟩:ByteArray)⟩:S39),(⟨2,J++(⟨#[46,110,101,119]⟩:ByteArray),(⟨#[]⟩:ByteArray),a2⟩:S39),(⟨3,J++(⟨#[46,110,101,119]⟩:ByteArray),(⟨#[]⟩:ByteArray),(⟨#[]⟩:ByteArray)⟩:S39),(⟨4,J++(⟨#[46,110,101,119]⟩:ByteArray),J,(⟨#[]⟩:ByteArray)⟩:S39),(⟨6,(⟨#[]⟩:ByteArray),(⟨#[]⟩:ByteArray),(⟨#[]⟩:ByteArray)⟩:S39)]:List (S39)):List (S39))).bind fun Aq=>(if Az.length+Aq.length<2513169434916 then(some (Az++Aq))else(none))))else(none))else((some (([(⟨1,J++(⟨#[46,110,101,119]⟩:ByteArray),(⟨#[]⟩:ByteArray),(⟨#[]⟩:ByteArray)⟩:S39),(⟨2,J++(⟨#[46,110,101,119]⟩:ByteArray),(⟨#[]⟩:ByteArray),a2⟩:S39),(⟨3,J++(⟨#[46,110,101,119]⟩:ByteArray),(⟨#[]⟩:ByteArray),(⟨#[]⟩:ByteArray)⟩:S39),(⟨4,J++(⟨#[46,110,101,119]⟩:ByteArray),J,(⟨#[]⟩:ByteArray)⟩:S39),(⟨6,(⟨#[]⟩:ByteArray),(⟨#[]⟩:ByteArray),(⟨#[]⟩:ByteArray)⟩:S39)]:List (S39)):List (S39))).bind fun Ar=>(if Ad.length+Ar.length<2513169434916 then(some (Ad++Ar))else(none)))))else(none))=some r:=by first|(rw[AK];with_reducible exact H)|(have BR:=(Option.bind_some _ _).symm.trans H;rw[AK];with_reducible exact BR)|(have BR:=(Option.bind_some _ _).symm.trans H;with_reducible exact BR)|with_reducible exact H|(rw[AK];exact H)|exact H
 have AT:=aK AK;clear AK;by_cases c4:J.size+4≤9223372036854775807
 ·rw[if_pos c4]at H;have CB:=eq_true c4;have CC:=dt c4;(try have CD:(9223372036854775807<J.size+4)=False:=eq_false (Nat.not_lt.2 c4));replace H:=oB H;obtain⟨⟨BF,C6⟩,C7,H⟩:=H
  dsimp only at H;have A5:=aK C7;clear C7;by_cases c6:C6=true
  ·subst c6;replace H:=iT H;by_cases c7:Ad.length<2513169434916
   ·rw[if_pos c7]at H;have C8:=aK c7;clear c7;obtain⟨Az,B9⟩:=yy (Ad ++ [(⟨5,J++(⟨#[46,110,101,119]⟩:ByteArray),(⟨#[]⟩:ByteArray),(⟨#[]⟩:ByteArray)⟩:S39)]);rw[←B9]at H;(try rw[obs]at H)
    have BS:=aK B9;clear B9;obtain⟨Aq,Ba⟩:=yy ([(⟨1,J++(⟨#[46,110,101,119]⟩:ByteArray),(⟨#[]⟩:ByteArray),(⟨#[]⟩:ByteArray)⟩:S39),(⟨2,J++(⟨#[46,110,101,119]⟩:ByteArray),(⟨#[]⟩:ByteArray),a2⟩:S39),(⟨3,J++(⟨#[46,110,101,119]⟩:ByteArray),(⟨#[]⟩:ByteArray),(⟨#[]⟩:ByteArray)⟩:S39),(⟨4,J++(⟨#[46,110,101,119]⟩:ByteArray),J,(⟨#[]⟩:ByteArray)⟩:S39),(⟨6,(⟨#[]⟩:ByteArray),(⟨#[]⟩:ByteArray),(⟨#[]⟩:ByteArray)⟩:S39)]:List (S39));rw[←Ba]at H;(try rw[obs]at H)
    have Bw:=aK Ba;clear Ba;by_cases c8:Az.length+Aq.length<2513169434916
    ·rw[if_pos c8]at H;have C9:=aK c8;clear c8;obtain⟨CE,Bb⟩:=yy (Az++Aq);rw[←Bb]at H;(try rw[obs]at H)
     have BT:=aK Bb;clear Bb;obtain rfl:=oj H
     go_enter Tryz.func72,Tryz.ntmps72
     go_wp2_with (first|((with_reducible refine gD 3 rfl ?_);refine boxW ?_;intro AU hg BL hbox hb;have Z:=aK hbox;have BU:=gW HB hg;replace HB:=bS HB hb;clear hb hbox hg)|((with_reducible refine gD 10 rfl ?_);refine Kd.R_lit k39 _ 39 ?hg (N:=10) ?hd (xs:=([]:List (S39))) (inner:=[]) (ok:=fun _=>True) (okp:=fun _=>True) ?hr ?hp (fun _ hk=>hk) trivial (Below.refl _ _) (Nat.le_refl _) (by simp) ?_;(case hd=>rfl);(case hg=>rfl);(case hr=>first|(go_simp;done)|(go_simp;rfl));(case hp=>exact(Reps.none _ _));intro Bx BN Ap hb hg_ hnew_;clear hg_ hnew_;(first|rw[←AT.o]at Ap|(simp only[Int.reduceToNat]at Ap;rw[←AT.o]at Ap));have A9:=rl HB Ap;replace Z:=bv Z hb;replace HB:=bS HB hb;clear hb Ap;have:=cf5 Z)|((with_reducible refine gC 86 rfl ?_);refine goesW Tryz.func86 ?_;(with_reducible refine(spec_Load.calls k U X _ _ Y _ _ A0 _ _ D (J++(⟨#[46,110,101,119]⟩:ByteArray)) BF _ _ ?_ ?_ ?_ ?_ ?_ ?_ A5.o).mono ?_);exact cB Ao HB;exact Au.o;exact cB Av HB;exact Aw.o;exact cB Aj HB;exact An.o;rintro e BO ⟨rfl,hb⟩;refine⟨_,rfl,?_⟩;replace A9:=rb A9 hb;replace Z:=bv Z hb;replace HB:=bS HB hb;(try clear hb))|((with_reducible refine gate_builtin (b:=.append) (xs:=#[.tmp 19,.tmp 23]) rfl ?_);at_builtin;refine Kd.R_append k39 (w0:=w) w.heap.size rfl (.tmp 19) (.tmp 23) 48 39 (.agg #[(.int .i64 0),(.string ⟨#[]⟩),(.string ⟨#[]⟩),(.string ⟨#[]⟩)]) 56 rfl Tryz.underlying48 info39 rfl (by decide) (by omega) Bx Ad (⟨5,J++(⟨#[46,110,101,119]⟩:ByteArray),(⟨#[]⟩:ByteArray),(⟨#[]⟩:ByteArray)⟩:S39) [.int .i64 5,.string (J++(⟨#[46,110,101,119]⟩:ByteArray)),.string (⟨#[]⟩:ByteArray),.string (⟨#[]⟩:ByteArray)] (fun _=>True) (fun _=>False) rfl rfl ?aP (fun _ hk=>hk.elim) ?aF ?aO ?aB ?aS ?aL ?_;(case aP=>exact k39_mkM _ _ _ (⟨5,J++(⟨#[46,110,101,119]⟩:ByteArray),(⟨#[]⟩:ByteArray),(⟨#[]⟩:ByteArray)⟩:S39));(case aB=>exact bl);(case aF=>exact(fun _ _=>trivial));(case aO=>exact(rpR A9.o));(case aS=>exact(below_size bl));(case aL=>have:=C8.o;omega);intro Ca Ct ho hb hg hat;rw[←BS.o]at ho;replace Z:=aK (blk_grown (g:=AU) (o:=.cells #[.int .i64 U,.int .i64 X,.slice AA Y.length AB,.slice AC A0.length AD,.slice Ae D.length Af] 35 (0,0)) bk hg (Kd.R_ne A9.o Z.o (by decide)));replace HB:=aK (hb);have Ak:=aK (ho);clear A9;clear ho hb hg hat)|((with_reducible refine gD 41 rfl ?_);refine Kd.R_lit k39 _ 39 ?hg (N:=41) ?hd (xs:=([(⟨1,J++(⟨#[46,110,101,119]⟩:ByteArray),(⟨#[]⟩:ByteArray),(⟨#[]⟩:ByteArray)⟩:S39),(⟨2,J++(⟨#[46,110,101,119]⟩:ByteArray),(⟨#[]⟩:ByteArray),a2⟩:S39),(⟨3,J++(⟨#[46,110,101,119]⟩:ByteArray),(⟨#[]⟩:ByteArray),(⟨#[]⟩:ByteArray)⟩:S39),(⟨4,J++(⟨#[46,110,101,119]⟩:ByteArray),J,(⟨#[]⟩:ByteArray)⟩:S39),(⟨6,(⟨#[]⟩:ByteArray),(⟨#[]⟩:ByteArray),(⟨#[]⟩:ByteArray)⟩:S39)]:List (S39))) (inner:=[.int .i64 1,.string (J++(⟨#[46,110,101,119]⟩:ByteArray)),.string (⟨#[]⟩:ByteArray),.string (⟨#[]⟩:ByteArray),.int .i64 2,.string (J++(⟨#[46,110,101,119]⟩:ByteArray)),.string (⟨#[]⟩:ByteArray),.string a2,.int .i64 3,.string (J++(⟨#[46,110,101,119]⟩:ByteArray)),.string (⟨#[]⟩:ByteArray),.string (⟨#[]⟩:ByteArray),.int .i64 4,.string (J++(⟨#[46,110,101,119]⟩:ByteArray)),.string J,.string (⟨#[]⟩:ByteArray),.int .i64 6,.string (⟨#[]⟩:ByteArray),.string (⟨#[]⟩:ByteArray),.string (⟨#[]⟩:ByteArray)]) (ok:=fun _=>True) (okp:=fun _=>True) ?hr ?hp (fun _ hk=>hk) trivial (Below.refl _ _) (Nat.le_refl _) (by simp) ?_;(case hd=>rfl);(case hg=>rfl);(case hr=>first|(go_simp;done)|(go_simp;rfl));(case hp=>exact(Reps.c4 (show Kd.M k39 _ _ _ (⟨1,J++(⟨#[46,110,101,119]⟩:ByteArray),(⟨#[]⟩:ByteArray),(⟨#[]⟩:ByteArray)⟩:S39) [.int .i64 1,.string (J++(⟨#[46,110,101,119]⟩:ByteArray)),.string (⟨#[]⟩:ByteArray),.string (⟨#[]⟩:ByteArray)]from(k39_mkM _ _ _ (⟨1,J++(⟨#[46,110,101,119]⟩:ByteArray),(⟨#[]⟩:ByteArray),(⟨#[]⟩:ByteArray)⟩:S39))) (Reps.c4 (show Kd.M k39 _ _ _ (⟨2,J++(⟨#[46,110,101,119]⟩:ByteArray),(⟨#[]⟩:ByteArray),a2⟩:S39) [.int .i64 2,.string (J++(⟨#[46,110,101,119]⟩:ByteArray)),.string (⟨#[]⟩:ByteArray),.string a2]from(k39_mkM _ _ _ (⟨2,J++(⟨#[46,110,101,119]⟩:ByteArray),(⟨#[]⟩:ByteArray),a2⟩:S39))) (Reps.c4 (show Kd.M k39 _ _ _ (⟨3,J++(⟨#[46,110,101,119]⟩:ByteArray),(⟨#[]⟩:ByteArray),(⟨#[]⟩:ByteArray)⟩:S39) [.int .i64 3,.string (J++(⟨#[46,110,101,119]⟩:ByteArray)),.string (⟨#[]⟩:ByteArray),.string (⟨#[]⟩:ByteArray)]from(k39_mkM _ _ _ (⟨3,J++(⟨#[46,110,101,119]⟩:ByteArray),(⟨#[]⟩:ByteArray),(⟨#[]⟩:ByteArray)⟩:S39))) (Reps.c4 (show Kd.M k39 _ _ _ (⟨4,J++(⟨#[46,110,101,119]⟩:ByteArray),J,(⟨#[]⟩:ByteArray)⟩:S39) [.int .i64 4,.string (J++(⟨#[46,110,101,119]⟩:ByteArray)),.string J,.string (⟨#[]⟩:ByteArray)]from(k39_mkM _ _ _ (⟨4,J++(⟨#[46,110,101,119]⟩:ByteArray),J,(⟨#[]⟩:ByteArray)⟩:S39))) (Reps.c4 (show Kd.M k39 _ _ _ (⟨6,(⟨#[]⟩:ByteArray),(⟨#[]⟩:ByteArray),(⟨#[]⟩:ByteArray)⟩:S39) [.int .i64 6,.string (⟨#[]⟩:ByteArray),.string (⟨#[]⟩:ByteArray),.string (⟨#[]⟩:ByteArray)]from(k39_mkM _ _ _ (⟨6,(⟨#[]⟩:ByteArray),(⟨#[]⟩:ByteArray),(⟨#[]⟩:ByteArray)⟩:S39))) (Reps.none _ _)))))));intro Cu Cv Ai hb hg_ hnew_;clear hg_ hnew_;(first|rw[←Bw.o]at Ai|(simp only[Int.reduceToNat]at Ai;rw[←Bw.o]at Ai));have AL:=rl HB (Kd.R_new' Ai (Kd.R_lt (rpR Ak.o)));replace Ak:=re Ak.o Ai hb;replace Z:=bv Z hb;replace HB:=bS HB hb;clear hb Ai;obtain⟨By,Bz,rfl⟩:=rs AL)|((with_reducible refine gate_builtin (b:=.append) (xs:=#[.tmp 25,.tmp 41]) rfl ?_);at_builtin;refine Kd.R_append_rows k39 (w0:=w) w.heap.size rfl (.tmp 25) (.tmp 41) 48 39 (.agg #[(.int .i64 0),(.string ⟨#[]⟩),(.string ⟨#[]⟩),(.string ⟨#[]⟩)]) 56 rfl Tryz.underlying48 info39 rfl (by decide) (by omega) Ca Az Aq _ _ _ (fun k_=>some k_≠(.slice By Aq.length Bz:Value).ownBlock) (fun _=>False) rfl rfl ?aO ?aR (fun _ _ h=>h) (fun _ h=>h.elim) ?aF ?aB ?aS ?aL ?_;(case aR=>exact ca (cR AL.o));(case aB=>exact bl);(case aF=>exact(fun k_ hk=>Kd.fresh' (Kd.R_lt (rpR AL.o)) k_ hk));(case aO=>exact(rpR (rM Ak.o (fun _ hk=>hk.2))));(case aS=>exact(below_size bl));(case aL=>have:=C9.o;omega);intro CJ CK ho hb hg hat;rw[←BT.o]at ho;replace Z:=aK (blk_grown (g:=AU) (o:=.cells #[.int .i64 U,.int .i64 X,.slice AA Y.length AB,.slice AC A0.length AD,.slice Ae D.length Af] 35 (0,0)) bk hg (Kd.R_ne Ak.o Z.o (by decide)));replace AL:=aK (Kd.R_after (ok:=(fun _=>True)) (rpR AL.o) hg hat);replace HB:=aK (hb);have Cb:=aK (ho);clear Ak;clear ho hb hg hat))
     go_ret
     exact⟨_,fe,rpR (rM Cb.o (fun _ hk=>trivial)),bl⟩
    ·rw[if_neg c8]at H;exact absurd H (by simp)
   ·rw[if_neg c7]at H;exact absurd H (by simp)
  ·replace c6:=bF c6;subst c6;replace H:=iF H;obtain⟨Ar,Bc⟩:=yy ([(⟨1,J++(⟨#[46,110,101,119]⟩:ByteArray),(⟨#[]⟩:ByteArray),(⟨#[]⟩:ByteArray)⟩:S39),(⟨2,J++(⟨#[46,110,101,119]⟩:ByteArray),(⟨#[]⟩:ByteArray),a2⟩:S39),(⟨3,J++(⟨#[46,110,101,119]⟩:ByteArray),(⟨#[]⟩:ByteArray),(⟨#[]⟩:ByteArray)⟩:S39),(⟨4,J++(⟨#[46,110,101,119]⟩:ByteArray),J,(⟨#[]⟩:ByteArray)⟩:S39),(⟨6,(⟨#[]⟩:ByteArray),(⟨#[]⟩:ByteArray),(⟨#[]⟩:ByteArray)⟩:S39)]:List (S39));rw[←Bc]at H;(try rw[obs]at H)
   have B_:=aK Bc;clear Bc;by_cases BE:Ad.length+Ar.length<2513169434916
   ·rw[if_pos BE]at H;have BV:=aK BE;clear BE;obtain⟨CF,Bd⟩:=yy (Ad++Ar);rw[←Bd]at H;(try rw[obs]at H)
    have BW:=aK Bd;clear Bd;obtain rfl:=oj H
    go_enter Tryz.func72,Tryz.ntmps72
    go_wp2_with (first|((with_reducible refine gD 3 rfl ?_);refine boxW ?_;intro AU hg BL hbox hb;have Z:=aK hbox;have BU:=gW HB hg;replace HB:=bS HB hb;clear hb hbox hg)|((with_reducible refine gD 10 rfl ?_);refine Kd.R_lit k39 _ 39 ?hg (N:=10) ?hd (xs:=([]:List (S39))) (inner:=[]) (ok:=fun _=>True) (okp:=fun _=>True) ?hr ?hp (fun _ hk=>hk) trivial (Below.refl _ _) (Nat.le_refl _) (by simp) ?_;(case hd=>rfl);(case hg=>rfl);(case hr=>first|(go_simp;done)|(go_simp;rfl));(case hp=>exact(Reps.none _ _));intro Bx BN Ap hb hg_ hnew_;clear hg_ hnew_;(first|rw[←AT.o]at Ap|(simp only[Int.reduceToNat]at Ap;rw[←AT.o]at Ap));have A9:=rl HB Ap;replace Z:=bv Z hb;replace HB:=bS HB hb;clear hb Ap;have:=cf5 Z)|((with_reducible refine gC 86 rfl ?_);refine goesW Tryz.func86 ?_;(with_reducible refine(spec_Load.calls k U X _ _ Y _ _ A0 _ _ D (J++(⟨#[46,110,101,119]⟩:ByteArray)) BF _ _ ?_ ?_ ?_ ?_ ?_ ?_ A5.o).mono ?_);exact cB Ao HB;exact Au.o;exact cB Av HB;exact Aw.o;exact cB Aj HB;exact An.o;rintro e BO ⟨rfl,hb⟩;refine⟨_,rfl,?_⟩;replace A9:=rb A9 hb;replace Z:=bv Z hb;replace HB:=bS HB hb;(try clear hb))|((with_reducible refine gD 41 rfl ?_);refine Kd.R_lit k39 _ 39 ?hg (N:=41) ?hd (xs:=([(⟨1,J++(⟨#[46,110,101,119]⟩:ByteArray),(⟨#[]⟩:ByteArray),(⟨#[]⟩:ByteArray)⟩:S39),(⟨2,J++(⟨#[46,110,101,119]⟩:ByteArray),(⟨#[]⟩:ByteArray),a2⟩:S39),(⟨3,J++(⟨#[46,110,101,119]⟩:ByteArray),(⟨#[]⟩:ByteArray),(⟨#[]⟩:ByteArray)⟩:S39),(⟨4,J++(⟨#[46,110,101,119]⟩:ByteArray),J,(⟨#[]⟩:ByteArray)⟩:S39),(⟨6,(⟨#[]⟩:ByteArray),(⟨#[]⟩:ByteArray),(⟨#[]⟩:ByteArray)⟩:S39)]:List (S39))) (inner:=[.int .i64 1,.string (J++(⟨#[46,110,101,119]⟩:ByteArray)),.string (⟨#[]⟩:ByteArray),.string (⟨#[]⟩:ByteArray),.int .i64 2,.string (J++(⟨#[46,110,101,119]⟩:ByteArray)),.string (⟨#[]⟩:ByteArray),.string a2,.int .i64 3,.string (J++(⟨#[46,110,101,119]⟩:ByteArray)),.string (⟨#[]⟩:ByteArray),.string (⟨#[]⟩:ByteArray),.int .i64 4,.string (J++(⟨#[46,110,101,119]⟩:ByteArray)),.string J,.string (⟨#[]⟩:ByteArray),.int .i64 6,.string (⟨#[]⟩:ByteArray),.string (⟨#[]⟩:ByteArray),.string (⟨#[]⟩:ByteArray)]) (ok:=fun _=>True) (okp:=fun _=>True) ?hr ?hp (fun _ hk=>hk) trivial (Below.refl _ _) (Nat.le_refl _) (by simp) ?_;(case hd=>rfl);(case hg=>rfl);(case hr=>first|(go_simp;done)|(go_simp;rfl));(case hp=>exact(Reps.c4 (show Kd.M k39 _ _ _ (⟨1,J++(⟨#[46,110,101,119]⟩:ByteArray),(⟨#[]⟩:ByteArray),(⟨#[]⟩:ByteArray)⟩:S39) [.int .i64 1,.string (J++(⟨#[46,110,101,119]⟩:ByteArray)),.string (⟨#[]⟩:ByteArray),.string (⟨#[]⟩:ByteArray)]from(k39_mkM _ _ _ (⟨1,J++(⟨#[46,110,101,119]⟩:ByteArray),(⟨#[]⟩:ByteArray),(⟨#[]⟩:ByteArray)⟩:S39))) (Reps.c4 (show Kd.M k39 _ _ _ (⟨2,J++(⟨#[46,110,101,119]⟩:ByteArray),(⟨#[]⟩:ByteArray),a2⟩:S39) [.int .i64 2,.string (J++(⟨#[46,110,101,119]⟩:ByteArray)),.string (⟨#[]⟩:ByteArray),.string a2]from(k39_mkM _ _ _ (⟨2,J++(⟨#[46,110,101,119]⟩:ByteArray),(⟨#[]⟩:ByteArray),a2⟩:S39))) (Reps.c4 (show Kd.M k39 _ _ _ (⟨3,J++(⟨#[46,110,101,119]⟩:ByteArray),(⟨#[]⟩:ByteArray),(⟨#[]⟩:ByteArray)⟩:S39) [.int .i64 3,.string (J++(⟨#[46,110,101,119]⟩:ByteArray)),.string (⟨#[]⟩:ByteArray),.string (⟨#[]⟩:ByteArray)]from(k39_mkM _ _ _ (⟨3,J++(⟨#[46,110,101,119]⟩:ByteArray),(⟨#[]⟩:ByteArray),(⟨#[]⟩:ByteArray)⟩:S39))) (Reps.c4 (show Kd.M k39 _ _ _ (⟨4,J++(⟨#[46,110,101,119]⟩:ByteArray),J,(⟨#[]⟩:ByteArray)⟩:S39) [.int .i64 4,.string (J++(⟨#[46,110,101,119]⟩:ByteArray)),.string J,.string (⟨#[]⟩:ByteArray)]from(k39_mkM _ _ _ (⟨4,J++(⟨#[46,110,101,119]⟩:ByteArray),J,(⟨#[]⟩:ByteArray)⟩:S39))) (Reps.c4 (show Kd.M k39 _ _ _ (⟨6,(⟨#[]⟩:ByteArray),(⟨#[]⟩:ByteArray),(⟨#[]⟩:ByteArray)⟩:S39) [.int .i64 6,.string (⟨#[]⟩:ByteArray),.string (⟨#[]⟩:ByteArray),.string (⟨#[]⟩:ByteArray)]from(k39_mkM _ _ _ (⟨6,(⟨#[]⟩:ByteArray),(⟨#[]⟩:ByteArray),(⟨#[]⟩:ByteArray)⟩:S39))) (Reps.none _ _)))))));intro Ca Ct Ai hb hg_ hnew_;clear hg_ hnew_;(first|rw[←B_.o]at Ai|(simp only[Int.reduceToNat]at Ai;rw[←B_.o]at Ai));have Ak:=rl HB (Kd.R_new' Ai (Kd.R_lt (rpR A9.o)));replace A9:=re A9.o Ai hb;replace Z:=bv Z hb;replace HB:=bS HB hb;clear hb Ai;obtain⟨By,Bz,rfl⟩:=rs Ak)|((with_reducible refine gate_builtin (b:=.append) (xs:=#[.tmp 25,.tmp 41]) rfl ?_);at_builtin;refine Kd.R_append_rows k39 (w0:=w) w.heap.size rfl (.tmp 25) (.tmp 41) 48 39 (.agg #[(.int .i64 0),(.string ⟨#[]⟩),(.string ⟨#[]⟩),(.string ⟨#[]⟩)]) 56 rfl Tryz.underlying48 info39 rfl (by decide) (by omega) Bx Ad Ar _ _ _ (fun k_=>some k_≠(.slice By Ar.length Bz:Value).ownBlock) (fun _=>False) rfl rfl ?aO ?aR (fun _ _ h=>h) (fun _ h=>h.elim) ?aF ?aB ?aS ?aL ?_;(case aR=>exact ca (cR Ak.o));(case aB=>exact bl);(case aF=>exact(fun k_ hk=>Kd.fresh' (Kd.R_lt (rpR Ak.o)) k_ hk));(case aO=>exact(rpR (rM A9.o (fun _ hk=>hk.2))));(case aS=>exact(below_size bl));(case aL=>have:=BV.o;omega);intro Cu Cv ho hb hg hat;rw[←BW.o]at ho;replace Z:=aK (blk_grown (g:=AU) (o:=.cells #[.int .i64 U,.int .i64 X,.slice AA Y.length AB,.slice AC A0.length AD,.slice Ae D.length Af] 35 (0,0)) bk hg (Kd.R_ne A9.o Z.o (by decide)));replace Ak:=aK (Kd.R_after (ok:=(fun _=>True)) (rpR Ak.o) hg hat);replace HB:=aK (hb);have AL:=aK (ho);clear A9;clear ho hb hg hat))
    go_ret
    exact⟨_,fe,rpR (rM AL.o (fun _ hk=>trivial)),bl⟩
   ·rw[if_neg BE]at H;exact absurd H (by simp)
 ·rw[if_neg c4]at H;exact absurd H (by simp)
mutual
def spec_Fixed.j0:Nat→Int→Int→Bool→Option (ByteArray)
 | 0,_,_,_=>none
 |k+1,x0,x1,Cw=>if Cw=true then(some (⟨#[]⟩:ByteArray))else(spec_Fixed.l0 k x0 x1 (⟨#[]⟩:ByteArray) 0)
def spec_Fixed.l0:Nat→Int→Int→ByteArray→Int→Option (ByteArray)
 | 0,_,_,_,_=>none
 |k+1,x0,x1,x5,x6=>if x6<x1 then((some (([(Int.tmod x0 256)%256]:List Int):List Int)).bind fun AN=>(if(strOfNums AN).size+x5.size≤9223372036854775807 then(spec_Fixed.l0 k (wrap64 (Int.tdiv x0 256)) x1 ((strOfNums AN)++x5) (wrap64 (x6+1)))else(none)))else(if x0>0 then(some (⟨#[]⟩:ByteArray))else(some x5))
end
def spec_Fixed.f (k:Nat) (a0:Int) (J:Int):Option (ByteArray):=(spec_l1In.f J 1 7).bind fun BA=>(if BA=true then(spec_Fixed.j0 k a0 J (decide (a0<0)))else(spec_Fixed.j0 k a0 J true))
theorem spec_Fixed.calls (k:Nat) (a0:Int) (J:Int) (r:ByteArray) (w:World) (h:spec_Fixed.f k a0 J=some r) :
 Calls Tryz.prog 141 #[.int .i64 a0,.int .i64 J] w fun e w'=>e = .returned (.string r)∧Below w.heap.size w w':=by
 have HB:=aK (Below.refl w.heap.size w);have H:=h;unfold spec_Fixed.f at H;clear h;have BX:=aK H;clear H
 go_enter Tryz.func141,Tryz.ntmps141
 go_upto_region 1 with(fail)
 go_cut [13] (fun Cx wc=>∃(kq:Nat) (AV:Bool),Cx = .bool AV∧Aside0 (spec_Fixed.j0 kq a0 J AV=some r)∧Aside0 (kq≤k)∧Aside0 (Below w.heap.size w wc))
 case first=>
  have H:=BX.o;clear BX;obtain⟨BA,A4,H⟩:=bd H;by_cases c5:BA=true
  ·subst c5;replace H:=iT H;have H':=aK H;clear H;go_wp2_with (first|((with_reducible refine gC 99 rfl ?_);refine goesW Tryz.func99 ?_;(with_reducible refine(spec_l1In.calls J 1 7 _ _ A4.o).mono ?_);rintro e w' ⟨rfl,⟨nd,rfl⟩⟩;refine⟨_,rfl,?_⟩))
   go_meet
   case rel=>exact⟨_,(decide (a0<0)),fa,H',⟨by first|omega|exact Nat.le_refl _⟩,⟨bl⟩⟩
  ·replace c5:=bF c5;subst c5;replace H:=iF H;have H':=aK H;clear H;go_wp2_with (first|((with_reducible refine gC 99 rfl ?_);refine goesW Tryz.func99 ?_;(with_reducible refine(spec_l1In.calls J 1 7 _ _ A4.o).mono ?_);rintro e w' ⟨rfl,⟨nd,rfl⟩⟩;refine⟨_,rfl,?_⟩))
   go_meet
   case rel=>exact⟨_,(true),fa,H',⟨by first|omega|exact Nat.le_refl _⟩,⟨bl⟩⟩
 case rest=>
  clear BX;(try clear c1);(try clear p2);(try clear c5);obtain⟨kq,AV,rfl,HA,Cc,HB⟩:=hcut;cases kq with
  |zero=>exact absurd HA.o (by simp[spec_Fixed.j0])
  |succ Cd=>
   have H:=HA.o;clear HA;simp only[spec_Fixed.j0]at H;by_cases c6:AV=true
   ·subst c6;replace H:=iT H;obtain rfl:=oj H;go_wp2
    go_ret
    exact⟨fe,bl⟩
   ·replace c6:=bF c6;subst c6;replace H:=iF H;have H':=aK H;clear H;go_wp2
    go_loopg [0,5,6] Cd (fun kq v0 v5 v6 w'=>∃(As:Int) (AO:ByteArray) (AY:Int),v0 = .int .i64 As∧v5 = .string AO∧v6 = .int .i64 AY∧Aside0 (spec_Fixed.l0 kq As J AO AY=some r)∧Aside0 (kq≤Cd)∧Aside0 (Below w.heap.size w w'))
    case atStart=>exact⟨(a0),((⟨#[]⟩:ByteArray)),(0),fa,fa,fa,H',⟨Nat.le_refl _⟩,⟨bl⟩⟩
    case round=>
     clear H';(try clear c1);(try clear p2);(try clear c5);(try clear c6);(try clear p2);obtain⟨As,AO,AY,rfl,rfl,rfl,HA,Bq,HB⟩:=hrel;cases gk with
     |zero=>exact absurd HA.o (by simp[spec_Fixed.l0])
     |succ k2=>
      have H:=HA.o;clear HA;simp only[spec_Fixed.l0]at H;by_cases c7:AY<J
      ·rw[if_pos c7]at H;have Ce:=dt c7;clear c7;obtain⟨AN,Be⟩:=yy ([(Int.tmod As 256)%256]:List Int);rw[←Be]at H;(try rw[obs]at H)
       have BB:=aK Be;clear Be;by_cases c8:(strOfNums AN).size+AO.size≤9223372036854775807
       ·rw[if_pos c8]at H;have CG:=eq_true c8;have CH:=dt c8;(try have CI:(9223372036854775807<(strOfNums AN).size+AO.size)=False:=eq_false (Nat.not_lt.2 c8));have H':=aK H;clear H;go_wp2_with (first|((with_reducible refine gD 22 rfl ?_);refine Kd.R_lit (Kd.int .u8) _ 5 ?hg (N:=22) ?hd (xs:=([(Int.tmod As 256)%256]:List Int)) (inner:=[.int .u8 ((Int.tmod As 256)%256)]) (ok:=fun _=>True) (okp:=fun _=>True) ?hr ?hp (fun _ hk=>hk) trivial (Below.refl _ _) (Nat.le_refl _) (by simp) ?_;(case hd=>rfl);(case hg=>rfl);(case hr=>first|(go_simp;done)|(go_simp;rfl));(case hp=>exact(Reps.one (show Kd.M (Kd.int .u8) _ _ _ ((Int.tmod As 256)%256) [.int .u8 ((Int.tmod As 256)%256)]from rfl) (Reps.none _ _)));intro CL Ci AZ hb hg_ hnew_;clear hg_ hnew_;(first|rw[←BB.o]at AZ|(simp only[Int.reduceToNat]at AZ;rw[←BB.o]at AZ));have Cf:=rl HB AZ;replace HB:=bS HB hb;clear hb AZ;have Cy:=own_string (P:=Tryz.prog) Tryz.underlying169 Tryz.underlying5 Tryz.underlying9 (Kd.own_of_R Cf.o)))
        go_roundg k2
        case measure=>have:=Cc.o;have:=Bq.o;omega
        case rel=>exact⟨(wrap64 (Int.tdiv As 256)),((strOfNums AN)++AO),(wrap64 (AY+1)),fa,fa,fa,H',⟨by have:=Cc.o;have:=Bq.o;omega⟩,⟨bl⟩⟩
       ·rw[if_neg c8]at H;exact absurd H (by simp)
      ·rw[if_neg c7]at H;have Ce:=df c7;clear c7;by_cases Ag:As>0
       ·rw[if_pos Ag]at H;have A_:=dt Ag;clear Ag;obtain rfl:=oj H;go_wp2
        go_ret
        exact⟨fe,bl⟩
       ·rw[if_neg Ag]at H;have A_:=df Ag;clear Ag;obtain rfl:=oj H;go_wp2
        go_ret
        exact⟨fe,bl⟩
mutual
def spec_Crc.l0:Nat→ByteArray→Int→Int→Option (Int)
 | 0,_,_,_=>none
 |k+1,x0,x3,x4=>if x4<(x0.size:Int)then(if 0≤x4 then(spec_Crc.l1 k x0 (Go.bits .xor .i64 x3 (wrap64 (bt x0 x4))) x4 0)else(none))else(some (wrap64 (4294967295-x3)))
def spec_Crc.l1:Nat→ByteArray→Int→Int→Int→Option (Int)
 | 0,_,_,_,_=>none
 |k+1,x0,x3,x4,x5=>if x5<8 then(if(Int.tmod x3 2)=1 then(spec_Crc.l1 k x0 (Go.bits .xor .i64 (wrap64 (Int.tdiv x3 2)) 2197175160) x4 (wrap64 (x5+1)))else(spec_Crc.l1 k x0 (wrap64 (Int.tdiv x3 2)) x4 (wrap64 (x5+1))))else(spec_Crc.l0 k x0 x3 (wrap64 (x4+1)))
end
def spec_Crc.f (k:Nat) (U:ByteArray):Option (Int):=spec_Crc.l0 k U 4294967295 0
theorem spec_Crc.calls (k:Nat) (U:ByteArray) (r:Int) (w:World) (h:spec_Crc.f k U=some r) :
 Calls Tryz.prog 142 #[.string U] w fun e w'=>e = .returned (.int .i64 r)∧Drawn0 w w':=by
 have H:=h;unfold spec_Crc.f at H;clear h;have H':=aK H;clear H
 go_enter Tryz.func142,Tryz.ntmps142
 go_wp2
 go_loopg [3,4] k (fun kq v3 v4 w'=>∃(D:Int) (X:Int),v3 = .int .i64 D∧v4 = .int .i64 X∧Aside0 (spec_Crc.l0 kq U D X=some r)∧Aside0 (kq≤k)∧Drawn0 w w')
 case atStart=>exact⟨(4294967295),(0),fa,fa,H',⟨Nat.le_refl _⟩,fd⟩
 case round=>
  clear H';(try clear c1);obtain⟨D,X,rfl,rfl,HA,Ae,⟨m1,rfl⟩⟩:=hrel;cases gk with
  |zero=>exact absurd HA.o (by simp[spec_Crc.l0])
  |succ k1=>
   have H:=HA.o;clear HA;simp only[spec_Crc.l0]at H;by_cases c2:X<(U.size:Int)
   ·rw[if_pos c2]at H;have Ar:=dt c2;clear c2;by_cases c3:0≤X
    ·rw[if_pos c3]at H;have A9:=dt c3;clear c3;have H':=aK H;clear H;have AE:0≤(X:Int):=dT am;have AF:X<(U.size:Int):=dT am;have B9:=bt_at U X;replace AE:=eq_true AE;replace AF:=eq_true AF;go_wp2
     go_loopg [3,5] k1 (fun kq v3 v5 w'=>∃(Aa:Int) (Ad:Int),v3 = .int .i64 Aa∧v5 = .int .i64 Ad∧Aside0 (spec_Crc.l1 kq U Aa X Ad=some r)∧Aside0 (kq≤k1)∧Drawn0 w w')
     case atStart=>exact⟨(Go.bits .xor .i64 D (wrap64 (bt U X))),(0),fa,fa,H',⟨Nat.le_refl _⟩,fd⟩
     case round=>
      clear H';(try clear c1);(try clear c2);(try clear Ar);(try clear p2);(try clear c3);(try clear A9);(try clear AE);(try clear AF);(try clear B9);(try clear AE);(try clear AF);obtain⟨Aa,Ad,rfl,rfl,HA,Av,⟨m2,rfl⟩⟩:=hrel;cases gk with
      |zero=>exact absurd HA.o (by simp[spec_Crc.l1])
      |succ k2=>
       have H:=HA.o;clear HA;simp only[spec_Crc.l1]at H;by_cases c5:Ad<8
       ·rw[if_pos c5]at H;have Ba:=dt c5;clear c5;by_cases c6:(Int.tmod Aa 2)=1
        ·rw[if_pos c6]at H;have As:=bT c6;have AK:=bE c6;clear c6;have H':=aK H;clear H;go_wp2
         go_roundg k2
         case measure=>have:=Ae.o;have:=Av.o;omega
         case rel=>exact⟨(Go.bits .xor .i64 (wrap64 (Int.tdiv Aa 2)) 2197175160),(wrap64 (Ad+1)),fa,fa,H',⟨by have:=Ae.o;have:=Av.o;omega⟩,fd⟩
        ·rw[if_neg c6]at H;have As:=bN c6;have AK:=bQ c6;have H':=aK H;clear H;go_wp2
         go_roundg k2
         case measure=>have:=Ae.o;have:=Av.o;omega
         case rel=>exact⟨(wrap64 (Int.tdiv Aa 2)),(wrap64 (Ad+1)),fa,fa,H',⟨by have:=Ae.o;have:=Av.o;omega⟩,fd⟩
       ·rw[if_neg c5]at H;have Ba:=df c5;clear c5;have H':=aK H;clear H;go_wp2
        go_roundg k2
        case measure=>have:=Ae.o;have:=Av.o;omega
        case rel=>exact⟨(Aa),(wrap64 (X+1)),fa,fa,H',⟨by have:=Ae.o;have:=Av.o;omega⟩,fd⟩
    ·rw[if_neg c3]at H;exact absurd H (by simp)
   ·rw[if_neg c2]at H;have Ar:=df c2;clear c2;obtain rfl:=oj H;go_wp2
    go_ret
    exact⟨fa,fd⟩
def spec_Frame.j0:Nat→ByteArray→Bool→Option (ByteArray)
 | 0,_,_=>none
 |k+1,x0,Bi=>if Bi=true then(some (⟨#[]⟩:ByteArray))else((spec_Fixed.f k (x0.size:Int) 4).bind fun J=>(if J.size+x0.size≤9223372036854775807 then((spec_Crc.f k (J++x0)).bind fun At=>((spec_Fixed.f k At 4).bind fun A6=>(if J.size+A6.size≤9223372036854775807 then(if(J.size+A6.size)+x0.size≤9223372036854775807 then(some ((J++A6)++x0))else(none))else(none))))else(none)))
def spec_Frame.f (k:Nat) (U:ByteArray):Option (ByteArray):=if(U.size:Int)=0 then(spec_Frame.j0 k U true)else(spec_Frame.j0 k U (decide ((U.size:Int)>2000)))
theorem spec_Frame.calls (k:Nat) (U:ByteArray) (r:ByteArray) (w:World) (h:spec_Frame.f k U=some r) :
 Calls Tryz.prog 132 #[.string U] w fun e w'=>e = .returned (.string r)∧Below w.heap.size w w':=by
 have HB:=aK (Below.refl w.heap.size w);have H:=h;unfold spec_Frame.f at H;clear h;have AN:=aK H;clear H
 go_enter Tryz.func132,Tryz.ntmps132
 go_upto_region 1 with(fail)
 go_cut [11] (fun Bj wc=>∃(kq:Nat) (Af:Bool),Bj = .bool Af∧Aside0 (spec_Frame.j0 kq U Af=some r)∧Aside0 (kq≤k)∧Aside0 (Below w.heap.size w wc))
 case first=>
  have H:=AN.o;clear AN;by_cases c3:(U.size:Int)=0
  ·rw[if_pos c3]at H;have A9:=bT c3;have AL:=bE c3;clear c3;(first|rw[A9]|(simp only[i64_w,i32_w];rw[A9])|skip);have H':=aK H;clear H;go_wp2
   go_meet
   case rel=>exact⟨_,(true),fa,H',⟨by first|omega|exact Nat.le_refl _⟩,⟨bl⟩⟩
  ·rw[if_neg c3]at H;have A9:=bN c3;have AL:=bQ c3;(first|rw[A9]|(simp only[i64_w,i32_w];rw[A9])|skip);have H':=aK H;clear H;go_wp2
   go_meet
   case rel=>exact⟨_,(decide ((U.size:Int)>2000)),fa,H',⟨by first|omega|exact Nat.le_refl _⟩,⟨bl⟩⟩
 case rest=>
  clear AN;(try clear c1);(try clear p2);(try clear c3);(try clear A9);(try clear AL);obtain⟨kq,Af,rfl,HA,B_,HB⟩:=hcut;cases kq with
  |zero=>exact absurd HA.o (by simp[spec_Frame.j0])
  |succ AO=>
   have H:=HA.o;clear HA;simp only[spec_Frame.j0]at H;by_cases c4:Af=true
   ·subst c4;replace H:=iT H;obtain rfl:=oj H;go_wp2
    go_ret
    exact⟨fe,bl⟩
   ·replace c4:=bF c4;subst c4;replace H:=iF H;obtain⟨J,A5,H⟩:=bd H;by_cases c6:J.size+U.size≤9223372036854775807
    ·rw[if_pos c6]at H;have As:=eq_true c6;have AK:=dt c6;(try have Bv:(9223372036854775807<J.size+U.size)=False:=eq_false (Nat.not_lt.2 c6));obtain⟨At,A7,H⟩:=bd H;obtain⟨A6,A8,H⟩:=bd H;by_cases c9:J.size+A6.size≤9223372036854775807
     ·rw[if_pos c9]at H;have Bw:=eq_true c9;have Bx:=dt c9;(try have By:(9223372036854775807<J.size+A6.size)=False:=eq_false (Nat.not_lt.2 c9));by_cases c10:(J.size+A6.size)+U.size≤9223372036854775807
      ·rw[if_pos c10]at H;have Bk:=eq_true c10;have Bl:=dt c10;(try have Bm:(9223372036854775807<(J.size+A6.size)+U.size)=False:=eq_false (Nat.not_lt.2 c10));obtain rfl:=oj H;go_wp2_with (first|((with_reducible refine gC 141 rfl ?_);refine goesW Tryz.func141 ?_;(with_reducible refine(spec_Fixed.calls AO (U.size:Int) 4 J _ A5.o).mono ?_);rintro e AP ⟨rfl,hb⟩;refine⟨_,rfl,?_⟩;replace HB:=bS HB hb;(try clear hb))|((with_reducible refine gC 142 rfl ?_);refine goesW Tryz.func142 ?_;(with_reducible refine(spec_Crc.calls AO (J++U) At _ A7.o).mono ?_);rintro e w' ⟨rfl,⟨nd,rfl⟩⟩;refine⟨_,rfl,?_⟩)|((with_reducible refine gC 141 rfl ?_);refine goesW Tryz.func141 ?_;(with_reducible refine(spec_Fixed.calls AO At 4 A6 _ A8.o).mono ?_);rintro e BA ⟨rfl,hb⟩;refine⟨_,rfl,?_⟩;replace HB:=bS HB hb;(try clear hb)))
       go_ret
       exact⟨fe,bl⟩
      ·rw[if_neg c10]at H;exact absurd H (by simp)
     ·rw[if_neg c9]at H;exact absurd H (by simp)
    ·rw[if_neg c6]at H;exact absurd H (by simp)
def spec_RecOk.f (Y:Int) (Z:Int) (A0:Int) (A1:Int) (Ab:ByteArray):Option (Bool):=if Y=1 then((spec_l1In.f Z 0 100000).bind fun Aw=>(if Aw=true then((spec_l1In.f A1 (-1) 4).bind fun Ax=>(if Ax=true then(if A0=0 then(some (Ab.toList==([]:List UInt8)))else(some false))else(some false)))else(some false)))else(if Y=2 then((spec_l1In.f Z 1 100000).bind fun Ay=>(if Ay=true then((spec_l1In.f A0 1 100000).bind fun Az=>(if Az=true then(if A1=0 then(some (decide ((Ab.size:Int)≤900)))else(some false))else(some false)))else(some false)))else(if Y=3 then(if Z=0 then((spec_l1In.f A0 1 100000).bind fun A_=>(if A_=true then(if A1=0 then(some (Ab.toList==([]:List UInt8)))else(some false))else(some false)))else(some false))else(if Y=4 then((spec_l5Based.f A0 Z).bind fun AA=>(if AA=true then(if A1=0 then(some (Ab.toList==([]:List UInt8)))else(some false))else(some false)))else(some false))))
theorem spec_RecOk.z1 {p:Prop} (h:p:=by
 go_enter Tryz.func172,Tryz.ntmps172
 go_wp2_with (first|((with_reducible refine gD 1 rfl ?_);(try (refine gate_guard rfl ?_;dsimp only));refine boxW ?_;intro AQ hg AP hbox hb;have Ah:=aK hbox;have AR:=gW HB hg;replace HB:=bS HB hb;clear hb hbox hg;have:=cf5 Ah)|((with_reducible refine gC 99 rfl ?_);refine goesW Tryz.func99 ?_;(with_reducible refine(spec_l1In.calls Z 0 100000 _ _ A3.o).mono ?_);rintro e w' ⟨rfl,⟨nd,rfl⟩⟩;refine⟨_,rfl,?_⟩)|(go_at_call 99;(with_reducible refine(spec_l1In.calls A1 (-1) 4 _ _ A5.o).mono ?_);rintro e w' ⟨rfl,⟨nd,rfl⟩⟩)|(go_at_call 99;(with_reducible refine(spec_l1In.calls A0 1 100000 _ _ Bn.o).mono ?_);rintro e w' ⟨rfl,⟨nd,rfl⟩⟩)|((with_reducible refine gC 131 rfl ?_);refine goesW Tryz.func131 ?_;(with_reducible refine(spec_l5Based.calls A0 Z _ _ Bo.o).mono ?_);rintro e w' ⟨rfl,⟨nd,rfl⟩⟩;refine⟨_,rfl,?_⟩))
 go_ret
 exact⟨fe,bl⟩):p:=h
theorem spec_RecOk.z2 {p:Prop} (h:p:=by
 go_enter Tryz.func172,Tryz.ntmps172
 go_wp2_with (first|((with_reducible refine gD 1 rfl ?_);(try (refine gate_guard rfl ?_;dsimp only));refine boxW ?_;intro AQ hg AP hbox hb;have Ah:=aK hbox;have AR:=gW HB hg;replace HB:=bS HB hb;clear hb hbox hg;have:=cf5 Ah)|((with_reducible refine gC 99 rfl ?_);refine goesW Tryz.func99 ?_;(with_reducible refine(spec_l1In.calls Z 1 100000 _ _ Bp.o).mono ?_);rintro e w' ⟨rfl,⟨nd,rfl⟩⟩;refine⟨_,rfl,?_⟩)|(go_at_call 99;(with_reducible refine(spec_l1In.calls A0 1 100000 _ _ Bq.o).mono ?_);rintro e w' ⟨rfl,⟨nd,rfl⟩⟩))
 go_ret
 exact⟨fe,bl⟩):p:=h
theorem spec_RecOk.calls (Y:Int) (Z:Int) (A0:Int) (A1:Int) (Ab:ByteArray) (r:Bool) (w:World) (h:spec_RecOk.f Y Z A0 A1 Ab=some r) :
 Calls Tryz.prog 172 #[.agg #[.int .i64 Y,.int .i64 Z,.int .i64 A0,.int .i64 A1,.string Ab]] w fun e w'=>e = .returned (.bool r)∧Below w.heap.size w w':=by
 have Br:=Tryz.underlying161;have HB:=aK (Below.refl w.heap.size w);have H:=h;unfold spec_RecOk.f at H;clear h;by_cases c2:Y=1
 ·rw[if_pos c2]at H;have Ar:=bT c2;have Bb:=bE c2;clear c2;obtain⟨Aw,A3,H⟩:=bd H;by_cases c4:Aw=true
  ·subst c4;replace H:=iT H;obtain⟨Ax,A5,H⟩:=bd H;by_cases c6:Ax=true
   ·subst c6;replace H:=iT H;by_cases c7:A0=0
    ·rw[if_pos c7]at H;have Bc:=bT c7;have Bd:=bE c7;clear c7;obtain rfl:=oj H
     exact spec_RecOk.z1
    ·rw[if_neg c7]at H;have Bc:=bN c7;have Bd:=bQ c7;obtain rfl:=oj H
     exact spec_RecOk.z1
   ·replace c6:=bF c6;subst c6;replace H:=iF H;obtain rfl:=oj H
    exact spec_RecOk.z1
  ·replace c4:=bF c4;subst c4;replace H:=iF H;obtain rfl:=oj H
   exact spec_RecOk.z1
 ·rw[if_neg c2]at H;have Ar:=bN c2;have Bb:=bQ c2;by_cases Ai:Y=2
  ·rw[if_pos Ai]at H;have AS:=bT Ai;have AT:=bE Ai;clear Ai;obtain⟨Ay,Bp,H⟩:=bd H;by_cases AG:Ay=true
   ·subst AG;replace H:=iT H;obtain⟨Az,Bq,H⟩:=bd H;by_cases AH:Az=true
    ·subst AH;replace H:=iT H;by_cases Aj:A1=0
     ·rw[if_pos Aj]at H;have AU:=bT Aj;have AV:=bE Aj;clear Aj;obtain rfl:=oj H
      exact spec_RecOk.z2
     ·rw[if_neg Aj]at H;have AU:=bN Aj;have AV:=bQ Aj;obtain rfl:=oj H
      exact spec_RecOk.z2
    ·replace AH:=bF AH;subst AH;replace H:=iF H;obtain rfl:=oj H
     exact spec_RecOk.z2
   ·replace AG:=bF AG;subst AG;replace H:=iF H;obtain rfl:=oj H
    exact spec_RecOk.z2
  ·rw[if_neg Ai]at H;have AS:=bN Ai;have AT:=bQ Ai;by_cases Ak:Y=3
   ·rw[if_pos Ak]at H;have AW:=bT Ak;have AX:=bE Ak;clear Ak;by_cases Al:Z=0
    ·rw[if_pos Al]at H;have AY:=bT Al;have AZ:=bE Al;clear Al;obtain⟨A_,Bn,H⟩:=bd H;by_cases AI:A_=true
     ·subst AI;replace H:=iT H;by_cases Am:A1=0
      ·rw[if_pos Am]at H;have B0:=bT Am;have B1:=bE Am;clear Am;obtain rfl:=oj H
       exact spec_RecOk.z1
      ·rw[if_neg Am]at H;have B0:=bN Am;have B1:=bQ Am;obtain rfl:=oj H
       exact spec_RecOk.z1
     ·replace AI:=bF AI;subst AI;replace H:=iF H;obtain rfl:=oj H
      exact spec_RecOk.z1
    ·rw[if_neg Al]at H;have AY:=bN Al;have AZ:=bQ Al;obtain rfl:=oj H
     exact spec_RecOk.z1
   ·rw[if_neg Ak]at H;have AW:=bN Ak;have AX:=bQ Ak;by_cases An:Y=4
    ·rw[if_pos An]at H;have B2:=bT An;have B3:=bE An;clear An;obtain⟨AA,Bo,H⟩:=bd H;by_cases AJ:AA=true
     ·subst AJ;replace H:=iT H;by_cases Ao:A1=0
      ·rw[if_pos Ao]at H;have B4:=bT Ao;have B5:=bE Ao;clear Ao;obtain rfl:=oj H
       exact spec_RecOk.z1
      ·rw[if_neg Ao]at H;have B4:=bN Ao;have B5:=bQ Ao;obtain rfl:=oj H
       exact spec_RecOk.z1
     ·replace AJ:=bF AJ;subst AJ;replace H:=iF H;obtain rfl:=oj H
      exact spec_RecOk.z1
    ·rw[if_neg An]at H;have B2:=bN An;have B3:=bQ An;obtain rfl:=oj H
     exact spec_RecOk.z1
def spec_Var.l0:Nat→Int→List Int→Option (ByteArray)
 | 0,_,_=>none
 |k+1,x0,x3=>if x0≥128 then(if x3.length<140737488355328 then(spec_Var.l0 k (wrap64 (Int.tdiv x0 128)) (x3 ++ [(wrap64 (128+(Int.tmod x0 128)))%256]))else(none))else(if x3.length<140737488355328 then(some (strOfNums (x3 ++ [(x0)%256])))else(none))
def spec_Var.f (k:Nat) (U:Int):Option (ByteArray):=(spec_l1In.f U 0 562949953421311).bind fun AB=>(if AB=true then(spec_Var.l0 k U (([]:List Int)))else(some (⟨#[]⟩:ByteArray)))
theorem spec_Var.calls (k:Nat) (U:Int) (r:ByteArray) (w:World) (h:spec_Var.f k U=some r) :
 Calls Tryz.prog 173 #[.int .i64 U] w fun e w'=>e = .returned (.string r)∧Below w.heap.size w w':=by
 have HB:=aK (Below.refl w.heap.size w);have H:=h;unfold spec_Var.f at H;clear h;obtain⟨AB,A2,H⟩:=bd H;by_cases c3:AB=true
 ·subst c3;replace H:=iT H;obtain⟨AM,Ac⟩:∃y_:List Int,y_=(([]:List Int)):=⟨_,rfl⟩;replace H:(spec_Var.l0 k U AM)=some r:=by first|(rw[Ac];with_reducible exact H)|(have B6:=(Option.bind_some _ _).symm.trans H;rw[Ac];with_reducible exact B6)|(have B6:=(Option.bind_some _ _).symm.trans H;with_reducible exact B6)|with_reducible exact H|(rw[Ac];exact H)|exact H
  have AC:=aK Ac;clear Ac;have H':=aK H;clear H
  go_enter Tryz.func173,Tryz.ntmps173
  go_wp2_with (first|((with_reducible refine gC 99 rfl ?_);refine goesW Tryz.func99 ?_;(with_reducible refine(spec_l1In.calls U 0 562949953421311 _ _ A2.o).mono ?_);rintro e w' ⟨rfl,⟨nd,rfl⟩⟩;refine⟨_,rfl,?_⟩)|((with_reducible refine gD 7 rfl ?_);refine Kd.R_lit (Kd.int .u8) _ 5 ?hg (N:=7) ?hd (xs:=([]:List Int)) (inner:=[]) (ok:=fun _=>True) (okp:=fun _=>True) ?hr ?hp (fun _ hk=>hk) trivial (Below.refl _ _) (Nat.le_refl _) (by simp) ?_;(case hd=>rfl);(case hg=>rfl);(case hr=>first|(go_simp;done)|(go_simp;rfl));(case hp=>exact(Reps.none _ _));intro BB AP Ag hb hg_ hnew_;clear hg_ hnew_;(first|rw[←AC.o]at Ag|(simp only[Int.reduceToNat]at Ag;rw[←AC.o]at Ag));have Be:=rl HB Ag;replace HB:=bS HB hb;clear hb Ag))
  go_loopg [0,3] k (fun kq v0 v3 w'=>∃(A4:Int) (D:List Int),v0 = .int .i64 A4∧Aside0 (spec_Var.l0 kq A4 D=some r)∧Aside0 (kq≤k)∧Aside0 (Kd.R (Kd.int .u8) 5 w' w.heap.size (fun _=>True) v3 D)∧Aside0 (Below w.heap.size w w'))
  case atStart=>exact⟨(U),(AM),fa,H',⟨Nat.le_refl _⟩,⟨rpR Be.o⟩,⟨bl⟩⟩
  case round=>
   clear H';(try clear c1);(try clear p2);(try clear c3);obtain⟨A4,D,rfl,HA,Ae,Au,HB⟩:=hrel;cases gk with
   |zero=>exact absurd HA.o (by simp[spec_Var.l0])
   |succ k1=>
    have H:=HA.o;clear HA;simp only[spec_Var.l0]at H;by_cases c6:A4≥128
    ·rw[if_pos c6]at H;have As:=dt c6;clear c6;by_cases c7:D.length<140737488355328
     ·rw[if_pos c7]at H;have Bf:=aK c7;clear c7;obtain⟨Bg,Ap⟩:=yy (D ++ [(wrap64 (128+(Int.tmod A4 128)))%256]);rw[←Ap]at H;(try rw[obs]at H)
      have B7:=aK Ap;clear Ap;have H':=aK H;clear H;go_wp2_with (first|((with_reducible refine gate_builtin (b:=.append) (xs:=#[.tmp 10,.tmp 15]) rfl ?_);at_builtin;refine Kd.R_append (Kd.int .u8) (w0:=w) w.heap.size rfl (.tmp 10) (.tmp 15) 169 5 (.int .u8 0) 1 rfl Tryz.underlying169 info5 rfl (by decide) (by omega) u3 D ((wrap64 (128+(Int.tmod A4 128)))%256) [.int .u8 ((wrap64 (128+(Int.tmod A4 128)))%256)] (fun _=>True) (fun _=>False) rfl rfl ?aP (fun _ hk=>hk.elim) ?aF ?aO ?aB ?aS ?aL ?_;(case aP=>exact rfl);(case aB=>exact bl);(case aF=>exact(fun _ _=>trivial));(case aO=>exact(rpR Au.o));(case aS=>exact(below_size bl));(case aL=>have:=Bf.o;omega);intro Bs Bt ho hb hg hat;rw[←B7.o]at ho;replace HB:=aK (hb);have AD:=aK (ho);clear Au;clear ho hb hg hat))
      go_roundg k1
      case measure=>have:=Ae.o;omega
      case rel=>exact⟨(wrap64 (Int.tdiv A4 128)),(Bg),fa,H',⟨by have:=Ae.o;omega⟩,⟨rpR AD.o⟩,⟨bl⟩⟩
     ·rw[if_neg c7]at H;exact absurd H (by simp)
    ·rw[if_neg c6]at H;have As:=df c6;clear c6;by_cases c9:D.length<140737488355328
     ·rw[if_pos c9]at H;have Bh:=aK c9;clear c9;obtain⟨Bz,Aq⟩:=yy (D ++ [(A4)%256]);rw[←Aq]at H;(try rw[obs]at H)
      have B8:=aK Aq;clear Aq;obtain rfl:=oj H;go_wp2_with (first|((with_reducible refine gate_builtin (b:=.append) (xs:=#[.tmp 19,.tmp 22]) rfl ?_);at_builtin;refine Kd.R_append (Kd.int .u8) (w0:=w) w.heap.size rfl (.tmp 19) (.tmp 22) 169 5 (.int .u8 0) 1 rfl Tryz.underlying169 info5 rfl (by decide) (by omega) u3 D ((A4)%256) [.int .u8 ((A4)%256)] (fun _=>True) (fun _=>False) rfl rfl ?aP (fun _ hk=>hk.elim) ?aF ?aO ?aB ?aS ?aL ?_;(case aP=>exact rfl);(case aB=>exact bl);(case aF=>exact(fun _ _=>trivial));(case aO=>exact(rpR Au.o));(case aS=>exact(below_size bl));(case aL=>have:=Bh.o;omega);intro Bs Bt ho hb hg hat;rw[←B8.o]at ho;replace HB:=aK (hb);have AD:=aK (ho);clear Au;clear ho hb hg hat;have Bu:=own_string (P:=Tryz.prog) Tryz.underlying169 Tryz.underlying5 Tryz.underlying9 (Kd.own_of_R AD.o)))
      go_ret
      exact⟨fe,bl⟩
     ·rw[if_neg c9]at H;exact absurd H (by simp)
 ·replace c3:=bF c3;subst c3;replace H:=iF H;obtain rfl:=oj H
  go_enter Tryz.func173,Tryz.ntmps173
  go_wp2_with (first|((with_reducible refine gC 99 rfl ?_);refine goesW Tryz.func99 ?_;(with_reducible refine(spec_l1In.calls U 0 562949953421311 _ _ A2.o).mono ?_);rintro e w' ⟨rfl,⟨nd,rfl⟩⟩;refine⟨_,rfl,?_⟩))
  go_ret
  exact⟨fe,bl⟩
def spec_ShowRec.f (k:Nat) (U:Int) (X:Int) (Y:Int) (Z:Int) (A0:ByteArray):Option (ByteArray):=(spec_RecOk.f U X Y Z A0).bind fun A_=>(if A_=true then((some (([(U)%256]:List Int):List Int)).bind fun A3=>((spec_Var.f k X).bind fun A5=>(if(strOfNums A3).size+A5.size≤9223372036854775807 then((spec_Var.f k Y).bind fun A7=>(if((strOfNums A3).size+A5.size)+A7.size≤9223372036854775807 then((spec_Var.f k (wrap64 (Z+1))).bind fun Ah=>(if(((strOfNums A3).size+A5.size)+A7.size)+Ah.size≤9223372036854775807 then(if((((strOfNums A3).size+A5.size)+A7.size)+Ah.size)+A0.size≤9223372036854775807 then(some (((((strOfNums A3)++A5)++A7)++Ah)++A0))else(none))else(none)))else(none)))else(none))))else(some (⟨#[]⟩:ByteArray)))
def spec_ShowRec.T3:Bool×List (List Nat×List Nat):=(true,[([],[]),([0],[0]),([1],[1]),([2],[2]),([3],[3]),([],[]),([5],[5]),([6],[6]),([4,7],[4,7]),([],[]),([9],[9]),([10,7],[10]),([8,11],[8,11]),([],[]),([13],[13]),([14],[14]),([15,11],[15]),([12,16],[12,16]),([],[]),([18],[18]),([17,19],[17,19]),([20,16,0,1,2,3,4,5,6,7,8,9,10,11,12,13,14,15,16,17,18,19,20],[20])])
def spec_ShowRec.B3:List Nat:=[0,1,3,7,15,0,32,96,255,0,512,1760,4095,0,8192,24576,61152,131071,0,262144,1048575,2097151]
theorem spec_ShowRec.tab3:rtab .any (opsOf Tryz.f133 3)=spec_ShowRec.T3:=by kernel_rfl
theorem spec_ShowRec.bits3:waitsOk spec_ShowRec.T3.2 spec_ShowRec.B3=true:=by kernel_rfl
theorem spec_ShowRec.calls (k:Nat) (U:Int) (X:Int) (Y:Int) (Z:Int) (A0:ByteArray) (r:ByteArray) (w:World) (h:spec_ShowRec.f k U X Y Z A0=some r) :
 Calls Tryz.prog 133 #[.agg #[.int .i64 U,.int .i64 X,.int .i64 Y,.int .i64 Z,.string A0]] w fun e w'=>e = .returned (.string r)∧Below w.heap.size w w':=by
 have AJ:=Tryz.underlying161;have HB:=aK (Below.refl w.heap.size w);have H:=h;unfold spec_ShowRec.f at H;clear h;obtain⟨A_,A2,H⟩:=bd H;by_cases c3:A_=true
 ·subst c3;replace H:=iT H;obtain⟨A3,Ax⟩:=yy ([(U)%256]:List Int);rw[←Ax]at H;(try rw[obs]at H)
  have Al:=aK Ax;clear Ax;obtain⟨A5,A4,H⟩:=bd H;by_cases c5:(strOfNums A3).size+A5.size≤9223372036854775807
  ·rw[if_pos c5]at H;have AR:=eq_true c5;have AS:=dt c5;(try have AT:(9223372036854775807<(strOfNums A3).size+A5.size)=False:=eq_false (Nat.not_lt.2 c5));obtain⟨A7,A6,H⟩:=bd H;by_cases c7:((strOfNums A3).size+A5.size)+A7.size≤9223372036854775807
   ·rw[if_pos c7]at H;have AU:=eq_true c7;have AV:=dt c7;(try have AW:(9223372036854775807<((strOfNums A3).size+A5.size)+A7.size)=False:=eq_false (Nat.not_lt.2 c7));obtain⟨Ah,A8,H⟩:=bd H;by_cases c9:(((strOfNums A3).size+A5.size)+A7.size)+Ah.size≤9223372036854775807
    ·rw[if_pos c9]at H;have AX:=eq_true c9;have AY:=dt c9;(try have AZ:(9223372036854775807<(((strOfNums A3).size+A5.size)+A7.size)+Ah.size)=False:=eq_false (Nat.not_lt.2 c9));by_cases c10:((((strOfNums A3).size+A5.size)+A7.size)+Ah.size)+A0.size≤9223372036854775807
     ·rw[if_pos c10]at H;have AK:=eq_true c10;have AL:=dt c10;(try have AM:(9223372036854775807<((((strOfNums A3).size+A5.size)+A7.size)+Ah.size)+A0.size)=False:=eq_false (Nat.not_lt.2 c10));obtain rfl:=oj H
      go_enter Tryz.func133,Tryz.ntmps133
      (try go_wp2_with (first|((with_reducible refine gD 1 rfl ?_);refine boxW ?_;intro D hg AN hbox hb;have J:=aK hbox;have AC:=gW HB hg;replace HB:=bS HB hb;clear hb hbox hg;have:=cf5 J)|((with_reducible refine gC 172 rfl ?_);refine goesW Tryz.func172 ?_;(with_reducible refine(spec_RecOk.calls U X Y Z A0 _ _ A2.o).mono ?_);rintro e AI ⟨rfl,hb⟩;refine⟨_,rfl,?_⟩;replace J:=bv J hb;replace HB:=bS HB hb;(try clear hb))));replace J:=dB J;replace HB:=dW HB;refine start_ (n:=22) (S:=fun w'=>w'.cell? ⟨D,0,none⟩=some (.int .i64 U)∧w'.cell? ⟨D,1,none⟩=some (.int .i64 X)∧w'.cell? ⟨D,2,none⟩=some (.int .i64 Y)∧w'.cell? ⟨D,3,none⟩=some (.int .i64 Z)∧w'.cell? ⟨D,4,none⟩=some (.string A0)) (ds:=[]) (bo 22 0) (by kernel_rfl) rfl rfl hh (fun hHeld=>?_);refine with_tabW spec_ShowRec.tab3 spec_ShowRec.bits3 (fun HT_ HW_=>?_);generalize AI.drew=B0 at J HB hHeld ⊢;refine pV 0 6 (bo 22 1) ?_;refine pV 5 11 (bo 22 33) ?_;refine pV 9 15 (bo 22 545) ?_;refine pV 13 19 (bo 22 8737) ?_;refine pV 18 24 (bo 22 270881) ?_
      refine tV 1 7 (bo 22 270883) ?_;refine pV 2 8 (bo 22 270887) ?_;refine tV 6 12 (bo 22 270951) ?_;refine tV 10 16 (bo 22 271975) ?_;refine tV 14 20 (bo 22 288359) ?_;refine pV 15 21 (bo 22 321127) ?_;refine tV 19 25 (bo 22 845415) ?_;refine join_ (σ:=Value) 3 (bo 22 917503) (fun s_=>[(9,s_),(10,.string (strOfNums A3)),(13,.string A5),(17,.string A7),(22,.string Ah),(14,.string ((strOfNums A3)++A5)),(18,.string (((strOfNums A3)++A5)++A7))]) (fun s_ w'=>(w'.cell? ⟨D,0,none⟩=some (.int .i64 U)∧w'.cell? ⟨D,1,none⟩=some (.int .i64 X)∧w'.cell? ⟨D,2,none⟩=some (.int .i64 Y)∧w'.cell? ⟨D,3,none⟩=some (.int .i64 Z)∧w'.cell? ⟨D,4,none⟩=some (.string A0))∧(Kd.R (Kd.int .u8) 5 w' w.heap.size (fun _=>True) s_ A3)∧(w'.heap[D]? = some (.cells #[.int .i64 U,.int .i64 X,.int .i64 Y,.int .i64 Z,.string A0] 161 (0,0)))∧(Below w.heap.size w w')) ?_ ?_
      rotate_left
      ·intro Am;refine join_ (σ:=Value) 4 (bo 22 851967) (fun s_=>[(9,s_),(10,.string (strOfNums A3)),(13,.string A5),(17,.string A7),(14,.string ((strOfNums A3)++A5)),(18,.string (((strOfNums A3)++A5)++A7))]) (fun s_ w'=>(w'.cell? ⟨D,0,none⟩=some (.int .i64 U)∧w'.cell? ⟨D,1,none⟩=some (.int .i64 X)∧w'.cell? ⟨D,2,none⟩=some (.int .i64 Y)∧w'.cell? ⟨D,3,none⟩=some (.int .i64 Z)∧w'.cell? ⟨D,4,none⟩=some (.string A0))∧(Kd.R (Kd.int .u8) 5 w' w.heap.size (fun _=>True) s_ A3)∧(w'.heap[D]? = some (.cells #[.int .i64 U,.int .i64 X,.int .i64 Y,.int .i64 Z,.string A0] 161 (0,0)))∧(Below w.heap.size w w')) ?_ ?_
       rotate_left
       ·intro Ao;refine join_ (σ:=Value) 6 (bo 22 913135) (fun s_=>[(9,s_),(13,.string A5),(17,.string A7),(22,.string Ah)]) (fun s_ w'=>(w'.cell? ⟨D,0,none⟩=some (.int .i64 U)∧w'.cell? ⟨D,1,none⟩=some (.int .i64 X)∧w'.cell? ⟨D,2,none⟩=some (.int .i64 Y)∧w'.cell? ⟨D,3,none⟩=some (.int .i64 Z)∧w'.cell? ⟨D,4,none⟩=some (.string A0))∧(Kd.R (Kd.int .u8) 5 w' w.heap.size (fun _=>True) s_ A3)∧(w'.heap[D]? = some (.cells #[.int .i64 U,.int .i64 X,.int .i64 Y,.int .i64 Z,.string A0] 161 (0,0)))∧(Below w.heap.size w w')) ?_ ?_
        rotate_left
        ·intro An;refine join_ (σ:=Value) 6 (bo 22 845823) (fun s_=>[(9,s_),(10,.string (strOfNums A3)),(13,.string A5),(14,.string ((strOfNums A3)++A5))]) (fun s_ w'=>(w'.cell? ⟨D,0,none⟩=some (.int .i64 U)∧w'.cell? ⟨D,1,none⟩=some (.int .i64 X)∧w'.cell? ⟨D,2,none⟩=some (.int .i64 Y)∧w'.cell? ⟨D,3,none⟩=some (.int .i64 Z)∧w'.cell? ⟨D,4,none⟩=some (.string A0))∧(Kd.R (Kd.int .u8) 5 w' w.heap.size (fun _=>True) s_ A3)∧(w'.heap[D]? = some (.cells #[.int .i64 U,.int .i64 X,.int .i64 Y,.int .i64 Z,.string A0] 161 (0,0)))∧(Below w.heap.size w w')) ?_ ?_
         rotate_left
         ·intro Ar;refine join_ (σ:=Value) 7 (bo 22 847599) (fun s_=>[(9,s_),(13,.string A5),(17,.string A7)]) (fun s_ w'=>(w'.cell? ⟨D,0,none⟩=some (.int .i64 U)∧w'.cell? ⟨D,1,none⟩=some (.int .i64 X)∧w'.cell? ⟨D,2,none⟩=some (.int .i64 Y)∧w'.cell? ⟨D,3,none⟩=some (.int .i64 Z)∧w'.cell? ⟨D,4,none⟩=some (.string A0))∧(Kd.R (Kd.int .u8) 5 w' w.heap.size (fun _=>True) s_ A3)∧(w'.heap[D]? = some (.cells #[.int .i64 U,.int .i64 X,.int .i64 Y,.int .i64 Z,.string A0] 161 (0,0)))∧(Below w.heap.size w w')) ?_ ?_
          rotate_left
          ·intro Ap;refine join_ (σ:=Unit) 7 (bo 22 913127) (fun s_=>[(13,.string A5),(17,.string A7),(22,.string Ah)]) (fun s_ w'=>(w'.cell? ⟨D,0,none⟩=some (.int .i64 U)∧w'.cell? ⟨D,1,none⟩=some (.int .i64 X)∧w'.cell? ⟨D,2,none⟩=some (.int .i64 Y)∧w'.cell? ⟨D,3,none⟩=some (.int .i64 Z)∧w'.cell? ⟨D,4,none⟩=some (.string A0))∧(w'.heap[D]? = some (.cells #[.int .i64 U,.int .i64 X,.int .i64 Y,.int .i64 Z,.string A0] 161 (0,0)))∧(Below w.heap.size w w')) ?_ ?_
           rotate_left
           ·intro Ay;refine join_ (σ:=Value) 8 (bo 22 845439) (fun s_=>[(9,s_),(10,.string (strOfNums A3))]) (fun s_ w'=>(w'.cell? ⟨D,0,none⟩=some (.int .i64 U)∧w'.cell? ⟨D,1,none⟩=some (.int .i64 X)∧w'.cell? ⟨D,2,none⟩=some (.int .i64 Y)∧w'.cell? ⟨D,3,none⟩=some (.int .i64 Z)∧w'.cell? ⟨D,4,none⟩=some (.string A0))∧(Kd.R (Kd.int .u8) 5 w' w.heap.size (fun _=>True) s_ A3)∧(w'.heap[D]? = some (.cells #[.int .i64 U,.int .i64 X,.int .i64 Y,.int .i64 Z,.string A0] 161 (0,0)))∧(Below w.heap.size w w')) ?_ ?_
            rotate_left
            ·intro AD;refine join_ (σ:=Value) 8 (bo 22 845551) (fun s_=>[(9,s_),(13,.string A5)]) (fun s_ w'=>(w'.cell? ⟨D,0,none⟩=some (.int .i64 U)∧w'.cell? ⟨D,1,none⟩=some (.int .i64 X)∧w'.cell? ⟨D,2,none⟩=some (.int .i64 Y)∧w'.cell? ⟨D,3,none⟩=some (.int .i64 Z)∧w'.cell? ⟨D,4,none⟩=some (.string A0))∧(Kd.R (Kd.int .u8) 5 w' w.heap.size (fun _=>True) s_ A3)∧(w'.heap[D]? = some (.cells #[.int .i64 U,.int .i64 X,.int .i64 Y,.int .i64 Z,.string A0] 161 (0,0)))∧(Below w.heap.size w w')) ?_ ?_
             rotate_left
             ·intro AA;refine join_ (σ:=Unit) 8 (bo 22 847591) (fun s_=>[(13,.string A5),(17,.string A7)]) (fun s_ w'=>(w'.cell? ⟨D,0,none⟩=some (.int .i64 U)∧w'.cell? ⟨D,1,none⟩=some (.int .i64 X)∧w'.cell? ⟨D,2,none⟩=some (.int .i64 Y)∧w'.cell? ⟨D,3,none⟩=some (.int .i64 Z)∧w'.cell? ⟨D,4,none⟩=some (.string A0))∧(w'.heap[D]? = some (.cells #[.int .i64 U,.int .i64 X,.int .i64 Y,.int .i64 Z,.string A0] 161 (0,0)))∧(Below w.heap.size w w')) ?_ ?_
              rotate_left
              ·intro AB;refine join_ (σ:=Value) 9 (bo 22 845423) (fun s_=>[(9,s_)]) (fun s_ w'=>(w'.cell? ⟨D,0,none⟩=some (.int .i64 U)∧w'.cell? ⟨D,1,none⟩=some (.int .i64 X)∧w'.cell? ⟨D,2,none⟩=some (.int .i64 Y)∧w'.cell? ⟨D,3,none⟩=some (.int .i64 Z)∧w'.cell? ⟨D,4,none⟩=some (.string A0))∧(Kd.R (Kd.int .u8) 5 w' w.heap.size (fun _=>True) s_ A3)∧(w'.heap[D]? = some (.cells #[.int .i64 U,.int .i64 X,.int .i64 Y,.int .i64 Z,.string A0] 161 (0,0)))∧(Below w.heap.size w w')) ?_ ?_
               rotate_left
               ·intro AO;refine join_ (σ:=Unit) 9 (bo 22 845543) (fun s_=>[(13,.string A5)]) (fun s_ w'=>(w'.cell? ⟨D,0,none⟩=some (.int .i64 U)∧w'.cell? ⟨D,1,none⟩=some (.int .i64 X)∧w'.cell? ⟨D,2,none⟩=some (.int .i64 Y)∧w'.cell? ⟨D,3,none⟩=some (.int .i64 Z)∧w'.cell? ⟨D,4,none⟩=some (.string A0))∧(w'.heap[D]? = some (.cells #[.int .i64 U,.int .i64 X,.int .i64 Y,.int .i64 Z,.string A0] 161 (0,0)))∧(Below w.heap.size w w')) ?_ ?_
                rotate_left
                ·intro AP;refine two_ (i:=3) (j:=7) (Ni:=some 9) (Nj:=some 13) (bo 22 845423) (bo 22 845543) rfl rfl rfl rfl (two_of HT_.o (by kernel_rfl)) (by decide) (by decide) (fun K hK=>?_) (fun K hK=>?_)
                 ·skip;refine Kd.R_lit_step (Kd.int .u8) _ 5 ?hg (N:=9) ?hd (xs:=([(U)%256]:List Int)) (inner:=[.int .u8 ((U)%256)]) (ok:=fun _=>True) (okp:=fun _=>True) ?hr ?hp (fun _ hk=>hk) trivial (Below.refl _ _) (Nat.le_refl _) (by simp) ?_;(case hd=>rfl);(case hg=>rfl);(case hr=>first|(go_simp;done)|(go_simp;rfl));(case hp=>exact(Reps.one (show Kd.M (Kd.int .u8) _ _ _ ((U)%256) [.int .u8 ((U)%256)]from rfl) (Reps.none _ _)));intro A9 AQ As hb hg_ hnew_;clear hg_ hnew_;(first|rw[←Al.o]at As|(simp only[Int.reduceToNat]at As;rw[←Al.o]at As));have A1:=rl HB As;replace J:=bv J hb;replace HB:=bS HB hb;clear hb As;refine hK.out _ _ hh (fun hHeld=>?_);clear hK K;refine nm 9 ?_;exact norm_ pk (AO (A9) _ ⟨hHeld,(rpR A1.o),bk,bl⟩)
                 ·skip;refine goesV Tryz.func173 ?_;(with_reducible refine(spec_Var.calls k X A5 _ A4.o).mono ?_);rintro e AQ ⟨rfl,hb⟩;refine⟨_,rfl,?_⟩;replace J:=bv J hb;replace HB:=bS HB hb;(try clear hb At hk hi);refine hK.out _ _ hh (fun hHeld=>?_);clear hK K;refine nm 13 ?_;exact norm_ pk (AP () _ ⟨hHeld,bk,bl⟩)
                ·skip;rintro _ Az ⟨hS_,Aa,Ab⟩;have Ac:Aside0 (Az.heap[D]? = some (.cells #[.int .i64 U,.int .i64 X,.int .i64 Y,.int .i64 Z,.string A0] 161 (0,0))):=⟨Aa⟩;have Ad:Aside0 (Below w.heap.size w Az):=⟨Ab⟩;clear J;clear HB;clear Aa Ab;have J:=Ac;have HB:=Ad;clear Ac Ad;have hHeld:Az.cell? ⟨D,0,none⟩=some (.int .i64 U)∧Az.cell? ⟨D,1,none⟩=some (.int .i64 X)∧Az.cell? ⟨D,2,none⟩=some (.int .i64 Y)∧Az.cell? ⟨D,3,none⟩=some (.int .i64 Z)∧Az.cell? ⟨D,4,none⟩=some (.string A0):=hS_;refine norm_ (a':=?_) ?_ ?_
                 rotate_left
                 ·simp only[putAll,Act.put,List.setIfInBounds_toArray,List.set_cons_zero,List.set_cons_succ];rfl
                 refine two_ (i:=3) (j:=11) (Ni:=some 9) (Nj:=some 17) (bo 22 845551) (bo 22 847591) rfl rfl rfl rfl (two_of HT_.o (by kernel_rfl)) (by decide) (by decide) (fun K hK=>?_) (fun K hK=>?_)
                 ·skip;refine Kd.R_lit_step (Kd.int .u8) _ 5 ?hg (N:=9) ?hd (xs:=([(U)%256]:List Int)) (inner:=[.int .u8 ((U)%256)]) (ok:=fun _=>True) (okp:=fun _=>True) ?hr ?hp (fun _ hk=>hk) trivial (Below.refl _ _) (Nat.le_refl _) (by simp) ?_;(case hd=>rfl);(case hg=>rfl);(case hr=>first|(go_simp;done)|(go_simp;rfl));(case hp=>exact(Reps.one (show Kd.M (Kd.int .u8) _ _ _ ((U)%256) [.int .u8 ((U)%256)]from rfl) (Reps.none _ _)));intro A9 Ak Au hb hg_ hnew_;clear hg_ hnew_;(first|rw[←Al.o]at Au|(simp only[Int.reduceToNat]at Au;rw[←Al.o]at Au));have A1:=rl HB Au;replace J:=bv J hb;replace HB:=bS HB hb;clear hb Au;refine hK.out _ _ hh (fun hHeld=>?_);clear hK K;refine nm 9 ?_;exact norm_ pk (AA (A9) _ ⟨hHeld,(rpR A1.o),bk,bl⟩)
                 ·skip;refine goesV Tryz.func173 ?_;(with_reducible refine(spec_Var.calls k Y A7 _ A6.o).mono ?_);rintro e Ak ⟨rfl,hb⟩;refine⟨_,rfl,?_⟩;replace J:=bv J hb;replace HB:=bS HB hb;(try clear hb At hk hi);refine hK.out _ _ hh (fun hHeld=>?_);clear hK K;refine nm 17 ?_;exact norm_ pk (AB () _ ⟨hHeld,bk,bl⟩)
               ·skip;rintro A9 Ak ⟨hS_,Aa,Ab,Af⟩;have Ac:Aside0 (Kd.R (Kd.int .u8) 5 Ak w.heap.size (fun _=>True) A9 A3):=⟨Aa⟩;have Ad:Aside0 (Ak.heap[D]? = some (.cells #[.int .i64 U,.int .i64 X,.int .i64 Y,.int .i64 Z,.string A0] 161 (0,0))):=⟨Ab⟩;have Ag:Aside0 (Below w.heap.size w Ak):=⟨Af⟩;clear J;clear HB;clear Aa Ab Af;have A1:=Ac;have J:=Ad;have HB:=Ag;clear Ac Ad Ag;have hHeld:Ak.cell? ⟨D,0,none⟩=some (.int .i64 U)∧Ak.cell? ⟨D,1,none⟩=some (.int .i64 X)∧Ak.cell? ⟨D,2,none⟩=some (.int .i64 Y)∧Ak.cell? ⟨D,3,none⟩=some (.int .i64 Z)∧Ak.cell? ⟨D,4,none⟩=some (.string A0):=hS_;refine norm_ (a':=?_) ?_ ?_
                rotate_left
                ·simp only[putAll,Act.put,List.setIfInBounds_toArray,List.set_cons_zero,List.set_cons_succ];rfl
                refine two_ (i:=4) (j:=7) (Ni:=some 10) (Nj:=some 13) (bo 22 845439) (bo 22 845551) rfl rfl rfl rfl (two_of HT_.o (by kernel_rfl)) (by decide) (by decide) (fun K hK=>?_) (fun K hK=>?_)
                ·skip;have AE:=own_string (P:=Tryz.prog) Tryz.underlying169 Tryz.underlying5 Tryz.underlying9 (Kd.own_of_R A1.o);refine value_ (w1:=?_) (v:=?_) (by rfl) rfl ?_ ?_
                 rotate_left 2
                 ·go_simp;constructor
                  ·rfl
                  ·rfl
                 clear AE;refine hK.out _ _ hh (fun hHeld=>?_);clear hK K;refine nm 10 ?_;exact norm_ pk (AD (A9) _ ⟨hHeld,(rpR A1.o),bk,bl⟩)
                ·skip;refine goesV Tryz.func173 ?_;(with_reducible refine(spec_Var.calls k X A5 _ A4.o).mono ?_);rintro e Ae ⟨rfl,hb⟩;refine⟨_,rfl,?_⟩;replace A1:=rb A1 hb;replace J:=bv J hb;replace HB:=bS HB hb;(try clear hb At hk hi);refine hK.out _ _ hh (fun hHeld=>?_);clear hK K;refine nm 13 ?_;exact norm_ pk (AA (A9) _ ⟨hHeld,(rpR A1.o),bk,bl⟩)
              ·skip;rintro _ Ak ⟨hS_,Aa,Ab⟩;have Ac:Aside0 (Ak.heap[D]? = some (.cells #[.int .i64 U,.int .i64 X,.int .i64 Y,.int .i64 Z,.string A0] 161 (0,0))):=⟨Aa⟩;have Ad:Aside0 (Below w.heap.size w Ak):=⟨Ab⟩;clear J;clear HB;clear Aa Ab;have J:=Ac;have HB:=Ad;clear Ac Ad;have hHeld:Ak.cell? ⟨D,0,none⟩=some (.int .i64 U)∧Ak.cell? ⟨D,1,none⟩=some (.int .i64 X)∧Ak.cell? ⟨D,2,none⟩=some (.int .i64 Y)∧Ak.cell? ⟨D,3,none⟩=some (.int .i64 Z)∧Ak.cell? ⟨D,4,none⟩=some (.string A0):=hS_;refine norm_ (a':=?_) ?_ ?_
               rotate_left
               ·simp only[putAll,Act.put,List.setIfInBounds_toArray,List.set_cons_zero,List.set_cons_succ];rfl
               refine two_ (i:=3) (j:=16) (Ni:=some 9) (Nj:=some 22) (bo 22 847599) (bo 22 913127) rfl rfl rfl rfl (two_of HT_.o (by kernel_rfl)) (by decide) (by decide) (fun K hK=>?_) (fun K hK=>?_)
               ·skip;refine Kd.R_lit_step (Kd.int .u8) _ 5 ?hg (N:=9) ?hd (xs:=([(U)%256]:List Int)) (inner:=[.int .u8 ((U)%256)]) (ok:=fun _=>True) (okp:=fun _=>True) ?hr ?hp (fun _ hk=>hk) trivial (Below.refl _ _) (Nat.le_refl _) (by simp) ?_;(case hd=>rfl);(case hg=>rfl);(case hr=>first|(go_simp;done)|(go_simp;rfl));(case hp=>exact(Reps.one (show Kd.M (Kd.int .u8) _ _ _ ((U)%256) [.int .u8 ((U)%256)]from rfl) (Reps.none _ _)));intro A9 Ae Av hb hg_ hnew_;clear hg_ hnew_;(first|rw[←Al.o]at Av|(simp only[Int.reduceToNat]at Av;rw[←Al.o]at Av));have A1:=rl HB Av;replace J:=bv J hb;replace HB:=bS HB hb;clear hb Av;refine hK.out _ _ hh (fun hHeld=>?_);clear hK K;refine nm 9 ?_;exact norm_ pk (Ap (A9) _ ⟨hHeld,(rpR A1.o),bk,bl⟩)
               ·skip;refine goesV Tryz.func173 ?_;(with_reducible refine(spec_Var.calls k (wrap64 (Z+1)) Ah _ A8.o).mono ?_);rintro e Ae ⟨rfl,hb⟩;refine⟨_,rfl,?_⟩;replace J:=bv J hb;replace HB:=bS HB hb;(try clear hb At hk hi);refine hK.out _ _ hh (fun hHeld=>?_);clear hK K;refine nm 22 ?_;exact norm_ pk (Ay () _ ⟨hHeld,bk,bl⟩)
             ·skip;rintro A9 Ae ⟨hS_,Aa,Ab,Af⟩;have Ac:Aside0 (Kd.R (Kd.int .u8) 5 Ae w.heap.size (fun _=>True) A9 A3):=⟨Aa⟩;have Ad:Aside0 (Ae.heap[D]? = some (.cells #[.int .i64 U,.int .i64 X,.int .i64 Y,.int .i64 Z,.string A0] 161 (0,0))):=⟨Ab⟩;have Ag:Aside0 (Below w.heap.size w Ae):=⟨Af⟩;clear J;clear HB;clear Aa Ab Af;have A1:=Ac;have J:=Ad;have HB:=Ag;clear Ac Ad Ag;have hHeld:Ae.cell? ⟨D,0,none⟩=some (.int .i64 U)∧Ae.cell? ⟨D,1,none⟩=some (.int .i64 X)∧Ae.cell? ⟨D,2,none⟩=some (.int .i64 Y)∧Ae.cell? ⟨D,3,none⟩=some (.int .i64 Z)∧Ae.cell? ⟨D,4,none⟩=some (.string A0):=hS_;refine norm_ (a':=?_) ?_ ?_
              rotate_left
              ·simp only[putAll,Act.put,List.setIfInBounds_toArray,List.set_cons_zero,List.set_cons_succ];rfl
              refine two_ (i:=4) (j:=11) (Ni:=some 10) (Nj:=some 17) (bo 22 845567) (bo 22 847599) rfl rfl rfl rfl (two_of HT_.o (by kernel_rfl)) (by decide) (by decide) (fun K hK=>?_) (fun K hK=>?_)
              ·skip;have AF:=own_string (P:=Tryz.prog) Tryz.underlying169 Tryz.underlying5 Tryz.underlying9 (Kd.own_of_R A1.o);refine value_ (w1:=?_) (v:=?_) (by rfl) rfl ?_ ?_
               rotate_left 2
               ·go_simp;constructor
                ·rfl
                ·rfl
               clear AF;refine hK.out _ _ hh (fun hHeld=>?_);clear hK K;refine nm 10 ?_;refine pV 8 14 (bo 22 845823) ?_;exact norm_ pk (Ar (A9) _ ⟨hHeld,(rpR A1.o),bk,bl⟩)
              ·skip;refine goesV Tryz.func173 ?_;(with_reducible refine(spec_Var.calls k Y A7 _ A6.o).mono ?_);rintro e Ai ⟨rfl,hb⟩;refine⟨_,rfl,?_⟩;replace A1:=rb A1 hb;replace J:=bv J hb;replace HB:=bS HB hb;(try clear hb At hk hi);refine hK.out _ _ hh (fun hHeld=>?_);clear hK K;refine nm 17 ?_;exact norm_ pk (Ap (A9) _ ⟨hHeld,(rpR A1.o),bk,bl⟩)
            ·skip;rintro A9 Ae ⟨hS_,Aa,Ab,Af⟩;have Ac:Aside0 (Kd.R (Kd.int .u8) 5 Ae w.heap.size (fun _=>True) A9 A3):=⟨Aa⟩;have Ad:Aside0 (Ae.heap[D]? = some (.cells #[.int .i64 U,.int .i64 X,.int .i64 Y,.int .i64 Z,.string A0] 161 (0,0))):=⟨Ab⟩;have Ag:Aside0 (Below w.heap.size w Ae):=⟨Af⟩;clear J;clear HB;clear Aa Ab Af;have A1:=Ac;have J:=Ad;have HB:=Ag;clear Ac Ad Ag;have hHeld:Ae.cell? ⟨D,0,none⟩=some (.int .i64 U)∧Ae.cell? ⟨D,1,none⟩=some (.int .i64 X)∧Ae.cell? ⟨D,2,none⟩=some (.int .i64 Y)∧Ae.cell? ⟨D,3,none⟩=some (.int .i64 Z)∧Ae.cell? ⟨D,4,none⟩=some (.string A0):=hS_;refine norm_ (a':=?_) ?_ ?_
             rotate_left
             ·simp only[putAll,Act.put,List.setIfInBounds_toArray,List.set_cons_zero,List.set_cons_succ];rfl
             refine o1 7 13 (bo 22 845567) (fun K hK=>?_);refine goesV Tryz.func173 ?_;(with_reducible refine(spec_Var.calls k X A5 _ A4.o).mono ?_);rintro e Ai ⟨rfl,hb⟩;refine⟨_,rfl,?_⟩;replace A1:=rb A1 hb;replace J:=bv J hb;replace HB:=bS HB hb;(try clear hb At hk hi);refine hK.out _ _ hh (fun hHeld=>?_);clear hK K;refine nm 13 ?_;refine pV 8 14 (bo 22 845823) ?_;exact norm_ pk (Ar (A9) _ ⟨hHeld,(rpR A1.o),bk,bl⟩)
           ·skip;rintro _ Ae ⟨hS_,Aa,Ab⟩;have Ac:Aside0 (Ae.heap[D]? = some (.cells #[.int .i64 U,.int .i64 X,.int .i64 Y,.int .i64 Z,.string A0] 161 (0,0))):=⟨Aa⟩;have Ad:Aside0 (Below w.heap.size w Ae):=⟨Ab⟩;clear J;clear HB;clear Aa Ab;have J:=Ac;have HB:=Ad;clear Ac Ad;have hHeld:Ae.cell? ⟨D,0,none⟩=some (.int .i64 U)∧Ae.cell? ⟨D,1,none⟩=some (.int .i64 X)∧Ae.cell? ⟨D,2,none⟩=some (.int .i64 Y)∧Ae.cell? ⟨D,3,none⟩=some (.int .i64 Z)∧Ae.cell? ⟨D,4,none⟩=some (.string A0):=hS_;refine norm_ (a':=?_) ?_ ?_
            rotate_left
            ·simp only[putAll,Act.put,List.setIfInBounds_toArray,List.set_cons_zero,List.set_cons_succ];rfl
            refine o1 3 9 (bo 22 913135) (fun K hK=>?_);refine Kd.R_lit_step (Kd.int .u8) _ 5 ?hg (N:=9) ?hd (xs:=([(U)%256]:List Int)) (inner:=[.int .u8 ((U)%256)]) (ok:=fun _=>True) (okp:=fun _=>True) ?hr ?hp (fun _ hk=>hk) trivial (Below.refl _ _) (Nat.le_refl _) (by simp) ?_;(case hd=>rfl);(case hg=>rfl);(case hr=>first|(go_simp;done)|(go_simp;rfl));(case hp=>exact(Reps.one (show Kd.M (Kd.int .u8) _ _ _ ((U)%256) [.int .u8 ((U)%256)]from rfl) (Reps.none _ _)));intro A9 Ai Aw hb hg_ hnew_;clear hg_ hnew_;(first|rw[←Al.o]at Aw|(simp only[Int.reduceToNat]at Aw;rw[←Al.o]at Aw));have A1:=rl HB Aw;replace J:=bv J hb;replace HB:=bS HB hb;clear hb Aw;refine hK.out _ _ hh (fun hHeld=>?_);clear hK K;refine nm 9 ?_;exact norm_ pk (An (A9) _ ⟨hHeld,(rpR A1.o),bk,bl⟩)
          ·skip;rintro A9 Ai ⟨hS_,Aa,Ab,Af⟩;have Ac:Aside0 (Kd.R (Kd.int .u8) 5 Ai w.heap.size (fun _=>True) A9 A3):=⟨Aa⟩;have Ad:Aside0 (Ai.heap[D]? = some (.cells #[.int .i64 U,.int .i64 X,.int .i64 Y,.int .i64 Z,.string A0] 161 (0,0))):=⟨Ab⟩;have Ag:Aside0 (Below w.heap.size w Ai):=⟨Af⟩;clear J;clear HB;clear Aa Ab Af;have A1:=Ac;have J:=Ad;have HB:=Ag;clear Ac Ad Ag;have hHeld:Ai.cell? ⟨D,0,none⟩=some (.int .i64 U)∧Ai.cell? ⟨D,1,none⟩=some (.int .i64 X)∧Ai.cell? ⟨D,2,none⟩=some (.int .i64 Y)∧Ai.cell? ⟨D,3,none⟩=some (.int .i64 Z)∧Ai.cell? ⟨D,4,none⟩=some (.string A0):=hS_;refine norm_ (a':=?_) ?_ ?_
           rotate_left
           ·simp only[putAll,Act.put,List.setIfInBounds_toArray,List.set_cons_zero,List.set_cons_succ];rfl
           refine two_ (i:=4) (j:=16) (Ni:=some 10) (Nj:=some 22) (bo 22 847615) (bo 22 913135) rfl rfl rfl rfl (two_of HT_.o (by kernel_rfl)) (by decide) (by decide) (fun K hK=>?_) (fun K hK=>?_)
           ·skip;have AG:=own_string (P:=Tryz.prog) Tryz.underlying169 Tryz.underlying5 Tryz.underlying9 (Kd.own_of_R A1.o);refine value_ (w1:=?_) (v:=?_) (by rfl) rfl ?_ ?_
            rotate_left 2
            ·go_simp;constructor
             ·rfl
             ·rfl
            clear AG;refine hK.out _ _ hh (fun hHeld=>?_);clear hK K;refine nm 10 ?_;refine pV 8 14 (bo 22 847871) ?_;refine pV 12 18 (bo 22 851967) ?_;exact norm_ pk (Ao (A9) _ ⟨hHeld,(rpR A1.o),bk,bl⟩)
           ·skip;refine goesV Tryz.func173 ?_;(with_reducible refine(spec_Var.calls k (wrap64 (Z+1)) Ah _ A8.o).mono ?_);rintro e Aj ⟨rfl,hb⟩;refine⟨_,rfl,?_⟩;replace A1:=rb A1 hb;replace J:=bv J hb;replace HB:=bS HB hb;(try clear hb At hk hi);refine hK.out _ _ hh (fun hHeld=>?_);clear hK K;refine nm 22 ?_;exact norm_ pk (An (A9) _ ⟨hHeld,(rpR A1.o),bk,bl⟩)
         ·skip;rintro A9 Ai ⟨hS_,Aa,Ab,Af⟩;have Ac:Aside0 (Kd.R (Kd.int .u8) 5 Ai w.heap.size (fun _=>True) A9 A3):=⟨Aa⟩;have Ad:Aside0 (Ai.heap[D]? = some (.cells #[.int .i64 U,.int .i64 X,.int .i64 Y,.int .i64 Z,.string A0] 161 (0,0))):=⟨Ab⟩;have Ag:Aside0 (Below w.heap.size w Ai):=⟨Af⟩;clear J;clear HB;clear Aa Ab Af;have A1:=Ac;have J:=Ad;have HB:=Ag;clear Ac Ad Ag;have hHeld:Ai.cell? ⟨D,0,none⟩=some (.int .i64 U)∧Ai.cell? ⟨D,1,none⟩=some (.int .i64 X)∧Ai.cell? ⟨D,2,none⟩=some (.int .i64 Y)∧Ai.cell? ⟨D,3,none⟩=some (.int .i64 Z)∧Ai.cell? ⟨D,4,none⟩=some (.string A0):=hS_;refine norm_ (a':=?_) ?_ ?_
          rotate_left
          ·simp only[putAll,Act.put,List.setIfInBounds_toArray,List.set_cons_zero,List.set_cons_succ];rfl
          refine o1 11 17 (bo 22 847871) (fun K hK=>?_);refine goesV Tryz.func173 ?_;(with_reducible refine(spec_Var.calls k Y A7 _ A6.o).mono ?_);rintro e Aj ⟨rfl,hb⟩;refine⟨_,rfl,?_⟩;replace A1:=rb A1 hb;replace J:=bv J hb;replace HB:=bS HB hb;(try clear hb At hk hi);refine hK.out _ _ hh (fun hHeld=>?_);clear hK K;refine nm 17 ?_;refine pV 12 18 (bo 22 851967) ?_;exact norm_ pk (Ao (A9) _ ⟨hHeld,(rpR A1.o),bk,bl⟩)
        ·skip;rintro A9 Aj ⟨hS_,Aa,Ab,Af⟩;have Ac:Aside0 (Kd.R (Kd.int .u8) 5 Aj w.heap.size (fun _=>True) A9 A3):=⟨Aa⟩;have Ad:Aside0 (Aj.heap[D]? = some (.cells #[.int .i64 U,.int .i64 X,.int .i64 Y,.int .i64 Z,.string A0] 161 (0,0))):=⟨Ab⟩;have Ag:Aside0 (Below w.heap.size w Aj):=⟨Af⟩;clear J;clear HB;clear Aa Ab Af;have A1:=Ac;have J:=Ad;have HB:=Ag;clear Ac Ad Ag;have hHeld:Aj.cell? ⟨D,0,none⟩=some (.int .i64 U)∧Aj.cell? ⟨D,1,none⟩=some (.int .i64 X)∧Aj.cell? ⟨D,2,none⟩=some (.int .i64 Y)∧Aj.cell? ⟨D,3,none⟩=some (.int .i64 Z)∧Aj.cell? ⟨D,4,none⟩=some (.string A0):=hS_;refine norm_ (a':=?_) ?_ ?_
         rotate_left
         ·simp only[putAll,Act.put,List.setIfInBounds_toArray,List.set_cons_zero,List.set_cons_succ];rfl
         refine o1 4 10 (bo 22 913151) (fun K hK=>?_);have AH:=own_string (P:=Tryz.prog) Tryz.underlying169 Tryz.underlying5 Tryz.underlying9 (Kd.own_of_R A1.o);refine value_ (w1:=?_) (v:=?_) (by rfl) rfl ?_ ?_
         rotate_left 2
         ·go_simp;constructor
          ·rfl
          ·rfl
         clear AH;refine hK.out _ _ hh (fun hHeld=>?_);clear hK K;refine nm 10 ?_;refine pV 8 14 (bo 22 913407) ?_;refine pV 12 18 (bo 22 917503) ?_;exact norm_ pk (Am (A9) _ ⟨hHeld,(rpR A1.o),bk,bl⟩)
       ·skip;rintro A9 Aj ⟨hS_,Aa,Ab,Af⟩;have Ac:Aside0 (Kd.R (Kd.int .u8) 5 Aj w.heap.size (fun _=>True) A9 A3):=⟨Aa⟩;have Ad:Aside0 (Aj.heap[D]? = some (.cells #[.int .i64 U,.int .i64 X,.int .i64 Y,.int .i64 Z,.string A0] 161 (0,0))):=⟨Ab⟩;have Ag:Aside0 (Below w.heap.size w Aj):=⟨Af⟩;clear J;clear HB;clear Aa Ab Af;have A1:=Ac;have J:=Ad;have HB:=Ag;clear Ac Ad Ag;have hHeld:Aj.cell? ⟨D,0,none⟩=some (.int .i64 U)∧Aj.cell? ⟨D,1,none⟩=some (.int .i64 X)∧Aj.cell? ⟨D,2,none⟩=some (.int .i64 Y)∧Aj.cell? ⟨D,3,none⟩=some (.int .i64 Z)∧Aj.cell? ⟨D,4,none⟩=some (.string A0):=hS_;refine norm_ (a':=?_) ?_ ?_
        rotate_left
        ·simp only[putAll,Act.put,List.setIfInBounds_toArray,List.set_cons_zero,List.set_cons_succ];rfl
        refine o1 16 22 (bo 22 917503) (fun K hK=>?_);refine goesV Tryz.func173 ?_;(with_reducible refine(spec_Var.calls k (wrap64 (Z+1)) Ah _ A8.o).mono ?_);rintro e Aq ⟨rfl,hb⟩;refine⟨_,rfl,?_⟩;replace A1:=rb A1 hb;replace J:=bv J hb;replace HB:=bS HB hb;(try clear hb At hk hi);refine hK.out _ _ hh (fun hHeld=>?_);clear hK K;refine nm 22 ?_;exact norm_ pk (Am (A9) _ ⟨hHeld,(rpR A1.o),bk,bl⟩)
      rintro A9 Aq ⟨hS_,Aa,Ab,Af⟩;have Ac:Aside0 (Kd.R (Kd.int .u8) 5 Aq w.heap.size (fun _=>True) A9 A3):=⟨Aa⟩;have Ad:Aside0 (Aq.heap[D]? = some (.cells #[.int .i64 U,.int .i64 X,.int .i64 Y,.int .i64 Z,.string A0] 161 (0,0))):=⟨Ab⟩;have Ag:Aside0 (Below w.heap.size w Aq):=⟨Af⟩;clear J;clear HB;clear Aa Ab Af;have A1:=Ac;have J:=Ad;have HB:=Ag;clear Ac Ad Ag;have hHeld:Aq.cell? ⟨D,0,none⟩=some (.int .i64 U)∧Aq.cell? ⟨D,1,none⟩=some (.int .i64 X)∧Aq.cell? ⟨D,2,none⟩=some (.int .i64 Y)∧Aq.cell? ⟨D,3,none⟩=some (.int .i64 Z)∧Aq.cell? ⟨D,4,none⟩=some (.string A0):=hS_;refine norm_ (a':=?_) ?_ ?_
      rotate_left
      ·simp only[putAll,Act.put,List.setIfInBounds_toArray,List.set_cons_zero,List.set_cons_succ];rfl
      refine pV 17 23 (bo 22 1048575) ?_;refine pV 20 26 (bo 22 2097151) ?_;refine pV 21 2 (bo 22 4194303) ?_;refine done_ (done_of HT_.o (by kernel_rfl)) ?_;(try go_wp2)
      go_ret
      exact⟨fe,bl⟩
     ·rw[if_neg c10]at H;exact absurd H (by simp)
    ·rw[if_neg c9]at H;exact absurd H (by simp)
   ·rw[if_neg c7]at H;exact absurd H (by simp)
  ·rw[if_neg c5]at H;exact absurd H (by simp)
 ·replace c3:=bF c3;subst c3;replace H:=iF H;obtain rfl:=oj H
  go_enter Tryz.func133,Tryz.ntmps133
  go_wp2_with (first|((with_reducible refine gD 1 rfl ?_);refine boxW ?_;intro D hg AN hbox hb;have J:=aK hbox;have AC:=gW HB hg;replace HB:=bS HB hb;clear hb hbox hg;have:=cf5 J)|((with_reducible refine gC 172 rfl ?_);refine goesW Tryz.func172 ?_;(with_reducible refine(spec_RecOk.calls U X Y Z A0 _ _ A2.o).mono ?_);rintro e AI ⟨rfl,hb⟩;refine⟨_,rfl,?_⟩;replace J:=bv J hb;replace HB:=bS HB hb;(try clear hb)))
  go_ret
  exact⟨fe,bl⟩
def spec_WalText.l0:Nat→ByteArray→Int→Int→Int→Int→Int→List (S115)→Option (ByteArray)
 | 0,_,_,_,_,_,_,_=>none
 |k+1,x3,x4,AV,AW,AI,AX,Aj=>if x4<(Aj.length:Int)then(if 0≤x4 then((spec_ShowRec.f k 2 ((rd_T115 Aj x4).f0) (wrap64 ((wrap64 (AI+1))+x4)) 0 ((rd_T115 Aj x4).f1)).bind fun AK=>((spec_Frame.f k AK).bind fun At=>(if x3.size+At.size≤9223372036854775807 then(spec_WalText.l0 k (x3++At) (wrap64 (x4+1)) AV AW AI AX Aj)else(none))))else(none))else(some x3)
def spec_WalText.f (k:Nat) (X:Int) (Y:Int) (A3:Int) (Ac:Int) (J:List (S115)):Option (ByteArray):=(spec_WalOk.f k X Y A3 Ac J).bind fun AY=>(if AY=true then((spec_ShowRec.f k 4 Ac A3 0 (⟨#[]⟩:ByteArray)).bind fun AL=>((spec_Frame.f k AL).bind fun Au=>((spec_ShowRec.f k 1 X 0 Y (⟨#[]⟩:ByteArray)).bind fun AM=>((spec_Frame.f k AM).bind fun Av=>(if Au.size+Av.size≤9223372036854775807 then(spec_WalText.l0 k (Au++Av) 0 X Y A3 Ac J)else(none))))))else(some (⟨#[]⟩:ByteArray)))
def spec_WalText.T3:Bool×List (List Nat×List Nat):=(true,[([],[]),([0],[0]),([],[]),([2],[2]),([1,3],[1,3]),([4],[4]),([5,5],[5]),([],[]),([7],[7]),([],[]),([9],[9]),([8,10],[8,10]),([11,6],[11]),([12,12],[12]),([6,13],[6,13]),([14,13,0,1,2,3,4,5,6,7,8,9,10,11,12,13,14],[14])])
def spec_WalText.B3:List Nat:=[0,1,0,4,15,31,63,0,128,0,512,1920,4095,8191,16383,32767]
theorem spec_WalText.tab3:rtab .any (opsOf Tryz.f73 3)=spec_WalText.T3:=by kernel_rfl
theorem spec_WalText.bits3:waitsOk spec_WalText.T3.2 spec_WalText.B3=true:=by kernel_rfl
def spec_WalText.T7:Bool×List (List Nat×List Nat):=(true,[([],[]),([],[]),([1],[1]),([],[]),([2,3],[2,3]),([4],[4]),([5],[5]),([],[]),([7],[7]),([8],[8]),([],[]),([9,10],[9,10]),([],[]),([12],[12]),([],[]),([13,14],[13,14]),([15],[15]),([16],[16]),([6,11,17],[6,11,17]),([18],[18]),([19,19],[19]),([0,20],[0,20]),([21,20,0,1,2,3,4,5,6,7,8,9,10,11,12,13,14,15,16,17,18,19,20,21],[0,21])])
def spec_WalText.B7:List Nat:=[0,0,2,0,14,30,62,0,128,384,0,1920,0,4096,0,28672,61440,126976,262142,524286,1048574,2097151,4194303]
theorem spec_WalText.tab7:rtab .any (opsOf Tryz.f73 7)=spec_WalText.T7:=by kernel_rfl
theorem spec_WalText.bits7:waitsOk spec_WalText.T7.2 spec_WalText.B7=true:=by kernel_rfl
theorem spec_WalText.calls (k:Nat) (X:Int) (Y:Int) (A3:Int) (Ac:Int) (Ak:Option Addr) (Ah:Nat) (J:List (S115)) (r:ByteArray) (w:World) (Aw:Kd.C k115 w Ak J.length J) (Ax:J.length≤Ah) (h:spec_WalText.f k X Y A3 Ac J=some r) :
 Calls Tryz.prog 73 #[.agg #[.int .i64 X,.int .i64 Y,.int .i64 A3,.int .i64 Ac,.slice Ak J.length Ah]] w fun e w'=>e = .returned (.string r)∧Below w.heap.size w w':=by
 have BF:=Tryz.underlying52;have BO:=Tryz.underlying161;have Ai:=aK Aw;have Ay:=aK Ax;clear Aw Ax;have HB:=aK (Below.refl w.heap.size w);have H:=h;unfold spec_WalText.f at H;clear h;obtain⟨AY,A2,H⟩:=bd H;by_cases c3:AY=true
 ·subst c3;replace H:=iT H;obtain⟨AL,A4,H⟩:=bd H;obtain⟨Au,A5,H⟩:=bd H;obtain⟨AM,A6,H⟩:=bd H;obtain⟨Av,A7,H⟩:=bd H;by_cases c8:Au.size+Av.size≤9223372036854775807
  ·rw[if_pos c8]at H;have BG:=eq_true c8;have BH:=dt c8;(try have BI:(9223372036854775807<Au.size+Av.size)=False:=eq_false (Nat.not_lt.2 c8));have H':=aK H;clear H
   go_enter Tryz.func73,Tryz.ntmps73
   (try go_wp2_with (first|((with_reducible refine gD 1 rfl ?_);refine boxW ?_;intro A1 hg Bs hbox hb;have D:=aK hbox;have Bv:=gW HB hg;replace HB:=bS HB hb;clear hb hbox hg;have:=cf5 D)|((with_reducible refine gC 71 rfl ?_);refine goesW Tryz.func71 ?_;(with_reducible refine(spec_WalOk.calls k X Y A3 Ac _ _ J _ _ ?_ ?_ A2.o).mono ?_);exact cB Ai HB;exact Ay.o;rintro e Bt ⟨rfl,hb⟩;refine⟨_,rfl,?_⟩;replace D:=bv D hb;replace HB:=bS HB hb;(try clear hb))));replace D:=dB D;replace HB:=dW HB;refine start_ (n:=16) (S:=fun w'=>w'.cell? ⟨A1,0,none⟩=some (.int .i64 X)∧w'.cell? ⟨A1,1,none⟩=some (.int .i64 Y)∧w'.cell? ⟨A1,2,none⟩=some (.int .i64 A3)∧w'.cell? ⟨A1,3,none⟩=some (.int .i64 Ac)∧w'.cell? ⟨A1,4,none⟩=some (.slice Ak J.length Ah)) (ds:=[]) (bo 16 0) (by kernel_rfl) rfl rfl hh (fun hHeld=>?_);refine with_tabW spec_WalText.tab3 spec_WalText.bits3 (fun HT_ HW_=>?_);generalize Bt.drew=BP at D HB hHeld ⊢;refine pV 0 8 (bo 16 1) ?_;refine pV 2 10 (bo 16 5) ?_
   refine pV 7 15 (bo 16 133) ?_;refine pV 9 17 (bo 16 645) ?_;refine tV 1 9 (bo 16 647) ?_;refine tV 3 11 (bo 16 655) ?_;refine pV 4 12 (bo 16 671) ?_;refine tV 8 16 (bo 16 927) ?_;refine tV 10 18 (bo 16 1951) ?_;refine pV 11 19 (bo 16 3999) ?_;refine o1 5 13 (bo 16 4031) (fun K hK=>?_);refine goesV Tryz.func133 ?_;(with_reducible refine(spec_ShowRec.calls k 4 Ac A3 0 (⟨#[]⟩:ByteArray) AL _ A4.o).mono ?_);rintro e C6 ⟨rfl,hb⟩;refine⟨_,rfl,?_⟩;replace D:=bv D hb;replace HB:=bS HB hb;(try clear hb AJ hk hi);refine hK.out _ _ hh (fun hHeld=>?_);clear hK K;refine nm 13 ?_;refine o1 6 14 (bo 16 4095) (fun K hK=>?_);refine goesV Tryz.func132 ?_;(with_reducible refine(spec_Frame.calls k AL Au _ A5.o).mono ?_);rintro e C7 ⟨rfl,hb⟩;refine⟨_,rfl,?_⟩;replace D:=bv D hb;replace HB:=bS HB hb;(try clear hb AJ hk hi);refine hK.out _ _ hh (fun hHeld=>?_);clear hK K;refine nm 14 ?_;refine o1 12 20 (bo 16 8191) (fun K hK=>?_);refine goesV Tryz.func133 ?_
   (with_reducible refine(spec_ShowRec.calls k 1 X 0 Y (⟨#[]⟩:ByteArray) AM _ A6.o).mono ?_);rintro e C8 ⟨rfl,hb⟩;refine⟨_,rfl,?_⟩;replace D:=bv D hb;replace HB:=bS HB hb;(try clear hb AJ hk hi);refine hK.out _ _ hh (fun hHeld=>?_);clear hK K;refine nm 20 ?_;refine o1 13 21 (bo 16 16383) (fun K hK=>?_);refine goesV Tryz.func132 ?_;(with_reducible refine(spec_Frame.calls k AM Av _ A7.o).mono ?_);rintro e C9 ⟨rfl,hb⟩;refine⟨_,rfl,?_⟩;replace D:=bv D hb;replace HB:=bS HB hb;(try clear hb AJ hk hi);refine hK.out _ _ hh (fun hHeld=>?_);clear hK K;refine nm 21 ?_;refine pV 14 22 (bo 16 32767) ?_;refine pV 15 3 (bo 16 65535) ?_;refine done_ (done_of HT_.o (by kernel_rfl)) ?_;(try go_wp2)
   go_loopg [3,4] k (fun kq v3 v4 w'=>∃(AC:ByteArray) (Z:Int),v3 = .string AC∧v4 = .int .i64 Z∧Aside0 (spec_WalText.l0 kq AC Z X Y A3 Ac J=some r)∧Aside0 (kq≤k)∧Aside0 (w'.heap[A1]? = some (.cells #[.int .i64 X,.int .i64 Y,.int .i64 A3,.int .i64 Ac,(.slice Ak J.length Ah)] 52 (0,0)))∧Aside0 (Below w.heap.size w w'))
   case atStart=>exact⟨(Au++Av),(0),fa,fa,H',⟨Nat.le_refl _⟩,⟨bw D⟩,⟨bl⟩⟩
   case round=>
    clear H';(try clear c1);(try clear p2);(try clear c3);(try clear c7);(try clear c8);(try clear BG);(try clear BH);(try clear BI);(try clear Ca);obtain⟨AC,Z,rfl,rfl,HA,BJ,D,HB⟩:=hrel;cases gk with
    |zero=>exact absurd HA.o (by simp[spec_WalText.l0])
    |succ k1=>
     have H:=HA.o;clear HA;simp only[spec_WalText.l0]at H;by_cases Az:Z<(J.length:Int)
     ·rw[if_pos Az]at H;have Bw:=dt Az;clear Az;by_cases Bu:0≤Z
      ·rw[if_pos Bu]at H;have BQ:=dt Bu;clear Bu;obtain⟨AK,BR,H⟩:=bd H;obtain⟨At,Bx,H⟩:=bd H;by_cases AZ:AC.size+At.size≤9223372036854775807
       ·rw[if_pos AZ]at H;have BS:=eq_true AZ;have BT:=dt AZ;(try have BU:(9223372036854775807<AC.size+At.size)=False:=eq_false (Nat.not_lt.2 AZ));have H':=aK H;clear H;have:=cf5 D;(try go_wp2);replace D:=dB D;replace HB:=dW HB;have By:0≤(Z:Int):=dT am;have Bz:Z<(J.length:Int):=dT am;obtain⟨An,BV,Ap,Aq⟩:=at_T115 Ai.o Z By Bz;have AD:=Aq;have AE:=Ap;cases BV;replace Ap:=cz HB Ap;replace Aq:=cz HB Aq;replace By:=eq_true By;replace Bz:=eq_true Bz;have B_:0≤(Z:Int):=dT am;have BA:Z<(J.length:Int):=dT am;obtain⟨BK,BW,Ar,As⟩:=at_T115 Ai.o Z B_ BA;have AF:=As;have AG:=Ar;obtain rfl:An=BK:=(by injection BW);replace Ar:=cz HB Ar;replace As:=cz HB As;replace B_:=eq_true B_;replace BA:=eq_true BA
        refine start_ (n:=23) (S:=fun w'=>w'.cell? ⟨A1,0,none⟩=some (.int .i64 X)∧w'.cell? ⟨A1,1,none⟩=some (.int .i64 Y)∧w'.cell? ⟨A1,2,none⟩=some (.int .i64 A3)∧w'.cell? ⟨A1,3,none⟩=some (.int .i64 Ac)∧w'.cell? ⟨A1,4,none⟩=some (.slice (some An) J.length Ah)∧w'.cell? (An.add ((Z).toNat*2))=some (.int .i64 ((rd_T115 J Z).f0))∧w'.cell? ⟨(An.add ((Z).toNat*2)).block,(An.add ((Z).toNat*2)).off+1,none⟩=some (.string ((rd_T115 J Z).f1))∧w'.cell? (An.add ((Z).toNat*2))=some (.int .i64 ((rd_T115 J Z).f0))∧w'.cell? ⟨(An.add ((Z).toNat*2)).block,(An.add ((Z).toNat*2)).off+1,none⟩=some (.string ((rd_T115 J Z).f1))) (ds:=[]) (bo 23 0) (by kernel_rfl) rfl rfl ⟨cb 0 D,cb 1 D,cb 2 D,cb 3 D,cb 4 D,(cy HB AE),(cy HB AD),(cy HB AG),(cy HB AF)⟩ (fun hHeld=>?_);refine with_tabW spec_WalText.tab7 spec_WalText.bits7 (fun HT_ HW_=>?_);generalize wr.drew=Cb at D HB Ap Aq Ar As hHeld ⊢;refine pV 0 30 (bo 23 1) ?_;refine pV 1 31 (bo 23 3) ?_;refine pV 3 33 (bo 23 11) ?_;refine pV 7 37 (bo 23 139) ?_;refine pV 10 40 (bo 23 1163) ?_;refine pV 12 42 (bo 23 5259) ?_;refine pV 14 44 (bo 23 21643) ?_;refine tV 2 32 (bo 23 21647) ?_;refine pV 4 34 (bo 23 21663) ?_;refine pV 5 35 (bo 23 21695) ?_;refine tV 6 36 (bo 23 21759) ?_;refine tV 8 38 (bo 23 22015) ?_
        refine pV 9 39 (bo 23 22527) ?_;refine pV 11 41 (bo 23 24575) ?_;refine tV 13 43 (bo 23 32767) ?_;refine pV 15 45 (bo 23 65535) ?_;refine pV 16 46 (bo 23 131071) ?_;refine tV 17 47 (bo 23 262143) ?_;refine pV 18 48 (bo 23 524287) ?_;refine o1 19 49 (bo 23 1048575) (fun K hK=>?_);refine goesV Tryz.func133 ?_;(with_reducible refine(spec_ShowRec.calls k1 2 ((rd_T115 J Z).f0) (wrap64 ((wrap64 (A3+1))+Z)) 0 ((rd_T115 J Z).f1) AK _ BR.o).mono ?_);rintro e Cc ⟨rfl,hb⟩;refine⟨_,rfl,?_⟩;replace D:=bv D hb;replace HB:=bS HB hb;(try clear hb AJ hk hi);refine hK.out _ _ ⟨cb 0 D,cb 1 D,cb 2 D,cb 3 D,cb 4 D,(cy HB AE),(cy HB AD),(cy HB AG),(cy HB AF)⟩ (fun hHeld=>?_);clear hK K;refine nm 49 ?_;refine o1 20 50 (bo 23 2097151) (fun K hK=>?_);refine goesV Tryz.func132 ?_;(with_reducible refine(spec_Frame.calls k1 AK At _ Bx.o).mono ?_);rintro e Cd ⟨rfl,hb⟩;refine⟨_,rfl,?_⟩;replace D:=bv D hb;replace HB:=bS HB hb;(try clear hb AJ hk hi);refine hK.out _ _ ⟨cb 0 D,cb 1 D,cb 2 D,cb 3 D,cb 4 D,(cy HB AE),(cy HB AD),(cy HB AG),(cy HB AF)⟩ (fun hHeld=>?_);clear hK K
        refine nm 50 ?_;refine pV 21 51 (bo 23 4194303) ?_;refine pV 22 3 (bo 23 8388607) ?_;refine done_ (done_of HT_.o (by kernel_rfl)) ?_;(try go_wp2)
        go_roundg k1
        case measure=>have:=BJ.o;omega
        case rel=>exact⟨(AC++At),(wrap64 (Z+1)),fa,fa,H',⟨by have:=BJ.o;omega⟩,⟨bw D⟩,⟨bl⟩⟩
       ·rw[if_neg AZ]at H;exact absurd H (by simp)
      ·rw[if_neg Bu]at H;exact absurd H (by simp)
     ·rw[if_neg Az]at H;have Bw:=df Az;clear Az;obtain rfl:=oj H;have:=cf5 D;go_wp2
      go_ret
      exact⟨fe,bl⟩
  ·rw[if_neg c8]at H;exact absurd H (by simp)
 ·replace c3:=bF c3;subst c3;replace H:=iF H;obtain rfl:=oj H
  go_enter Tryz.func73,Tryz.ntmps73
  go_wp2_with (first|((with_reducible refine gD 1 rfl ?_);refine boxW ?_;intro A1 hg Bs hbox hb;have D:=aK hbox;have Bv:=gW HB hg;replace HB:=bS HB hb;clear hb hbox hg;have:=cf5 D)|((with_reducible refine gC 71 rfl ?_);refine goesW Tryz.func71 ?_;(with_reducible refine(spec_WalOk.calls k X Y A3 Ac _ _ J _ _ ?_ ?_ A2.o).mono ?_);exact cB Ai HB;exact Ay.o;rintro e Bt ⟨rfl,hb⟩;refine⟨_,rfl,?_⟩;replace D:=bv D hb;replace HB:=bS HB hb;(try clear hb)))
  go_ret
  exact⟨fe,bl⟩
def spec_PlanLog.j0:Nat→Bool→Int→Int→List (S130)→List (S133)→List (S135)→Int→Int→Int→Int→List (S115)→Option ((List (S39)))
 | 0,_,_,_,_,_,_,_,_,_,_,_=>none
 |k+1,BX,B0,B1,B2,B4,B5,B6,B8,B9,Ba,Bb=>if BX=true then(some (([]:List (S39))))else((spec_WalText.f k B6 B8 B9 Ba Bb).bind fun AN=>((spec_l6Anew.f k B0 B1 B2 B4 B5 (⟨#[108,111,103]⟩:ByteArray) AN).bind fun Bc=>(some Bc)))
def spec_PlanLog.f (k:Nat) (X:Int) (Y:Int) (A9:List (S130)) (Aa:List (S133)) (J:List (S135)) (Ad:Int) (Ae:Int) (Af:Int) (Ag:Int) (Ab:List (S115)):Option ((List (S39))):=(spec_DiskOk.f k X Y A9 Aa J).bind fun Bd=>(if Bd=true then((spec_WalOk.f k Ad Ae Af Ag Ab).bind fun AO=>(spec_PlanLog.j0 k (!AO) X Y A9 Aa J Ad Ae Af Ag Ab))else(spec_PlanLog.j0 k true X Y A9 Aa J Ad Ae Af Ag Ab))
theorem spec_PlanLog.z1 {p:Prop} (h:p:=by
 go_wp2_with (first|((with_reducible refine gC 42 rfl ?_);refine goesW Tryz.func42 ?_;(with_reducible refine(spec_DiskOk.calls k X Y _ _ A9 _ _ Aa _ _ J _ _ ?_ ?_ ?_ ?_ ?_ ?_ A6.o).mono ?_);exact cB Be HB;exact Bf.o;exact cB Bg HB;exact Bh.o;exact cB Ai HB;exact Ay.o;rintro e Bs ⟨rfl,hb⟩;refine⟨_,rfl,?_⟩;replace U:=bv U hb;replace A0:=bv A0 hb;replace HB:=bS HB hb;(try clear hb);have:=cf5 A0)|(go_at_call 71;(with_reducible refine(spec_WalOk.calls k Ad Ae Af Ag _ _ Ab AO _ ?_ ?_ A8.o).mono ?_);exact cB Bi HB;exact Bj.o;rintro e Bt ⟨rfl,hb⟩;replace U:=bv U hb;replace A0:=bv A0 hb;replace HB:=bS HB hb;(try clear hb)))
 (first|(have _:=BY;go_meet;(case rel=>exact⟨_,(!AO),fa,H',⟨by first|omega|exact Nat.le_refl _⟩,⟨bw U⟩,⟨bw A0⟩,⟨bl⟩⟩))|(have _:=BZ;go_meet;(case rel=>exact⟨_,(true),fa,H',⟨by first|omega|exact Nat.le_refl _⟩,⟨bw U⟩,⟨bw A0⟩,⟨bl⟩⟩)))):p:=h
theorem spec_PlanLog.calls (k:Nat) (X:Int) (Y:Int) (AP:Option Addr) (AQ:Nat) (A9:List (S130)) (AR:Option Addr) (AS:Nat) (Aa:List (S133)) (Ak:Option Addr) (Ah:Nat) (J:List (S135)) (Ad:Int) (Ae:Int) (Af:Int) (Ag:Int) (AT:Option Addr) (AU:Nat) (Ab:List (S115)) (r:List (S39)) (w:World) (Bk:Kd.C k130 w AP A9.length A9) (Bl:A9.length≤AQ) (Bm:Kd.C k133 w AR Aa.length Aa) (Bn:Aa.length≤AS) (Aw:Kd.C k135 w Ak J.length J) (Ax:J.length≤Ah) (Bo:Kd.C k115 w AT Ab.length Ab) (Bp:Ab.length≤AU) (h:spec_PlanLog.f k X Y A9 Aa J Ad Ae Af Ag Ab=some r) :
 Calls Tryz.prog 18 #[.agg #[.int .i64 X,.int .i64 Y,.slice AP A9.length AQ,.slice AR Aa.length AS,.slice Ak J.length Ah],.agg #[.int .i64 Ad,.int .i64 Ae,.int .i64 Af,.int .i64 Ag,.slice AT Ab.length AU]] w fun e w'=>∃BL:Value,e = .returned (BL)∧Kd.R k39 39 w' w.heap.size (fun _=>True) BL r∧Below w.heap.size w w':=by
 have C5:=Tryz.underlying35;have BF:=Tryz.underlying52;have Be:=aK Bk;have Bf:=aK Bl;clear Bk Bl;have Bg:=aK Bm;have Bh:=aK Bn;clear Bm Bn;have Ai:=aK Aw;have Ay:=aK Ax;clear Aw Ax;have Bi:=aK Bo;have Bj:=aK Bp;clear Bo Bp;have HB:=aK (Below.refl w.heap.size w);have H:=h;unfold spec_PlanLog.f at H;clear h;have BB:=aK H;clear H
 go_enter Tryz.func18,Tryz.ntmps18
 go_upto_region 1 with(first|((with_reducible refine gD 2 rfl ?_);refine boxW ?_;intro Al hg w4 hbox hb;have U:=aK hbox;have C0:=gW HB hg;replace HB:=bS HB hb;clear hb hbox hg)|((with_reducible refine gD 3 rfl ?_);refine boxW ?_;intro Am hg w5 hbox hb;have A0:=aK hbox;have C1:=gW HB hg;replace HB:=bS HB hb;have A_:=nl U hg;have AA:=nr U hg;replace U:=bv U hb;clear hb hbox hg))
 (try simp only[Act.put,List.setIfInBounds_toArray,List.set_cons_zero,List.set_cons_succ])
 go_cut [12] (fun C2 wc=>∃(kq:Nat) (AH:Bool),C2 = .bool AH∧Aside0 (spec_PlanLog.j0 kq AH X Y A9 Aa J Ad Ae Af Ag Ab=some r)∧Aside0 (kq≤k)∧Aside0 (wc.heap[Al]? = some (.cells #[.int .i64 X,.int .i64 Y,(.slice AP A9.length AQ),(.slice AR Aa.length AS),(.slice Ak J.length Ah)] 35 (0,0)))∧Aside0 (wc.heap[Am]? = some (.cells #[.int .i64 Ad,.int .i64 Ae,.int .i64 Af,.int .i64 Ag,(.slice AT Ab.length AU)] 52 (0,0)))∧Aside0 (Below w.heap.size w wc))
 case first=>
  have H:=BB.o;clear BB;obtain⟨Bd,A6,H⟩:=bd H;by_cases c7:Bd=true
  ·subst c7;replace H:=iT H;obtain⟨AO,A8,H⟩:=bd H;have H':=aK H;clear H;have BC:=A_.o;have BD:=AA.o;have:=cf5 U;have BY:=trivial;exact spec_PlanLog.z1
  ·replace c7:=bF c7;subst c7;replace H:=iF H;have H':=aK H;clear H;have BC:=A_.o;have BD:=AA.o;have:=cf5 U;have BZ:=trivial;exact spec_PlanLog.z1
 case rest=>
  clear BB;(try clear c1);(try clear p2);(try clear c4);(try clear c7);(try clear c9);(try clear Ce);obtain⟨kq,AH,rfl,HA,Cf,U,A0,HB⟩:=hcut;cases kq with
  |zero=>exact absurd HA.o (by simp[spec_PlanLog.j0])
  |succ BM=>
   have H:=HA.o;clear HA;simp only[spec_PlanLog.j0]at H;by_cases Az:AH=true
   ·subst Az;replace H:=iT H;obtain⟨BN,AB⟩:∃y_:List (S39),y_=(([]:List (S39))):=⟨_,rfl⟩;replace H:(some BN)=some r:=by first|(rw[AB];with_reducible exact H)|(have BE:=(Option.bind_some _ _).symm.trans H;rw[AB];with_reducible exact BE)|(have BE:=(Option.bind_some _ _).symm.trans H;with_reducible exact BE)|with_reducible exact H|(rw[AB];exact H)|exact H
    have Bq:=aK AB;clear AB;obtain rfl:=oj H;go_wp2_with (first|((with_reducible refine gD 13 rfl ?_);refine Kd.R_lit k39 _ 39 ?hg (N:=13) ?hd (xs:=([]:List (S39))) (inner:=[]) (ok:=fun _=>True) (okp:=fun _=>True) ?hr ?hp (fun _ hk=>hk) trivial (Below.refl _ _) (Nat.le_refl _) (by simp) ?_;(case hd=>rfl);(case hg=>rfl);(case hr=>first|(go_simp;done)|(go_simp;rfl));(case hp=>exact(Reps.none _ _));intro C3 Bs Ao hb hg_ hnew_;clear hg_ hnew_;(first|rw[←Bq.o]at Ao|(simp only[Int.reduceToNat]at Ao;rw[←Bq.o]at Ao));have Br:=rl HB Ao;replace U:=bv U hb;replace A0:=bv A0 hb;replace HB:=bS HB hb;clear hb Ao))
    go_ret
    exact⟨_,fe,rpR Br.o,bl⟩
   ·replace Az:=bF Az;subst Az;replace H:=iF H;obtain⟨AN,Bx,H⟩:=bd H;obtain⟨Bc,C4,H⟩:=bd H;obtain rfl:=oj H;(try go_wp2);replace U:=dB U;replace A0:=dB A0;replace HB:=dW HB;refine start_ (n:=5) (S:=fun w'=>w'.cell? ⟨Al,0,none⟩=some (.int .i64 X)∧w'.cell? ⟨Al,1,none⟩=some (.int .i64 Y)∧w'.cell? ⟨Al,2,none⟩=some (.slice AP A9.length AQ)∧w'.cell? ⟨Al,3,none⟩=some (.slice AR Aa.length AS)∧w'.cell? ⟨Al,4,none⟩=some (.slice Ak J.length Ah)∧w'.cell? ⟨Am,0,none⟩=some (.int .i64 Ad)∧w'.cell? ⟨Am,1,none⟩=some (.int .i64 Ae)∧w'.cell? ⟨Am,2,none⟩=some (.int .i64 Af)∧w'.cell? ⟨Am,3,none⟩=some (.int .i64 Ag)∧w'.cell? ⟨Am,4,none⟩=some (.slice AT Ab.length AU)) (ds:=[]) #[false,false,false,false,false] (by kernel_rfl) rfl rfl hh (fun hHeld=>?_);generalize wc.drew=Bs at U A0 HB hHeld ⊢;refine tV 0 14 #[true,false,false,false,false] ?_;refine tV 1 15 #[true,true,false,false,false] ?_;refine o1 2 16 #[true,true,true,false,false] (fun K hK=>?_);refine goesV Tryz.func73 ?_
    (with_reducible refine(spec_WalText.calls BM Ad Ae Af Ag _ _ Ab AN _ ?_ ?_ Bx.o).mono ?_);exact cB Bi HB;exact Bj.o;rintro e Bt ⟨rfl,hb⟩;refine⟨_,rfl,?_⟩;replace U:=bv U hb;replace A0:=bv A0 hb;replace HB:=bS HB hb;(try clear hb AJ hk hi);refine hK.out _ _ hh (fun hHeld=>?_);clear hK K;refine nm 16 ?_;refine o1 3 17 #[true,true,true,true,false] (fun K hK=>?_);refine goesV Tryz.func72 ?_;(with_reducible refine(spec_l6Anew.calls BM X Y _ _ A9 _ _ Aa _ _ J (⟨#[108,111,103]⟩:ByteArray) AN Bc _ ?_ ?_ ?_ ?_ ?_ ?_ C4.o).mono ?_);exact cB Be HB;exact Bf.o;exact cB Bg HB;exact Bh.o;exact cB Ai HB;exact Ay.o;rintro e BP ⟨C3,rfl,Ao,hb⟩;refine⟨_,rfl,?_⟩;have Br:=rl HB Ao;replace U:=bv U hb;replace A0:=bv A0 hb;replace HB:=bS HB hb;(try clear hb AJ hk hi Ao);refine hK.out _ _ hh (fun hHeld=>?_);clear hK K;refine nm 17 ?_;refine pV 4 4 #[true,true,true,true,true] ?_
    refine done_ (by kernel_rfl) ?_;(try go_wp2)
    go_ret
    exact⟨_,fe,rpR Br.o,bl⟩
def laws_toEntry.f (U:Int) (X:ByteArray):Option (Int×ByteArray):=some (U,X)
theorem laws_toEntry.calls (U:Int) (X:ByteArray) (r1:Int) (r2:ByteArray) (w:World) (h:laws_toEntry.f U X=some (r1,r2)) :
 Calls Tryz.prog 134 #[.agg #[.int .i64 U,.string X]] w fun e w'=>e = .returned (.agg #[.int .i64 r1,.string r2])∧Below w.heap.size w w':=by
 have AW:=Tryz.underlying156;have AX:=Tryz.underlying115;have HB:=aK (Below.refl w.heap.size w);have H:=h;unfold laws_toEntry.f at H;clear h;simp only[Option.some.injEq,Prod.mk.injEq]at H;obtain⟨rfl,rfl⟩:=H
 go_enter Tryz.func134,Tryz.ntmps134
 go_wp2_with (first|((with_reducible refine gD 1 rfl ?_);refine boxW ?_;intro By hg w2 hbox hb;have Z:=aK hbox;have Bz:=gW HB hg;replace HB:=bS HB hb;clear hb hbox hg)|((with_reducible refine gD 2 rfl ?_);refine boxW ?_;intro AY hg w3 hbox hb;have A6:=aK hbox;have B_:=gW HB hg;replace HB:=bS HB hb;have Af:=nl Z hg;have Ag:=nr Z hg;replace Z:=bv Z hb;clear hb hbox hg)|((with_reducible refine gD 3 rfl ?_);refine boxW ?_;intro BA hg w4 hbox hb;have AZ:=aK hbox;have BB:=gW HB hg;replace HB:=bS HB hb;have Ah:=nl Z hg;have Ai:=nr Z hg;replace Z:=bv Z hb;have Aj:=nl A6 hg;have Ak:=nr A6 hg;replace A6:=bv A6 hb;clear hb hbox hg;have BI:=Af.o;have BJ:=Ag.o;have Bb:=Ah.o;have Bc:=Ai.o;have:=cf2 Z;have BK:=Ak.o;have BL:=Aj.o;have:=cf2 AZ;have:=cf2 A6))
 refine bodyPost_ret (results_cell_row rfl _ _ AY 115 #[.int .i64 U,.string X] (0,0) _ rfl bkk Tryz.underlying115 rfl (by kernel_rfl)) rfl ?_;exact⟨fe,bl⟩
def laws_toEntryS.l0:Nat→List (S156)→List (S115)→Int→Option ((List (S115)))
 | 0,_,_,_=>none
 |k+1,x0,x3,x4=>if x4<(x0.length:Int)then(if 0≤x4 then((laws_toEntry.f ((rd_T156 x0 x4).f0) ((rd_T156 x0 x4).f1)).bind fun A_=>(if x4<(x3.length:Int)then(laws_toEntryS.l0 k x0 (x3.set (x4:Int).toNat (⟨A_.1,A_.2⟩:S115)) (wrap64 (x4+1)))else(none)))else(none))else(some x3)
def laws_toEntryS.f (k:Nat) (l0:List (S156)):Option ((List (S115))):=if 0≤(l0.length:Int)then(if((l0.length:Int):Int).toNat≤11728124029610 then(laws_toEntryS.l0 k l0 (List.replicate ((l0.length:Int):Int).toNat z115) 0)else(none))else(none)
theorem laws_toEntryS.calls (k:Nat) (A0:Option Addr) (c0:Nat) (l0:List (S156)) (r:List (S115)) (w:World) (Bd:Kd.C k156 w A0 l0.length l0) (Be:l0.length≤c0) (h:laws_toEntryS.f k l0=some r) :
 Calls Tryz.prog 74 #[.slice A0 l0.length c0] w fun e w'=>∃Bf:Value,e = .returned (Bf)∧Kd.R k115 115 w' w.heap.size (fun _=>True) Bf r∧Below w.heap.size w w':=by
 have AW:=Tryz.underlying156;have AX:=Tryz.underlying115;have BC:=aK Bd;have C0:=aK Be;clear Bd Be;have HB:=aK (Below.refl w.heap.size w);have H:=h;unfold laws_toEntryS.f at H;clear h;by_cases c2:0≤(l0.length:Int)
 ·rw[if_pos c2]at H;have Bg:=eq_true c2;have Bh:=dt c2;clear c2;by_cases c3:((l0.length:Int):Int).toNat≤11728124029610
  ·rw[if_pos c3]at H;have Bi:=eq_true c3;have Bj:=dt c3;clear c3;obtain⟨Bk,Al⟩:=yy (List.replicate ((l0.length:Int):Int).toNat z115);rw[←Al]at H;(try rw[obs]at H)
   have AA:=aK Al;clear Al;have H':=aK H;clear H
   go_enter Tryz.func74,Tryz.ntmps74
   go_wp2_with (first|((with_reducible refine gD 7 rfl ?_);refine Kd.R_make k115 _ 115 rfl (N:=7) rfl 50 _ _ rfl (l0.length:Int) rfl rfl Tryz.underlying50 (.agg #[(.int .i64 0),(.string ⟨#[]⟩)]) 24 info115 rfl (by decide) (by omega) z115 (ok:=fun _=>True) (okp:=fun _=>True) (k115_mkM _ _ _ z115) (fun _ hk=>hk) trivial (dT am) (Nat.le_trans (Nat.mul_le_mul_right _ (dT am:(l0.length:Int).toNat≤11728124029610)) (by omega)) (Below.refl _ _) (Nat.le_refl _) ?_;intro BD C1 Ae hb hg_ hnew_;clear hg_ hnew_;(first|rw[←AA.o]at Ae|(simp only[Int.reduceToNat]at Ae;rw[←AA.o]at Ae));have Bl:=rl HB Ae;replace HB:=bS HB hb;clear hb Ae))
   go_loopg [4] k (fun kq v4 w'=>∃(Y:List (S115)) (D:Int),v4 = .int .i64 D∧Aside0 (laws_toEntryS.l0 kq l0 Y D=some r)∧Aside0 (kq≤k)∧Aside0 (Kd.R k115 115 w' w.heap.size (fun _=>True) BD Y)∧Aside0 (Below w.heap.size w w'))
   case atStart=>exact⟨(Bk),(0),fa,H',⟨Nat.le_refl _⟩,⟨rpR Bl.o⟩,⟨bl⟩⟩
   case round=>
    clear H';(try clear c2);(try clear Bg);(try clear Bh);(try clear p2);(try clear c3);(try clear Bi);(try clear Bj);obtain⟨Y,D,rfl,HA,Bm,A1,HB⟩:=hrel;cases gk with
    |zero=>exact absurd HA.o (by simp[laws_toEntryS.l0])
    |succ k1=>
     have H:=HA.o;clear HA;simp only[laws_toEntryS.l0]at H;by_cases c6:D<(l0.length:Int)
     ·rw[if_pos c6]at H;have Bn:=dt c6;clear c6;by_cases c7:0≤D
      ·rw[if_pos c7]at H;have BM:=dt c7;clear c7;replace H:=oB H;obtain⟨⟨Aa,Ab⟩,Bo,H⟩:=H;dsimp only at H;have A8:=aK Bo;clear Bo;by_cases c9:D<(Y.length:Int)
       ·rw[if_pos c9]at H;have BN:=dt c9;clear c9;obtain⟨AN,Am⟩:=yy (Y.set (D:Int).toNat (⟨Aa,Ab⟩:S115));rw[←Am]at H;(try rw[obs]at H)
        have B0:=aK Am;clear Am;have H':=aK H;clear H;have B1:0≤(D:Int):=dT am;have B2:D<(l0.length:Int):=dT am;obtain⟨BO,BE,Ax,Ay⟩:=at_T156 BC.o D B1 B2;cases BE;replace Ax:=cz HB Ax;replace Ay:=cz HB Ay;replace B1:=eq_true B1;replace B2:=eq_true B2
        go_wp2_with (first|((with_reducible refine gC 134 rfl ?_);refine goesW Tryz.func134 ?_;(with_reducible refine(laws_toEntry.calls ((rd_T156 l0 D).f0) ((rd_T156 l0 D).f1) Aa Ab _ A8.o).mono ?_);rintro e An ⟨rfl,hb⟩;refine⟨_,rfl,?_⟩;replace A1:=rb A1 hb;replace HB:=bS HB hb;(try clear hb);have B3:0≤(D:Int):=dT am;have B4:(D:Int)<((Y.length:Int):Int):=dT am;obtain⟨A4,AO,AP,AQ,Bp,BP,AR⟩:=Kd.R_form A1.o (by omega);(first|cases AP|(injection AP with ea_ en_ ec_;(first|subst ea_|(injection ea_ with ea_;subst ea_));subst ec_;clear en_));have AS:=aK AQ;have BQ:=aK AR;clear AQ Bp AR;obtain⟨BR,B5,AT,Ao,Ap⟩:=Kd.R_elem A1.o z115 (D:Int) B3 B4;obtain rfl:=k115_openM AT;have Bu:An.cell? ⟨A4,(D:Int).toNat*2,none⟩=some (.int .i64 ((rd_T115 Y D).f0)):=Ao 0 _ rfl;have Bv:An.cell? ⟨A4,(D:Int).toNat*2+1,none⟩=some (.string ((rd_T115 Y D).f1)):=Ao 1 _ rfl;have Bw:An.frozen? ⟨A4,(D:Int).toNat*2,none⟩=false:=Ap 0;have Bx:An.frozen? ⟨A4,(D:Int).toNat*2+1,none⟩=false:=Ap 1;clear B5 Ao Ap AT;replace B3:=eq_true B3;replace B4:=eq_true B4;have AU:=aK (show Kd.R k115 115 An w.heap.size (fun _=>True) (.slice (some ⟨A4,0,none⟩) Y.length AO) Y from(rpR A1.o));obtain⟨BS,AB,AV,Ac,Aq⟩:=Kd.R_elem AU.o z115 (D:Int) (dT am) (by have h_:(D:Int)<((Y.length:Int):Int):=dT am;first|exact h_|(have e_:=(Kd.R_reads' A1.o).1;omega)|simpa using h_);obtain rfl:=k115_openM AV;have AC:=Kd.R_seg AU.o (D:Int) (dT am) (by have h_:(D:Int)<((Y.length:Int):Int):=dT am;first|exact h_|(have e_:=(Kd.R_reads' A1.o).1;omega)|simpa using h_) (seg:=[.int .i64 Aa,.string Ab]) (j:=0) AB Ac (show 2≤2 from by decide) (x':=(⟨Aa,Ab⟩:S115)) (k115_mkM _ _ _ (⟨Aa,Ab⟩:S115)) (fun _ hk=>hk);have AJ:=Ac 0 _ rfl;(try simp only[show(k115).sz=2 from rfl,Nat.mul_one,Nat.add_zero]at AJ);have AK:=Aq 0;(try simp only[show(k115).sz=2 from rfl,Nat.mul_one,Nat.add_zero]at AK);have AL:=Ac 1 _ rfl;(try simp only[show(k115).sz=2 from rfl,Nat.mul_one,Nat.add_zero]at AL);have AM:=Aq 1;(try simp only[show(k115).sz=2 from rfl,Nat.mul_one,Nat.add_zero]at AM);clear AB Ac Aq AV)|((with_reducible refine gate_store (t:=115) (p:=21) rfl ?_);refine store_event (t:=115) (p:=21) (v:=?vo_w13) (w1:=((An.setCell ⟨A4,(D:Int).toNat*2,none⟩ (.int .i64 Aa)).setCell ⟨A4,(D:Int).toNat*2+1,none⟩ (.string Ab))) ?hg ?ho ?hn ?hr ?_;(case ho=>rfl);(case hg=>rfl);(case hn=>rfl);(case hr=>first|(go_simp;done)|(go_simp;rfl));intro B6 hw;have hg:An.grownBy B6 (some A4):=(by rw[hw];exact AC.2);have hp_:Kd.R k115 115 B6 w.heap.size (fun _=>True) (.slice (some ⟨A4,0,none⟩) Y.length AO) AN:=(by rw[hw,B0.o];exact AC.1);clear AC;replace A1:=aK (hp_);replace HB:=aK ((by rw[hw];exact below_set (below_set (HB.o) AS.o) AS.o:Below w.heap.size w B6));clear hg hw hp_))
        go_roundg k1
        case measure=>have:=Bm.o;omega
        case rel=>exact⟨(AN),(wrap64 (D+1)),fa,H',⟨by have:=Bm.o;omega⟩,⟨rpR A1.o⟩,⟨bl⟩⟩
       ·rw[if_neg c9]at H;exact absurd H (by simp)
      ·rw[if_neg c7]at H;exact absurd H (by simp)
     ·rw[if_neg c6]at H;have Bn:=df c6;clear c6;obtain rfl:=oj H;go_wp2
      go_ret
      exact⟨_,fe,rpR A1.o,bl⟩
  ·rw[if_neg c3]at H;exact absurd H (by simp)
 ·rw[if_neg c2]at H;exact absurd H (by simp)
def laws_toWal.f (k:Nat) (U:Int) (X:Int) (A7:Int) (A9:Int) (A5:List (S156)):Option (Int×Int×Int×Int×(List (S115))):=(laws_toEntryS.f k A5).bind fun Az=>(some (U,X,A7,A9,Az))
theorem laws_toWal.calls (k:Nat) (U:Int) (X:Int) (A7:Int) (A9:Int) (AD:Option Addr) (AE:Nat) (A5:List (S156)) (r1:Int) (r2:Int) (r3:Int) (r4:Int) (r5:List (S115)) (w:World) (AF:Kd.C k156 w AD A5.length A5) (AG:A5.length≤AE) (h:laws_toWal.f k U X A7 A9 A5=some (r1,r2,r3,r4,r5)) :
 Calls Tryz.prog 19 #[.agg #[.int .i64 U,.int .i64 X,.int .i64 A7,.int .i64 A9,.slice AD A5.length AE]] w fun e w'=>∃Bq:Value,e = .returned (.agg #[.int .i64 r1,.int .i64 r2,.int .i64 r3,.int .i64 r4,Bq])∧Kd.R k115 115 w' w.heap.size (fun _=>True) Bq r5∧Below w.heap.size w w':=by
 have BT:=Tryz.underlying46;have BU:=Tryz.underlying52;have B7:=aK AF;have B8:=aK AG;clear AF AG;have HB:=aK (Below.refl w.heap.size w);have H:=h;unfold laws_toWal.f at H;clear h;obtain⟨Az,A2,H⟩:=bd H;simp only[Option.some.injEq,Prod.mk.injEq]at H;obtain⟨rfl,rfl,rfl,rfl,rfl⟩:=H
 go_enter Tryz.func19,Tryz.ntmps19
 go_wp2_with (first|((with_reducible refine gD 1 rfl ?_);refine boxW ?_;intro B9 hg w3 hbox hb;have J:=aK hbox;have BF:=gW HB hg;replace HB:=bS HB hb;clear hb hbox hg)|((with_reducible refine gD 2 rfl ?_);refine boxW ?_;intro AH hg w4 hbox hb;have A3:=aK hbox;have BG:=gW HB hg;replace HB:=bS HB hb;have Ar:=nl J hg;have As:=nr J hg;replace J:=bv J hb;clear hb hbox hg)|((with_reducible refine gD 3 rfl ?_);refine boxW ?_;intro Ba hg w5 hbox hb;have Ad:=aK hbox;have BH:=gW HB hg;replace HB:=bS HB hb;have At:=nl J hg;have Au:=nr J hg;replace J:=bv J hb;have Av:=nl A3 hg;have Aw:=nr A3 hg;replace A3:=bv A3 hb;clear hb hbox hg;have Bb:=Ar.o;have Bc:=As.o;have BV:=At.o;have BW:=Au.o;have:=cf5 J;have BX:=Aw.o;have BY:=Av.o;have:=cf5 Ad)|((with_reducible refine gC 74 rfl ?_);refine goesW Tryz.func74 ?_;(with_reducible refine(laws_toEntryS.calls k _ _ A5 Az _ ?_ ?_ A2.o).mono ?_);exact Kd.C_below B7.o bl;exact B8.o;rintro e C2 ⟨BZ,rfl,Br,hb⟩;refine⟨_,rfl,?_⟩;have AI:=rl HB Br;replace J:=aK (blk_below (g:=B9) (o:=.cells #[.int .i64 U,.int .i64 X,.int .i64 A7,.int .i64 A9,.slice AD A5.length AE] 46 (0,0)) bkk hb);replace A3:=aK (blk_below (g:=AH) (o:=.cells #[.int .i64 0,.int .i64 0,.int .i64 0,.int .i64 0,.slice none 0 0] 52 (0,0)) bkk hb);replace Ad:=aK (blk_below (g:=Ba) (o:=.cells #[.int .i64 U,.int .i64 X,.int .i64 A7,.int .i64 A9,.slice none 0 0] 52 (0,0)) bkk hb);replace HB:=bS HB hb;(try clear hb Br);obtain⟨Bs,Bt,rfl⟩:=rs AI;have:=cf5 Ad;have:=cf5 A3))
 refine bodyPost_ret (results_cell_row rfl _ _ AH 52 #[.int .i64 U,.int .i64 X,.int .i64 A7,.int .i64 A9,.slice Bs Az.length Bt] (0,0) _ rfl bkk Tryz.underlying52 rfl (by kernel_rfl)) rfl ?_;exact⟨_,fe,rpR (rM (mB (qb (qb (qb (qb (qb (qa (eB AI Ad A3)))))))) (fun _ hk=>trivial)),bl⟩
end Go.Proofs.YtndbmllnkjngnaaGreat.PDs
