/- Functions of the program, each with its contract, written by a program out of the translation. -/
import Derived.Test.YtndbmllnkjngnaaGreatPDsx0
import Derived.Test.YtndbmllnkjngnaaGreatPDsx31
import Derived.Test.YtndbmllnkjngnaaGreatPDsx4
import Derived.Test.YtndbmllnkjngnaaGreatPDsx5
import Derived.Test.YtndbmllnkjngnaaGreatZip
namespace Go.Proofs.YtndbmllnkjngnaaGreat.PDs
open Go.RowKit Go.Proofs.YtndbmllnkjngnaaGreatW.PrintWords Go.Proofs.YtndbmllnkjngnaaGreatW.PrintLast Go.Proofs.YtndbmllnkjngnaaGreatW.PrintMore Go.Proofs.YtndbmllnkjngnaaGreat.Zip
attribute [local go_sem] max2_int min2_int max_two min_two max_three min_three max_four min_four
set_option linter.unusedVariables false
set_option linter.unusedSimpArgs false
set_option maxHeartbeats 8000000
set_option maxRecDepth 100000
def spec_l5Based.f (a0:Int) (J:Int):Option (Bool):=if a0=0 then(some (J==0))else((spec_l1In.f a0 1 100000).bind fun Bi=>(if Bi=true then((spec_l1In.f J 1 100000).bind fun Bj=>(some Bj))else(some false)))
theorem spec_l5Based.z1 {p:Prop} (h:p:=by
 go_enter Tryz.func131,Tryz.ntmps131
 go_wp2_with (first|((with_reducible refine gc 99 ?_);refine goesW Tryz.func99 ?_;(with_reducible refine mo (spec_l1In.calls a0 1 100000 _ _ A4.o) ?_);rintro _ ⟨nd,rfl⟩)|(go_at_call 99;(with_reducible refine(spec_l1In.calls J 1 100000 Bj _ A6.o).mono ?_);rintro e w' ⟨rfl,⟨nd,rfl⟩⟩))
 go_ret
 exact⟨fa,fd⟩):p:=h
theorem spec_l5Based.calls (a0:Int) (J:Int) (r:Bool) (w:World) (h:spec_l5Based.f a0 J=some r) :
 Calls Tryz.prog 131 #[.int .i64 a0,.int .i64 J] w fun e w'=>e = .returned (.bool r)∧Drawn0 w w':=by
 have H:=h;unfold spec_l5Based.f at H;clear h;by_cases c3:a0=0
 ·rw[if_pos c3]at H;have BY:=bT c3;have BZ:=bE c3;clear c3;obtain rfl:=oj H
  go_enter Tryz.func131,Tryz.ntmps131
  go_wp2
  go_ret
  exact⟨fa,fd⟩
 ·rw[if_neg c3]at H;have BY:=bN c3;have BZ:=bQ c3;obtain⟨Bi,A4,H⟩:=bd H;by_cases c5:Bi=true
  ·subst c5;replace H:=iT H;obtain⟨Bj,A6,H⟩:=bd H;obtain rfl:=oj H
   exact spec_l5Based.z1
  ·replace c5:=bF c5;subst c5;replace H:=iF H;obtain rfl:=oj H
   exact spec_l5Based.z1
mutual
def spec_WalOk.j0:Nat→Bool→Int→Int→Int→Int→List (S115)→Option (Bool)
 | 0,_,_,_,_,_,_=>none
 |k+1,Cg,Aw,AC,AD,Ax,A2=>if Cg=true then(some false)else(spec_WalOk.l0 k Ax 0 Aw AC AD Ax A2)
def spec_WalOk.l0:Nat→Int→Int→Int→Int→Int→Int→List (S115)→Option (Bool)
 | 0,_,_,_,_,_,_,_=>none
 |k+1,x3,x4,Aw,AC,AD,Ax,A2=>if x4<(A2.length:Int)then(if 0≤x4 then(if((rd_T115 A2 x4).f0)<1 then(some false)else(if((rd_T115 A2 x4).f0)<x3 then(some false)else(if((rd_T115 A2 x4).f0)>Aw then(some false)else(if(((rd_T115 A2 x4).f1).size:Int)>900 then(some false)else(spec_WalOk.l0 k ((rd_T115 A2 x4).f0) (wrap64 (x4+1)) Aw AC AD Ax A2)))))else(none))else(some true)
end
def spec_WalOk.f (k:Nat) (U:Int) (X:Int) (Ab:Int) (Aa:Int) (D:List (S115)):Option (Bool):=(spec_l1In.f U 0 100000).bind fun Bk=>(if Bk=true then((spec_l1In.f X (-1) 4).bind fun Bl=>(if Bl=true then((spec_l5Based.f Ab Aa).bind fun Bm=>(if Bm=true then(if Aa>U then(spec_WalOk.j0 k true U X Ab Aa D)else(if(D.length:Int)>60 then(spec_WalOk.j0 k true U X Ab Aa D)else(spec_WalOk.j0 k (decide ((wrap64 (Ab+(D.length:Int)))>100000)) U X Ab Aa D)))else(spec_WalOk.j0 k true U X Ab Aa D)))else(spec_WalOk.j0 k true U X Ab Aa D)))else(spec_WalOk.j0 k true U X Ab Aa D))
theorem spec_WalOk.z1 {p:Prop} (h:p:=by
 go_wp2_with (first|((with_reducible refine gc 99 ?_);refine goesW Tryz.func99 ?_;(with_reducible refine mo (spec_l1In.calls U 0 100000 _ _ A4.o) ?_);rintro _ ⟨nd,rfl⟩)|(go_at_call 99;(with_reducible refine(spec_l1In.calls X (-1) 4 _ _ A6.o).mono ?_);rintro e w' ⟨rfl,⟨nd,rfl⟩⟩)|(go_at_call 131;(with_reducible refine(spec_l5Based.calls Ab Aa _ _ A8.o).mono ?_);rintro e w' ⟨rfl,⟨nd,rfl⟩⟩))
 (first|(have _:=AL;go_meet;(case rel=>exact⟨_,(true),fa,H',⟨by first|omega|exact Nat.le_refl _⟩,⟨bw A1⟩,⟨bl⟩⟩))|(have _:=BD;go_meet;(case rel=>exact⟨_,(decide ((wrap64 (Ab+(D.length:Int)))>100000)),fa,H',⟨by first|omega|exact Nat.le_refl _⟩,⟨bw A1⟩,⟨bl⟩⟩)))):p:=h
theorem spec_WalOk.z2 {p:Prop} (h:p:=by
 go_wp2_with (first|((with_reducible refine gd 5 ?_);(try (refine gate_guard rfl ?_;dsimp only));refine boxQ HB ?_;clear HB;intro Ch hg Ci BE Cj HB hb;have BF:=nL A1 hg;have BG:=nR A1 hg;replace A1:=bv A1 hb;clear hb hg;have:=cf2 BE;have:=cf5 A1))
 (first|(have _:=AL;go_ret;exact⟨fe,bl⟩)|(have _:=BD;(go_roundg k2);(case measure=>have:=C0.o;have:=Bn.o;omega);(case rel=>exact⟨((rd_T115 D Ac).f0),(wrap64 (Ac+1)),fa,fa,H',⟨by have:=C0.o;have:=Bn.o;omega⟩,⟨bkk⟩,⟨bl⟩⟩)))):p:=h
theorem spec_WalOk.calls (k:Nat) (U:Int) (X:Int) (Ab:Int) (Aa:Int) (Ae:Option Addr) (Af:Nat) (D:List (S115)) (r:Bool) (w:World) (Al:Kd.C k115 w Ae D.length D) (Am:D.length≤Af) (h:spec_WalOk.f k U X Ab Aa D=some r) :
 Calls Tryz.prog 71 #[.agg #[.int .i64 U,.int .i64 X,.int .i64 Ab,.int .i64 Aa,.slice Ae D.length Af]] w fun e w'=>e = .returned (.bool r)∧Below w.heap.size w w':=by
 have Cx:=Tryz.underlying52;have Ck:=Tryz.underlying115;have Ai:=aK Al;have An:=aK Am;clear Al Am;have HB:=aK (Below.refl w.heap.size w);have H:=h;unfold spec_WalOk.f at H;clear h;have BH:=aK H;clear H
 go_enter Tryz.func71,Tryz.ntmps71
 go_upto_region 1 with(first|((with_reducible refine gd 1 ?_);(try (refine gate_guard rfl ?_;dsimp only));refine boxQ HB ?_;clear HB;intro Bo hg w3 A1 Cl HB hb;clear hb hg))
 (try simp only[Act.put,List.setIfInBounds_toArray,List.set_cons_zero,List.set_cons_succ])
 go_cut [45] (fun Cm wc=>∃(kq:Nat) (AO:Bool),Cm = .bool AO∧Aside0 (spec_WalOk.j0 kq AO U X Ab Aa D=some r)∧Aside0 (kq≤k)∧Aside0 (wc.heap[Bo]? = some (.cells #[.int .i64 U,.int .i64 X,.int .i64 Ab,.int .i64 Aa,(.slice Ae D.length Af)] 52 (0,0)))∧Aside0 (Below w.heap.size w wc))
 case first=>
  have H:=BH.o;clear BH;obtain⟨Bk,A4,H⟩:=bd H;by_cases c5:Bk=true
  ·subst c5;replace H:=iT H;obtain⟨Bl,A6,H⟩:=bd H;by_cases c7:Bl=true
   ·subst c7;replace H:=iT H;obtain⟨Bm,A8,H⟩:=bd H;by_cases c9:Bm=true
    ·subst c9;replace H:=iT H;by_cases c10:Aa>U
     ·rw[if_pos c10]at H;have AE:=dt c10;clear c10;(first|rw[AE]|(simp only[i64_w,i32_w];rw[AE])|skip);have H':=aK H;clear H;have:=cf5 A1;have AL:=trivial;exact spec_WalOk.z1
     ·rw[if_neg c10]at H;have AE:=df c10;clear c10;(first|rw[AE]|(simp only[i64_w,i32_w];rw[AE])|skip);by_cases Ak:(D.length:Int)>60
      ·rw[if_pos Ak]at H;have AP:=dt Ak;have BI:decide (60<D.length)=true:=dt (by omega);clear Ak;have H':=aK H;clear H;have:=cf5 A1;have AL:=trivial;exact spec_WalOk.z1
      ·rw[if_neg Ak]at H;have AP:=df Ak;have BI:decide (60<D.length)=false:=df (by omega);clear Ak;have H':=aK H;clear H;have:=cf5 A1;have BD:=trivial;exact spec_WalOk.z1
    ·replace c9:=bF c9;subst c9;replace H:=iF H;have H':=aK H;clear H;have:=cf5 A1;have AL:=trivial;exact spec_WalOk.z1
   ·replace c7:=bF c7;subst c7;replace H:=iF H;have H':=aK H;clear H;have:=cf5 A1;have AL:=trivial;exact spec_WalOk.z1
  ·replace c5:=bF c5;subst c5;replace H:=iF H;have H':=aK H;clear H;have:=cf5 A1;have AL:=trivial;exact spec_WalOk.z1
 case rest=>
  clear BH;obtain⟨kq,AO,rfl,HA,C0,A1,HB⟩:=hcut;cases kq with
  |zero=>exact absurd HA.o (by simp[spec_WalOk.j0])
  |succ C1=>
   have H:=HA.o;clear HA;simp only[spec_WalOk.j0]at H;by_cases Bz:AO=true
   ·subst Bz;replace H:=iT H;obtain rfl:=oj H;go_wp2
    go_ret
    exact⟨fe,bl⟩
   ·replace Bz:=bF Bz;subst Bz;replace H:=iF H;have H':=aK H;clear H;have:=cf5 A1;go_wp2
    go_loopg [3,4] C1 (fun kq v3 v4 w'=>∃(Bc:Int) (Ac:Int),v3 = .int .i64 Bc∧v4 = .int .i64 Ac∧Aside0 (spec_WalOk.l0 kq Bc Ac U X Ab Aa D=some r)∧Aside0 (kq≤C1)∧Aside0 (w'.heap[Bo]? = some (.cells #[.int .i64 U,.int .i64 X,.int .i64 Ab,.int .i64 Aa,(.slice Ae D.length Af)] 52 (0,0)))∧Aside0 (Below w.heap.size w w'))
    case atStart=>exact⟨(Aa),(0),fa,fa,H',⟨Nat.le_refl _⟩,⟨bw A1⟩,⟨bl⟩⟩
    case round=>
     clear H';obtain⟨Bc,Ac,rfl,rfl,HA,Bn,A1,HB⟩:=hrel;cases gk with
     |zero=>exact absurd HA.o (by simp[spec_WalOk.l0])
     |succ k2=>
      have H:=HA.o;clear HA;simp only[spec_WalOk.l0]at H;by_cases Bd:Ac<(D.length:Int)
      ·rw[if_pos Bd]at H;have BJ:=dt Bd;clear Bd;by_cases B_:0≤Ac
       ·rw[if_pos B_]at H;have Cn:=dt B_;clear B_;have Hq_:=aK H;clear H;have:=cf5 A1;have Bp:0≤(Ac:Int):=dT am;have Bq:Ac<(D.length:Int):=dT am;obtain⟨Co,C2,AW,AX⟩:=at_T115 Ai.o Ac Bp Bq;cases C2;replace AW:=cz HB AW;replace AX:=cz HB AX;replace Bp:=eq_true Bp;replace Bq:=eq_true Bq;have H:=Hq_.o;clear Hq_;by_cases Be:((rd_T115 D Ac).f0)<1
        ·rw[if_pos Be]at H;have B0:=dt Be;(try rw[B0]);clear Be;obtain rfl:=oj H;have AL:=trivial;exact spec_WalOk.z2
        ·rw[if_neg Be]at H;have B0:=df Be;(try rw[B0]);clear Be;by_cases Bf:((rd_T115 D Ac).f0)<Bc
         ·rw[if_pos Bf]at H;have B1:=dt Bf;(try rw[B1]);clear Bf;obtain rfl:=oj H;have AL:=trivial;exact spec_WalOk.z2
         ·rw[if_neg Bf]at H;have B1:=df Bf;(try rw[B1]);clear Bf;by_cases Bg:((rd_T115 D Ac).f0)>U
          ·rw[if_pos Bg]at H;have B2:=dt Bg;(try rw[B2]);clear Bg;obtain rfl:=oj H;have AL:=trivial;exact spec_WalOk.z2
          ·rw[if_neg Bg]at H;have B2:=df Bg;(try rw[B2]);clear Bg;by_cases Bh:(((rd_T115 D Ac).f1).size:Int)>900
           ·rw[if_pos Bh]at H;have B3:=dt Bh;(try rw[B3]);have B4:decide (900<((rd_T115 D Ac).f1).size)=true:=dt (by omega);(try rw[B4]);clear Bh;obtain rfl:=oj H;have AL:=trivial;exact spec_WalOk.z2
           ·rw[if_neg Bh]at H;have B3:=df Bh;(try rw[B3]);have B4:decide (900<((rd_T115 D Ac).f1).size)=false:=df (by omega);(try rw[B4]);clear Bh;have H':=aK H;clear H;have BD:=trivial;exact spec_WalOk.z2
       ·exact no B_ H
      ·rw[if_neg Bd]at H;have BJ:=df Bd;clear Bd;obtain rfl:=oj H;have:=cf5 A1;go_wp2
       go_ret
       exact⟨fe,bl⟩
def spec_Load.f (k:Nat) (U:Int) (X:Int) (Y:List (S130)) (A0:List (S133)) (D:List (S135)) (J:ByteArray):Option (ByteArray×Bool):=(spec_DiskOk.f k U X Y A0 D).bind fun Br=>(if Br=true then((spec_l4Find.f k U X Y A0 D J).bind fun Ag=>(if Ag<0 then(some ((⟨#[]⟩:ByteArray),false))else(if 0≤Ag then(if Ag<(Y.length:Int)then(some ((rd_T130 Y Ag).f1,true))else(none))else(none))))else(some ((⟨#[]⟩:ByteArray),false)))
theorem spec_Load.z1 {p:Prop} (h:p:=by
 go_enter Tryz.func86,Tryz.ntmps86
 go_wp2_with (first|((with_reducible refine gd 2 ?_);refine boxQ HB ?_;clear HB;intro BK hg BL A7 BM HB hb;clear hb hg;have:=cf5 A7)|((with_reducible refine gc 42 ?_);refine goesW Tryz.func42 ?_;(with_reducible refine mo (spec_DiskOk.calls k U X _ _ Y _ _ A0 _ _ D _ _ ?_ ?_ ?_ ?_ ?_ ?_ A3.o) ?_);exact cB Ao HB;exact At.o;exact cB Au HB;exact Av.o;exact cB Ai HB;exact An.o;intro BN hb;replace A7:=bv A7 hb;replace HB:=bS HB hb;have:=cf5 A7)|((with_reducible refine gc 106 ?_);refine goesW Tryz.func106 ?_;(with_reducible refine mo (spec_l4Find.calls k U X _ _ Y _ _ A0 _ _ D J Ag _ ?_ ?_ ?_ ?_ ?_ ?_ A5.o) ?_);exact cB Ao HB;exact At.o;exact cB Au HB;exact Av.o;exact cB Ai HB;exact An.o;intro BO hb;replace A7:=bv A7 hb;replace HB:=bS HB hb))
 go_ret2
 exact⟨fe,bl⟩):p:=h
theorem spec_Load.calls (k:Nat) (U:Int) (X:Int) (Az:Option Addr) (A_:Nat) (Y:List (S130)) (AA:Option Addr) (AB:Nat) (A0:List (S133)) (Ae:Option Addr) (Af:Nat) (D:List (S135)) (J:ByteArray) (r1:ByteArray) (r2:Bool) (w:World) (AF:Kd.C k130 w Az Y.length Y) (AG:Y.length≤A_) (AH:Kd.C k133 w AA A0.length A0) (AI:A0.length≤AB) (Al:Kd.C k135 w Ae D.length D) (Am:D.length≤Af) (h:spec_Load.f k U X Y A0 D J=some (r1,r2)) :
 Calls Tryz.prog 86 #[.agg #[.int .i64 U,.int .i64 X,.slice Az Y.length A_,.slice AA A0.length AB,.slice Ae D.length Af],.string J] w fun e w'=>e = .returned (.tuple #[.string r1,.bool r2])∧Below w.heap.size w w':=by
 have C3:=Tryz.underlying35;have Ao:=aK AF;have At:=aK AG;clear AF AG;have Au:=aK AH;have Av:=aK AI;clear AH AI;have Ai:=aK Al;have An:=aK Am;clear Al Am;have HB:=aK (Below.refl w.heap.size w);have H:=h;unfold spec_Load.f at H;clear h;obtain⟨Br,A3,H⟩:=bd H;by_cases c4:Br=true
 ·subst c4;replace H:=iT H;obtain⟨Ag,A5,H⟩:=bd H;by_cases c6:Ag<0
  ·rw[if_pos c6]at H;have C4:=dt c6;clear c6;obtain⟨rfl,rfl⟩:=t2 H
   exact spec_Load.z1
  ·rw[if_neg c6]at H;have C4:=df c6;clear c6;by_cases Ak:0≤Ag
   ·rw[if_pos Ak]at H;have AP:=dt Ak;clear Ak;by_cases BA:Ag<(Y.length:Int)
    ·rw[if_pos BA]at H;have Cp:=dt BA;clear BA;obtain⟨rfl,rfl⟩:=t2 H
     go_enter Tryz.func86,Tryz.ntmps86
     go_wp2_with (first|((with_reducible refine gd 2 ?_);refine boxQ HB ?_;clear HB;intro BK hg BL A7 BM HB hb;clear hb hg;have:=cf5 A7)|((with_reducible refine gc 42 ?_);refine goesW Tryz.func42 ?_;(with_reducible refine mo (spec_DiskOk.calls k U X _ _ Y _ _ A0 _ _ D _ _ ?_ ?_ ?_ ?_ ?_ ?_ A3.o) ?_);exact cB Ao HB;exact At.o;exact cB Au HB;exact Av.o;exact cB Ai HB;exact An.o;intro BN hb;replace A7:=bv A7 hb;replace HB:=bS HB hb;have:=cf5 A7)|((with_reducible refine gc 106 ?_);refine goesW Tryz.func106 ?_;(with_reducible refine mo (spec_l4Find.calls k U X _ _ Y _ _ A0 _ _ D J Ag _ ?_ ?_ ?_ ?_ ?_ ?_ A5.o) ?_);exact cB Ao HB;exact At.o;exact cB Au HB;exact Av.o;exact cB Ai HB;exact An.o;intro BO hb;replace A7:=bv A7 hb;replace HB:=bS HB hb;have:=cf5 A7;have BP:0≤(Ag:Int):=dT am;have BQ:Ag<(Y.length:Int):=dT am;obtain⟨Cy,Cq,AQ,AR,AS⟩:=at_T130 Ao.o Ag BP BQ;cases Cq;replace AQ:=(HB.out.cell (bL w _ AQ)).trans AQ;replace AR:=(HB.out.cell (bL w _ AR)).trans AR;replace AS:=(HB.out.cell (bL w _ AS)).trans AS;replace BP:=eq_true BP;replace BQ:=eq_true BQ))
     go_ret2
     exact⟨fe,bl⟩
    ·exact no BA H
   ·exact no Ak H
 ·replace c4:=bF c4;subst c4;replace H:=iF H;obtain⟨rfl,rfl⟩:=t2 H
  exact spec_Load.z1
mutual
def spec_Fixed.j0:Nat→Int→Int→Bool→Option (ByteArray)
 | 0,_,_,_=>none
 |k+1,x0,x1,Cu=>if Cu=true then(some (⟨#[]⟩:ByteArray))else(spec_Fixed.l0 k x0 x1 (⟨#[]⟩:ByteArray) 0)
def spec_Fixed.l0:Nat→Int→Int→ByteArray→Int→Option (ByteArray)
 | 0,_,_,_,_=>none
 |k+1,x0,x1,x5,x6=>if x6<x1 then((some (([(Int.tmod x0 256)%256]:List Int):List Int)).bind fun AM=>(if(strOfNums AM).size+x5.size≤9223372036854775807 then(spec_Fixed.l0 k (wrap64 (Int.tdiv x0 256)) x1 ((strOfNums AM)++x5) (wrap64 (x6+1)))else(none)))else(if x0>0 then(some (⟨#[]⟩:ByteArray))else(some x5))
end
def spec_Fixed.f (k:Nat) (a0:Int) (J:Int):Option (ByteArray):=(spec_l1In.f J 1 7).bind fun Bx=>(if Bx=true then(spec_Fixed.j0 k a0 J (decide (a0<0)))else(spec_Fixed.j0 k a0 J true))
theorem spec_Fixed.calls (k:Nat) (a0:Int) (J:Int) (r:ByteArray) (w:World) (h:spec_Fixed.f k a0 J=some r) :
 Calls Tryz.prog 141 #[.int .i64 a0,.int .i64 J] w fun e w'=>e = .returned (.string r)∧Below w.heap.size w w':=by
 have HB:=aK (Below.refl w.heap.size w);have H:=h;unfold spec_Fixed.f at H;clear h;have BX:=aK H;clear H
 go_enter Tryz.func141,Tryz.ntmps141
 go_upto_region 1 with(fail)
 go_cut [13] (fun Cv wc=>∃(kq:Nat) (AV:Bool),Cv = .bool AV∧Aside0 (spec_Fixed.j0 kq a0 J AV=some r)∧Aside0 (kq≤k)∧Aside0 (Below w.heap.size w wc))
 case first=>
  have H:=BX.o;clear BX;obtain⟨Bx,A4,H⟩:=bd H;by_cases c5:Bx=true
  ·subst c5;replace H:=iT H;have H':=aK H;clear H;go_wp2_with (first|((with_reducible refine gc 99 ?_);refine goesW Tryz.func99 ?_;(with_reducible refine mo (spec_l1In.calls J 1 7 _ _ A4.o) ?_);rintro _ ⟨nd,rfl⟩))
   go_meet
   case rel=>exact⟨_,(decide (a0<0)),fa,H',⟨by first|omega|exact Nat.le_refl _⟩,⟨bl⟩⟩
  ·replace c5:=bF c5;subst c5;replace H:=iF H;have H':=aK H;clear H;go_wp2_with (first|((with_reducible refine gc 99 ?_);refine goesW Tryz.func99 ?_;(with_reducible refine mo (spec_l1In.calls J 1 7 _ _ A4.o) ?_);rintro _ ⟨nd,rfl⟩))
   go_meet
   case rel=>exact⟨_,(true),fa,H',⟨by first|omega|exact Nat.le_refl _⟩,⟨bl⟩⟩
 case rest=>
  clear BX;obtain⟨kq,AV,rfl,HA,Cc,HB⟩:=hcut;cases kq with
  |zero=>exact absurd HA.o (by simp[spec_Fixed.j0])
  |succ Cd=>
   have H:=HA.o;clear HA;simp only[spec_Fixed.j0]at H;by_cases c6:AV=true
   ·subst c6;replace H:=iT H;obtain rfl:=oj H;go_wp2
    go_ret
    exact⟨fe,bl⟩
   ·replace c6:=bF c6;subst c6;replace H:=iF H;have H':=aK H;clear H;go_wp2
    go_loopg [0,5,6] Cd (fun kq v0 v5 v6 w'=>∃(As:Int) (AN:ByteArray) (AY:Int),v0 = .int .i64 As∧v5 = .string AN∧v6 = .int .i64 AY∧Aside0 (spec_Fixed.l0 kq As J AN AY=some r)∧Aside0 (kq≤Cd)∧Aside0 (Below w.heap.size w w'))
    case atStart=>exact⟨(a0),((⟨#[]⟩:ByteArray)),(0),fa,fa,fa,H',⟨Nat.le_refl _⟩,⟨bl⟩⟩
    case round=>
     clear H';obtain⟨As,AN,AY,rfl,rfl,rfl,HA,Bn,HB⟩:=hrel;cases gk with
     |zero=>exact absurd HA.o (by simp[spec_Fixed.l0])
     |succ k2=>
      have H:=HA.o;clear HA;simp only[spec_Fixed.l0]at H;by_cases c7:AY<J
      ·rw[if_pos c7]at H;have Ce:=dt c7;clear c7;obtain⟨AM,Bb⟩:=yy ([(Int.tmod As 256)%256]:List Int);rw[←Bb]at H;(try rw[obs]at H)
       have By:=aK Bb;clear Bb;by_cases c8:(strOfNums AM).size+AN.size≤9223372036854775807
       ·rw[if_pos c8]at H;have CE:=eq_true c8;have CF:=dt c8;(try have CG:(9223372036854775807<(strOfNums AM).size+AN.size)=False:=eq_false (Nat.not_lt.2 c8));have H':=aK H;clear H;go_wp2_with (first|((with_reducible refine gd 22 ?_);refine Kd.R_lit (Kd.int .u8) _ 5 ?hg (N:=22) ?hd (xs:=([(Int.tmod As 256)%256]:List Int)) (inner:=[.int .u8 ((Int.tmod As 256)%256)]) (ok:=fun _=>True) (okp:=fun _=>True) ?hr ?hp (fun _ hk=>hk) trivial (Below.refl _ _) (Nat.le_refl _) (by simp) ?_;(case hd=>rfl);(case hg=>rfl);(case hr=>first|(go_simp;done)|(go_simp;rfl));(case hp=>exact(Reps.one (show Kd.M (Kd.int .u8) _ _ _ ((Int.tmod As 256)%256) [.int .u8 ((Int.tmod As 256)%256)]from rfl) (Reps.none _ _)));intro CJ Ci AZ hb hg_ hnew_;clear hg_ hnew_;(first|rw[←By.o]at AZ|(simp only[Int.reduceToNat]at AZ;rw[←By.o]at AZ));have Cf:=rl HB AZ;replace HB:=bS HB hb;clear hb AZ;have Cw:=own_string (P:=Tryz.prog) Tryz.underlying169 Tryz.underlying5 Tryz.underlying9 (Kd.own_of_R Cf.o)))
        go_roundg k2
        case measure=>have:=Cc.o;have:=Bn.o;omega
        case rel=>exact⟨(wrap64 (Int.tdiv As 256)),((strOfNums AM)++AN),(wrap64 (AY+1)),fa,fa,fa,H',⟨by have:=Cc.o;have:=Bn.o;omega⟩,⟨bl⟩⟩
       ·exact no c8 H
      ·rw[if_neg c7]at H;have Ce:=df c7;clear c7;by_cases Ak:As>0
       ·rw[if_pos Ak]at H;have AP:=dt Ak;clear Ak;obtain rfl:=oj H;go_wp2
        go_ret
        exact⟨fe,bl⟩
       ·rw[if_neg Ak]at H;have AP:=df Ak;clear Ak;obtain rfl:=oj H;go_wp2
        go_ret
        exact⟨fe,bl⟩
end Go.Proofs.YtndbmllnkjngnaaGreat.PDs
