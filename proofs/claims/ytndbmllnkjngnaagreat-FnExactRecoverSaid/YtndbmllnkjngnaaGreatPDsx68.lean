/- Functions of the program, each with its contract, written by a program out of the translation. -/
import Derived.Test.YtndbmllnkjngnaaGreatPDsx0
import Derived.Test.YtndbmllnkjngnaaGreatPDsx16
import Derived.Test.YtndbmllnkjngnaaGreatPDsx20
import Derived.Test.YtndbmllnkjngnaaGreatPDsx21
import Derived.Test.YtndbmllnkjngnaaGreatZip
namespace Go.Proofs.YtndbmllnkjngnaaGreat.PDs
open Go.RowKit Go.Proofs.YtndbmllnkjngnaaGreatW.PrintWords Go.Proofs.YtndbmllnkjngnaaGreatW.PrintLast Go.Proofs.YtndbmllnkjngnaaGreatW.PrintMore Go.Proofs.YtndbmllnkjngnaaGreat.Zip
attribute [local go_sem] max2_int min2_int max_two min_two max_three min_three max_four min_four
set_option linter.unusedVariables false
set_option linter.unusedSimpArgs false
set_option maxHeartbeats 8000000
set_option maxRecDepth 100000
def impl_Load.f (k:Nat) (Al:Int) (Am:Int) (A1:List (S130)) (Ae:List (S133)) (Af:List (S135)) (a1:ByteArray):Option (ByteArray×Bool):=(impl_DiskOk.f k Al Am A1 Ae Af).bind fun B8=>(if B8=true then((impl_find.f k Al Am A1 Ae Af a1).bind fun Ad=>(if Ad<0 then(some ((⟨#[]⟩:ByteArray),false))else(if 0≤Ad then(if Ad<(A1.length:Int)then(some ((rd_T130 A1 Ad).f1,true))else(none))else(none))))else(some ((⟨#[]⟩:ByteArray),false)))
theorem impl_Load.z1 {p:Prop} (h:p:=by
 go_enter Tryz.func89,Tryz.ntmps89
 go_wp2_with (first|((with_reducible refine gd 2 ?_);refine boxQ HB ?_;clear HB;intro BM hg Cx Z BN HB hb;clear hb hg;have:=cf5 Z)|((with_reducible refine gc 59 ?_);refine goesW Tryz.func59 ?_;(with_reducible refine mo (impl_DiskOk.calls k Al Am _ _ A1 (fun k_=>k_<w.heap.size) _ _ Ae _ _ Af _ _ ?_ ?_ ?_ ?_ ?_ A3.o) ?_);exact cB Aq HB;exact AE.o;exact Kd.V_mk AF.o (Kd.F_below (Kd.C_F k133_heap AG.o) bl);exact cB AH HB;exact AI.o;intro Cy hb;replace Z:=bv Z hb;replace HB:=bS HB hb;have:=cf5 Z)|((with_reducible refine gc 92 ?_);refine goesW Tryz.func92 ?_;(with_reducible refine mo (impl_find.calls k Al Am _ _ A1 _ _ Ae _ _ Af a1 Ad _ ?_ ?_ ?_ ?_ ?_ ?_ A5.o) ?_);exact cB Aq HB;exact AE.o;exact cB AG HB;exact AF.o;exact cB AH HB;exact AI.o;intro Cz hb;replace Z:=bv Z hb;replace HB:=bS HB hb))
 go_ret2
 exact⟨fe,bl⟩):p:=h
theorem impl_Load.calls (k:Nat) (Al:Int) (Am:Int) (BA:Option Addr) (BB:Nat) (A1:List (S130)) (BC:Option Addr) (BD:Nat) (Ae:List (S133)) (BE:Option Addr) (BF:Nat) (Af:List (S135)) (a1:ByteArray) (r1:ByteArray) (r2:Bool) (w:World) (B9:Kd.C k130 w BA A1.length A1) (Ba:A1.length≤BB) (Bb:Kd.C k133 w BC Ae.length Ae) (Bc:Ae.length≤BD) (Bd:Kd.C k135 w BE Af.length Af) (Be:Af.length≤BF) (h:impl_Load.f k Al Am A1 Ae Af a1=some (r1,r2)) :
 Calls Tryz.prog 89 #[.agg #[.int .i64 Al,.int .i64 Am,.slice BA A1.length BB,.slice BC Ae.length BD,.slice BE Af.length BF],.string a1] w fun e w'=>e = .returned (.tuple #[.string r1,.bool r2])∧Below w.heap.size w w':=by
 have CV:=Tryz.underlying35;have Aq:=aK B9;have AE:=aK Ba;clear B9 Ba;have AG:=aK Bb;have AF:=aK Bc;clear Bb Bc;have AH:=aK Bd;have AI:=aK Be;clear Bd Be;have HB:=aK (Below.refl w.heap.size w);have H:=h;unfold impl_Load.f at H;clear h;obtain⟨B8,A3,H⟩:=bd H;by_cases c4:B8=true
 ·subst c4;replace H:=iT H;obtain⟨Ad,A5,H⟩:=bd H;by_cases c6:Ad<0
  ·rw[if_pos c6]at H;have Ar:=dt c6;clear c6;obtain⟨rfl,rfl⟩:=t2 H
   exact impl_Load.z1
  ·rw[if_neg c6]at H;have Ar:=df c6;clear c6;by_cases As:0≤Ad
   ·rw[if_pos As]at H;have AY:=dt As;clear As;by_cases Ap:Ad<(A1.length:Int)
    ·rw[if_pos Ap]at H;have Bf:=dt Ap;clear Ap;obtain⟨rfl,rfl⟩:=t2 H
     go_enter Tryz.func89,Tryz.ntmps89
     go_wp2_with (first|((with_reducible refine gd 2 ?_);refine boxQ HB ?_;clear HB;intro BM hg Cx Z BN HB hb;clear hb hg;have:=cf5 Z)|((with_reducible refine gc 59 ?_);refine goesW Tryz.func59 ?_;(with_reducible refine mo (impl_DiskOk.calls k Al Am _ _ A1 (fun k_=>k_<w.heap.size) _ _ Ae _ _ Af _ _ ?_ ?_ ?_ ?_ ?_ A3.o) ?_);exact cB Aq HB;exact AE.o;exact Kd.V_mk AF.o (Kd.F_below (Kd.C_F k133_heap AG.o) bl);exact cB AH HB;exact AI.o;intro Cy hb;replace Z:=bv Z hb;replace HB:=bS HB hb;have:=cf5 Z)|((with_reducible refine gc 92 ?_);refine goesW Tryz.func92 ?_;(with_reducible refine mo (impl_find.calls k Al Am _ _ A1 _ _ Ae _ _ Af a1 Ad _ ?_ ?_ ?_ ?_ ?_ ?_ A5.o) ?_);exact cB Aq HB;exact AE.o;exact cB AG HB;exact AF.o;exact cB AH HB;exact AI.o;intro Cz hb;replace Z:=bv Z hb;replace HB:=bS HB hb;have:=cf5 Z;have BO:0≤(Ad:Int):=dT am;have BP:Ad<(A1.length:Int):=dT am;obtain⟨CW,C_,AJ,AK,AL⟩:=at_T130 Aq.o Ad BO BP;cases C_;replace AJ:=(HB.out.cell (bL w _ AJ)).trans AJ;replace AK:=(HB.out.cell (bL w _ AK)).trans AK;replace AL:=(HB.out.cell (bL w _ AL)).trans AL;replace BO:=eq_true BO;replace BP:=eq_true BP))
     go_ret2
     exact⟨fe,bl⟩
    ·exact no Ap H
   ·exact no As H
 ·replace c4:=bF c4;subst c4;replace H:=iF H;obtain⟨rfl,rfl⟩:=t2 H
  exact impl_Load.z1
mutual
def impl_ReadFixed.j0:Nat→ByteArray→Int→Bool→Option (Int×Bool)
 | 0,_,_,_=>none
 |k+1,x0,x1,CA=>if CA=true then(some (0,false))else(impl_ReadFixed.l0 k x0 0 x1 0)
def impl_ReadFixed.l0:Nat→ByteArray→Int→Int→Int→Option (Int×Bool)
 | 0,_,_,_,_=>none
 |k+1,x0,x6,C8,Bg=>if Bg<C8 then(if 0≤Bg then(if Bg<(x0.size:Int)then(impl_ReadFixed.l0 k x0 (Go.bits .or .i64 (wrap64 (x6*256)) (wrap64 (bt x0 Bg))) C8 (wrap64 (Bg+1)))else(none))else(none))else(some (x6,true))
end
def impl_ReadFixed.f (k:Nat) (X:ByteArray) (a1:Int):Option (Int×Bool):=(impl_from.f a1 1 7).bind fun Bh=>(if Bh=true then(impl_ReadFixed.j0 k X a1 (decide ((X.size:Int)<a1)))else(impl_ReadFixed.j0 k X a1 true))
theorem impl_ReadFixed.calls (k:Nat) (X:ByteArray) (a1:Int) (r1:Int) (r2:Bool) (w:World) (h:impl_ReadFixed.f k X a1=some (r1,r2)) :
 Calls Tryz.prog 156 #[.string X,.int .i64 a1] w fun e w'=>e = .returned (.tuple #[.int .i64 r1,.bool r2])∧Drawn0 w w':=by
 have H:=h;unfold impl_ReadFixed.f at H;clear h;have BQ:=aK H;clear H
 go_enter Tryz.func156,Tryz.ntmps156
 go_upto_region 1 with(fail)
 go_cut [16] (fun CB wc=>∃(kq:Nat) (AM:Bool),CB = .bool AM∧Aside0 (impl_ReadFixed.j0 kq X a1 AM=some (r1,r2))∧Aside0 (kq≤k)∧Drawn0 w wc)
 case first=>
  have H:=BQ.o;clear BQ;obtain⟨Bh,A4,H⟩:=bd H;by_cases c5:Bh=true
  ·subst c5;replace H:=iT H;have H':=aK H;clear H;go_wp2_with (first|((with_reducible refine gc 119 ?_);refine goesW Tryz.func119 ?_;(with_reducible refine mo (impl_from.calls a1 1 7 _ _ A4.o) ?_);rintro _ ⟨nd,rfl⟩))
   go_meet
   case rel=>exact⟨_,(decide ((X.size:Int)<a1)),fa,H',⟨by first|omega|exact Nat.le_refl _⟩,fd⟩
  ·replace c5:=bF c5;subst c5;replace H:=iF H;have H':=aK H;clear H;go_wp2_with (first|((with_reducible refine gc 119 ?_);refine goesW Tryz.func119 ?_;(with_reducible refine mo (impl_from.calls a1 1 7 _ _ A4.o) ?_);rintro _ ⟨nd,rfl⟩))
   go_meet
   case rel=>exact⟨_,(true),fa,H',⟨by first|omega|exact Nat.le_refl _⟩,fd⟩
 case rest=>
  clear BQ;obtain⟨kq,AM,rfl,HA,C9,⟨Da,rfl⟩⟩:=hcut;cases kq with
  |zero=>exact absurd HA.o (by simp[impl_ReadFixed.j0])
  |succ Ca=>
   have H:=HA.o;clear HA;simp only[impl_ReadFixed.j0]at H;by_cases c6:AM=true
   ·subst c6;replace H:=iT H;obtain⟨rfl,rfl⟩:=t2 H;go_wp2
    go_ret2
    exact⟨fa,fd⟩
   ·replace c6:=bF c6;subst c6;replace H:=iF H;have H':=aK H;clear H;go_wp2
    go_loopg [6,18] Ca (fun kq v6 CC w'=>∃(B4:Int) (A7:Int),v6 = .int .i64 B4∧CC = .int .i64 A7∧Aside0 (impl_ReadFixed.l0 kq X B4 a1 A7=some (r1,r2))∧Aside0 (kq≤Ca)∧Drawn0 w w')
    case atStart=>exact⟨(0),(0),fa,fa,H',⟨Nat.le_refl _⟩,fd⟩
    case round=>
     clear H';obtain⟨B4,A7,rfl,rfl,HA,Cb,⟨m2,rfl⟩⟩:=hrel;cases gk with
     |zero=>exact absurd HA.o (by simp[impl_ReadFixed.l0])
     |succ k2=>
      have H:=HA.o;clear HA;simp only[impl_ReadFixed.l0]at H;by_cases c7:A7<a1
      ·rw[if_pos c7]at H;have AB:=dt c7;clear c7;by_cases c8:0≤A7
       ·rw[if_pos c8]at H;have Bi:=dt c8;clear c8;by_cases c9:A7<(X.size:Int)
        ·rw[if_pos c9]at H;have BG:=dt c9;clear c9;have H':=aK H;clear H;have Cc:0≤(A7:Int):=dT am;have Cd:A7<(X.size:Int):=dT am;have CX:=bt_at X A7;replace Cc:=eq_true Cc;replace Cd:=eq_true Cd;go_wp2
         go_roundg k2
         case measure=>have:=C9.o;have:=Cb.o;omega
         case rel=>exact⟨(Go.bits .or .i64 (wrap64 (B4*256)) (wrap64 (bt X A7))),(wrap64 (A7+1)),fa,fa,H',⟨by have:=C9.o;have:=Cb.o;omega⟩,fd⟩
        ·exact no c9 H
       ·exact no c8 H
      ·rw[if_neg c7]at H;have AB:=df c7;clear c7;obtain⟨rfl,rfl⟩:=t2 H;go_wp2
       go_ret2
       exact⟨fa,fd⟩
def impl_Unframe.f (k:Nat) (X:ByteArray):Option (ByteArray×Int×Int):=(impl_ReadFixed.f k X 4).bind fun Ac=>(if Ac.2=true then((impl_from.f Ac.1 1 2000).bind fun Bj=>(if Bj=true then(if(X.size:Int)<(wrap64 (Ac.1+8))then(some ((⟨#[]⟩:ByteArray),0,1))else(if 8≤(wrap64 (Ac.1+8))then(if(wrap64 (Ac.1+8))≤(X.size:Int)then((impl_Frame.f k (X.extract 8 ((wrap64 (Ac.1+8)):Int).toNat)).bind fun AP=>(if 0≤(wrap64 (Ac.1+8))then(if AP.toList=(X.extract 0 ((wrap64 (Ac.1+8)):Int).toNat).toList then(some (X.extract 8 ((wrap64 (Ac.1+8)):Int).toNat,wrap64 (Ac.1+8),0))else(some ((⟨#[]⟩:ByteArray),0,2)))else(none)))else(none))else(none)))else(some ((⟨#[]⟩:ByteArray),0,2))))else(some ((⟨#[]⟩:ByteArray),0,1)))
theorem impl_Unframe.calls (k:Nat) (X:ByteArray) (r1:ByteArray) (r2:Int) (r3:Int) (w:World) (h:impl_Unframe.f k X=some (r1,r2,r3)) :
 Calls Tryz.prog 155 #[.string X] w fun e w'=>e = .returned (.tuple #[.string r1,.int .i64 r2,.int .i64 r3])∧Below w.heap.size w w':=by
 have HB:=aK (Below.refl w.heap.size w);have H:=h;unfold impl_Unframe.f at H;clear h;replace H:=oB H;obtain⟨⟨Aa,Ce⟩,AQ,H⟩:=H;dsimp only at H
 have A2:=aK AQ;clear AQ;by_cases c3:Ce=true
 ·subst c3;replace H:=iT H;obtain⟨Bj,A4,H⟩:=bd H;by_cases c5:Bj=true
  ·subst c5;replace H:=iT H;by_cases c6:(X.size:Int)<(wrap64 (Aa+8))
   ·rw[if_pos c6]at H;have Ar:=dt c6;clear c6;obtain⟨rfl,rfl,rfl⟩:=t3 H
    go_enter Tryz.func155,Tryz.ntmps155
    go_wp2_with (first|((with_reducible refine gc 156 ?_);refine goesW Tryz.func156 ?_;(with_reducible refine mo (impl_ReadFixed.calls k X 4 Aa true _ A2.o) ?_);rintro _ ⟨nd,rfl⟩)|((with_reducible refine gc 119 ?_);refine goesW Tryz.func119 ?_;(with_reducible refine mo (impl_from.calls Aa 1 2000 true _ A4.o) ?_);rintro _ ⟨nd,rfl⟩))
    go_ret3
    exact⟨fe,bl⟩
   ·rw[if_neg c6]at H;have Ar:=df c6;clear c6;by_cases c7:8≤(wrap64 (Aa+8))
    ·rw[if_pos c7]at H;have AB:=eq_true c7;have B5:=dt c7;by_cases c8:(wrap64 (Aa+8))≤(X.size:Int)
     ·rw[if_pos c8]at H;have Bi:=eq_true c8;have Cf:=dt c8;obtain⟨AP,A9,H⟩:=bd H
      obtain⟨Ab,U⟩:∃j_:Int,(wrap64 (Aa+8))=j_:=⟨_,rfl⟩
      (first|rw[U]at H|simp only[U]at H)
      (try rw[U]at Ar);(try rw[U]at AB);(try rw[U]at B5);(try rw[U]at c7);(try rw[U]at Bi);(try rw[U]at Cf);(try rw[U]at c8);(try rw[U]at A2);(try rw[U]at A4);(try rw[U]at A9);have Cu:(IntKind.i64.wrap (Aa+8))=Ab:=(i64_w _).trans U;by_cases Bk:0≤(Ab)
      ·rw[if_pos Bk]at H;have CD:=eq_true Bk;have CE:=dt Bk;clear Bk;have AY:=eq_true (dT am:(Ab)≤(X.size:Int));by_cases Ap:AP.toList=(X.extract 0 ((Ab):Int).toNat).toList
       ·rw[if_pos Ap]at H;have Bf:=bT Ap;have BR:=bE Ap;clear Ap;obtain⟨rfl,rfl,rfl⟩:=t3 H
        go_enter Tryz.func155,Tryz.ntmps155
        (try go_wp2_with (first|((with_reducible refine gc 156 ?_);refine goesW Tryz.func156 ?_;(with_reducible refine mo (impl_ReadFixed.calls k X 4 Aa true _ A2.o) ?_);rintro _ ⟨nd,rfl⟩)|((with_reducible refine gc 119 ?_);refine goesW Tryz.func119 ?_;(with_reducible refine mo (impl_from.calls Aa 1 2000 true _ A4.o) ?_);rintro _ ⟨nd,rfl⟩)));generalize hq_:World.drewN w _=B6
        have An:Aside0 (Below w.heap.size w B6):=⟨by rw[←hq_];exact bl⟩
        clear hq_ HB;have HB:=An;clear An;replace HB:=dW HB;refine start_ (n:=7) (S:=fun w'=>True) (ds:=[]) (bo 7 0) (by kernel_rfl) rfl rfl trivial (fun hHeld=>?_);generalize B6.drew=Db at HB hHeld ⊢;refine pv 0 ?_;refine pv 2 ?_;refine pv 3 ?_;refine pv 4 ?_;refine pv 5 ?_;refine oo 1 (fun K hK=>?_);refine goes_ Tryz.func144 (by kernel_rfl) rfl #[.string (X.extract 8 ((Ab):Int).toNat)] (by rfl) rfl rfl (by(try simp only[List.map_toArray,List.map_cons,List.map_nil]);first|done|(simp only[U];rfl)|rfl|(simp only[List.length_drop,List.length_take];rfl)) ?_
        (with_reducible refine(impl_Frame.calls k (X.extract 8 ((Ab):Int).toNat) AP _ A9.o).mono ?_)
        rintro e Dc ⟨rfl,hb⟩;refine⟨_,rfl,?_⟩;replace HB:=bS HB hb;refine hK.out _ _ trivial (fun hHeld=>?_);clear hK K;refine nm 31 ?_
        refine pv 6 ?_;refine done_ (by kernel_rfl) ?_;(try go_wp2)
        go_ret3
        exact⟨by first|rfl|(simp[errW_none,errW_some]<;>rfl)|(simp only[←U];first|rfl|(simp[errW_none,errW_some]<;>rfl))|(simp[*,errW_none,errW_some]<;>rfl),bl⟩
       ·rw[if_neg Ap]at H;have Bf:=bN Ap;have BR:=bQ Ap;obtain⟨rfl,rfl,rfl⟩:=t3 H
        go_enter Tryz.func155,Tryz.ntmps155
        (try go_wp2_with (first|((with_reducible refine gc 156 ?_);refine goesW Tryz.func156 ?_;(with_reducible refine mo (impl_ReadFixed.calls k X 4 Aa true _ A2.o) ?_);rintro _ ⟨nd,rfl⟩)|((with_reducible refine gc 119 ?_);refine goesW Tryz.func119 ?_;(with_reducible refine mo (impl_from.calls Aa 1 2000 true _ A4.o) ?_);rintro _ ⟨nd,rfl⟩)));generalize hq_:World.drewN w _=Cg
        have An:Aside0 (Below w.heap.size w Cg):=⟨by rw[←hq_];exact bl⟩
        clear hq_ HB;have HB:=An;clear An;replace HB:=dW HB;refine start_ (n:=7) (S:=fun w'=>True) (ds:=[]) (bo 7 0) (by kernel_rfl) rfl rfl trivial (fun hHeld=>?_);generalize Cg.drew=Dd at HB hHeld ⊢;refine pv 0 ?_;refine pv 2 ?_;refine pv 3 ?_;refine pv 4 ?_;refine pv 5 ?_;refine oo 1 (fun K hK=>?_);refine goes_ Tryz.func144 (by kernel_rfl) rfl #[.string (X.extract 8 ((Ab):Int).toNat)] (by rfl) rfl rfl (by(try simp only[List.map_toArray,List.map_cons,List.map_nil]);first|done|(simp only[U];rfl)|rfl|(simp only[List.length_drop,List.length_take];rfl)) ?_
        (with_reducible refine(impl_Frame.calls k (X.extract 8 ((Ab):Int).toNat) AP _ A9.o).mono ?_)
        rintro e De ⟨rfl,hb⟩;refine⟨_,rfl,?_⟩;replace HB:=bS HB hb;refine hK.out _ _ trivial (fun hHeld=>?_);clear hK K;refine nm 31 ?_
        refine pv 6 ?_;refine done_ (by kernel_rfl) ?_;(try go_wp2)
        go_ret3
        exact⟨by first|rfl|(simp[errW_none,errW_some]<;>rfl)|(simp only[←U];first|rfl|(simp[errW_none,errW_some]<;>rfl))|(simp[*,errW_none,errW_some]<;>rfl),bl⟩
      ·exact no Bk H
     ·exact no c8 H
    ·exact no c7 H
  ·replace c5:=bF c5;subst c5;replace H:=iF H;obtain⟨rfl,rfl,rfl⟩:=t3 H
   go_enter Tryz.func155,Tryz.ntmps155
   go_wp2_with (first|((with_reducible refine gc 156 ?_);refine goesW Tryz.func156 ?_;(with_reducible refine mo (impl_ReadFixed.calls k X 4 Aa true _ A2.o) ?_);rintro _ ⟨nd,rfl⟩)|((with_reducible refine gc 119 ?_);refine goesW Tryz.func119 ?_;(with_reducible refine mo (impl_from.calls Aa 1 2000 false _ A4.o) ?_);rintro _ ⟨nd,rfl⟩))
   go_ret3
   exact⟨fe,bl⟩
 ·replace c3:=bF c3;subst c3;replace H:=iF H;obtain⟨rfl,rfl,rfl⟩:=t3 H
  go_enter Tryz.func155,Tryz.ntmps155
  go_wp2_with (first|((with_reducible refine gc 156 ?_);refine goesW Tryz.func156 ?_;(with_reducible refine mo (impl_ReadFixed.calls k X 4 Aa false _ A2.o) ?_);rintro _ ⟨nd,rfl⟩))
  go_ret3
  exact⟨fe,bl⟩
def impl_Frames.l0:Nat→ByteArray→List ByteArray→Int→Option (List ByteArray×Int)
 | 0,_,_,_=>none
 |k+1,x0,x4,x5=>if 0≤x5 then(if x5≤(x0.size:Int)then((impl_Unframe.f k (x0.extract (x5:Int).toNat x0.size)).bind fun AZ=>(if AZ.2.2=0 then(if x4.length<8796093022208 then(impl_Frames.l0 k x0 (x4 ++ [AZ.1]) (wrap64 (x5+AZ.2.1)))else(none))else(some (x4,x5))))else(none))else(none)
def impl_Frames.f (k:Nat) (X:ByteArray):Option (List ByteArray×Int):=impl_Frames.l0 k X (([]:List ByteArray)) 0
theorem impl_Frames.calls (k:Nat) (X:ByteArray) (r1:List ByteArray) (r2:Int) (w:World) (h:impl_Frames.f k X=some (r1,r2)) :
 Calls Tryz.prog 152 #[.string X] w fun e w'=>∃Ch:Value,e = .returned (.tuple #[Ch,.int .i64 r2])∧Kd.R Kd.string 9 w' w.heap.size (fun _=>True) Ch r1∧Below w.heap.size w w':=by
 have HB:=aK (Below.refl w.heap.size w);have H:=h;unfold impl_Frames.f at H;clear h
 obtain⟨BH,At⟩:∃y_:List ByteArray,y_=(([]:List ByteArray)):=⟨_,rfl⟩
 replace H:(impl_Frames.l0 k X BH 0)=some (r1,r2):=by first|(rw[At];with_reducible exact H)|(have BS:=(Option.bind_some _ _).symm.trans H;rw[At];with_reducible exact BS)|(have BS:=(Option.bind_some _ _).symm.trans H;with_reducible exact BS)|with_reducible exact H|(rw[At];exact H)|exact H
 have Bl:=aK At;clear At;have H':=aK H;clear H
 go_enter Tryz.func152,Tryz.ntmps152
 go_wp2_with (first|((with_reducible refine gd 9 ?_);refine Kd.R_lit Kd.string _ 9 ?hg (N:=9) ?hd (xs:=([]:List ByteArray)) (inner:=[]) (ok:=fun _=>True) (okp:=fun _=>True) ?hr ?hp (fun _ hk=>hk) trivial (Below.refl _ _) (Nat.le_refl _) (by simp) ?_;(case hd=>rfl);(case hg=>rfl);(case hr=>first|(go_simp;done)|(go_simp;rfl));(case hp=>exact(Reps.none _ _));intro CY w2 Bm hb hg_ hnew_;clear hg_ hnew_;(first|rw[←Bl.o]at Bm|(simp only[Int.reduceToNat]at Bm;rw[←Bl.o]at Bm));have BT:=rl HB Bm;replace HB:=bS HB hb;clear hb Bm))
 go_loopg [4,5] k (fun kq v4 v5 w'=>∃(Ag:List ByteArray) (D:Int),v5 = .int .i64 D∧Aside0 (impl_Frames.l0 kq X Ag D=some (r1,r2))∧Aside0 (kq≤k)∧Aside0 (Kd.R Kd.string 9 w' w.heap.size (fun _=>True) v4 Ag)∧Aside0 (Below w.heap.size w w'))
 case atStart=>exact⟨(BH),(0),fa,H',⟨Nat.le_refl _⟩,⟨rpR BT.o⟩,⟨bl⟩⟩
 case round=>
  clear H';obtain⟨Ag,D,rfl,HA,B0,Au,HB⟩:=hrel
  cases gk with
  |zero=>exact absurd HA.o (by simp[impl_Frames.l0])
  |succ k1=>
   have H:=HA.o;clear HA;simp only[impl_Frames.l0]at H;by_cases c4:0≤D
   ·rw[if_pos c4]at H;have Av:=eq_true c4;have CZ:=dt c4;clear c4;by_cases c5:D≤(X.size:Int)
    ·rw[if_pos c5]at H;have Bn:=eq_true c5;have BI:=dt c5;clear c5;replace H:=oB H;obtain⟨⟨AR,Bo,Bp⟩,Ci,H⟩:=H;dsimp only at H;have A6:=aK Ci;clear Ci;by_cases c7:Bp=0
     ·rw[if_pos c7]at H;have AB:=bT c7;have B5:=bE c7;clear c7;by_cases c8:Ag.length<8796093022208
      ·rw[if_pos c8]at H;have Cj:=aK c8;clear c8
       obtain⟨Ck,B1⟩:=yy (Ag ++ [AR])
       rw[←B1]at H;(try rw[obs]at H)
       have BU:=aK B1;clear B1;have H':=aK H;clear H
       go_wp2_with (first|((with_reducible refine gc 155 ?_);refine goesW Tryz.func155 ?_;(with_reducible refine mo (impl_Unframe.calls k1 (X.extract (D:Int).toNat X.size) AR Bo Bp _ A6.o) ?_);intro w9 hb;replace Au:=rb Au hb;replace HB:=bS HB hb)|((with_reducible refine gate_builtin (b:=.append) (xs:=#[.tmp 22,.tmp 24]) rfl ?_);at_builtin;refine Kd.R_append Kd.string (w0:=w) w.heap.size rfl (.tmp 22) (.tmp 24) 172 9 (.string ⟨#[]⟩) 16 rfl Tryz.underlying172 info9 rfl (by decide) (by omega) u4 Ag AR [.string AR] (fun _=>True) (fun _=>False) rfl rfl ?aP (fun _ hk=>hk.elim) ?aF ?aO ?aB ?aS ?aL ?_;(case aP=>exact rfl);(case aB=>exact bl);(case aF=>exact(fun _ _=>trivial));(case aO=>exact(rpR Au.o));(case aS=>exact(below_size bl));(case aL=>have:=Cj.o;omega);intro D0 Df ho hb hg hat;rw[←BU.o]at ho;replace HB:=aK (hb);have BV:=aK (ho);clear Au;clear ho hb hg hat))
       go_roundg k1
       case measure=>have:=B0.o;omega
       case rel=>exact⟨(Ck),(wrap64 (D+Bo)),fa,H',⟨by have:=B0.o;omega⟩,⟨rpR BV.o⟩,⟨bl⟩⟩
      ·exact no c8 H
     ·rw[if_neg c7]at H;have AB:=bN c7;have B5:=bQ c7;obtain⟨rfl,rfl⟩:=t2 H
      go_wp2_with (first|((with_reducible refine gc 155 ?_);refine goesW Tryz.func155 ?_;(with_reducible refine mo (impl_Unframe.calls k1 (X.extract (D:Int).toNat X.size) AR Bo Bp _ A6.o) ?_);intro By hb;replace Au:=rb Au hb;replace HB:=bS HB hb))
      go_ret2
      exact⟨_,fe,rpR Au.o,bl⟩
    ·exact no c5 H
   ·exact no c4 H
def impl_reader_bytes.f (J:ByteArray) (A0:Bool) (a1:Int):Option (ByteArray×ByteArray×Bool):=if A0=true then(if a1>(J.size:Int)then(some ((⟨#[]⟩:ByteArray),J,false))else(if 0≤a1 then(if a1≤(J.size:Int)then(some (J.extract 0 (a1:Int).toNat,J.extract (a1:Int).toNat J.size,A0))else(none))else(none)))else(some ((⟨#[]⟩:ByteArray),J,false))
theorem impl_reader_bytes.calls (g:Nat) (J:ByteArray) (A0:Bool) (a1:Int) (r1:ByteArray) (r2:ByteArray) (r3:Bool) (w0 w:World) (hI:IsS204 w0 w g J A0) (hB:Below w0.heap.size w0 w) (h:impl_reader_bytes.f J A0 a1=some (r1,r2,r3)) :
 Calls Tryz.prog 193 #[.pointer (some ⟨g,0,none⟩),.int .i64 a1] w fun e w'=>e = .returned (.string r1)∧IsS204 w0 w' g r2 r3∧Below w0.heap.size w0 w'∧KeepBut w w' g none:=by
 have HI0:=aK hI;have HK:=aK (KeepBut.refl w g none);have HL:=aK hB.size;clear hI;have HW0:=aK hB.size;have HB:=aK hB;clear hB;have H:=h;unfold impl_reader_bytes.f at H;clear h;by_cases c3:A0=true
 ·subst c3;replace H:=iT H;by_cases c4:a1>(J.size:Int)
  ·rw[if_pos c4]at H;have Av:=dt c4;clear c4;obtain⟨rfl,rfl,rfl⟩:=t3 H;obtain⟨AS,Cl⟩:=HI0.o;have D1:=cellS204_0 AS;have D2:=cellS204_1 AS;have D3:=blk_frozen AS 0;have D4:=blk_frozen AS 1;clear AS Cl
   go_enter Tryz.func193,Tryz.ntmps193
   go_wp2
   go_ret
   exact⟨fe,by repeat (first|(with_reducible first|exact HI0.o|apply IsS204.alloc|apply IsS204.drewN|apply IsS204.drew|apply IsS204.set_0|apply IsS204.set_1)|exact HI0.o),by repeat (first|(with_reducible first|exact HB.o|apply below_alloc|apply pw_below_drewN|apply below_drew1|refine below_set ?_ (IsS204.ge HI0.o))|exact HB.o),by repeat (first|(with_reducible first|exact HK.o|apply KeepBut.set_|apply keep_drewN|apply keep_drew|apply keep_alloc)|exact HK.o)⟩
  ·rw[if_neg c4]at H;have Av:=df c4;clear c4;by_cases c6:0≤a1
   ·rw[if_pos c6]at H;have Ar:=eq_true c6;have Cm:=dt c6;clear c6;by_cases c7:a1≤(J.size:Int)
    ·rw[if_pos c7]at H;have AB:=eq_true c7;have B5:=dt c7;clear c7;have Bi:=eq_true (dT am:0≤a1);have BG:=eq_true (dT am:a1≤(J.size:Int));obtain⟨rfl,rfl,rfl⟩:=t3 H;obtain⟨Y,Aw⟩:=HI0.o;have Bq:=cellS204_0 Y;have Br:=cellS204_1 Y;have Bs:=blk_frozen Y 0;have Bt:=blk_frozen Y 1;clear Y Aw
     go_enter Tryz.func193,Tryz.ntmps193
     go_wp2
     go_ret
     exact⟨fe,by repeat (first|(with_reducible first|exact HI0.o|apply IsS204.alloc|apply IsS204.drewN|apply IsS204.drew|apply IsS204.set_0|apply IsS204.set_1)|exact HI0.o),by repeat (first|(with_reducible first|exact HB.o|apply below_alloc|apply pw_below_drewN|apply below_drew1|refine below_set ?_ (IsS204.ge HI0.o))|exact HB.o),by repeat (first|(with_reducible first|exact HK.o|apply KeepBut.set_|apply keep_drewN|apply keep_drew|apply keep_alloc)|exact HK.o)⟩
    ·exact no c7 H
   ·exact no c6 H
 ·replace c3:=bF c3;subst c3;replace H:=iF H;obtain⟨rfl,rfl,rfl⟩:=t3 H;obtain⟨Ax,BW⟩:=HI0.o;have CF:=cellS204_0 Ax;have CG:=cellS204_1 Ax;have CH:=blk_frozen Ax 0;have CI:=blk_frozen Ax 1;clear Ax BW
  go_enter Tryz.func193,Tryz.ntmps193
  go_wp2
  go_ret
  exact⟨fe,by repeat (first|(with_reducible first|exact HI0.o|apply IsS204.alloc|apply IsS204.drewN|apply IsS204.drew|apply IsS204.set_0|apply IsS204.set_1)|exact HI0.o),by repeat (first|(with_reducible first|exact HB.o|apply below_alloc|apply pw_below_drewN|apply below_drew1|refine below_set ?_ (IsS204.ge HI0.o))|exact HB.o),by repeat (first|(with_reducible first|exact HK.o|apply KeepBut.set_|apply keep_drewN|apply keep_drew|apply keep_alloc)|exact HK.o)⟩
def impl_reader_kind.f (J:ByteArray) (A0:Bool):Option (Int×ByteArray×Bool):=(impl_reader_bytes.f J A0 1).bind fun Aj=>(if Aj.1.toList=([]:List UInt8)then(some (0,Aj.2.1,Aj.2.2))else(if 0<(Aj.1.size:Int)then(some (wrap64 (bt Aj.1 0),Aj.2.1,Aj.2.2))else(none)))
theorem impl_reader_kind.calls (g:Nat) (J:ByteArray) (A0:Bool) (r1:Int) (r2:ByteArray) (r3:Bool) (w0 w:World) (hI:IsS204 w0 w g J A0) (hB:Below w0.heap.size w0 w) (h:impl_reader_kind.f J A0=some (r1,r2,r3)) :
 Calls Tryz.prog 178 #[.pointer (some ⟨g,0,none⟩)] w fun e w'=>e = .returned (.int .i64 r1)∧IsS204 w0 w' g r2 r3∧Below w0.heap.size w0 w'∧KeepBut w w' g none:=by
 have HI0:=aK hI;have HK:=aK (KeepBut.refl w g none);have HL:=aK hB.size;clear hI;have HW0:=aK hB.size;have HB:=aK hB;clear hB;have H:=h;unfold impl_reader_kind.f at H;clear h;replace H:=oB H;obtain⟨⟨Ah,BJ,BK⟩,AQ,H⟩:=H;dsimp only at H;have A2:=aK AQ;clear AQ;by_cases c3:Ah.toList=([]:List UInt8)
 ·rw[if_pos c3]at H;have Ao:=bT c3;have Bu:=Ao;simp only[show ∀l_:List UInt8,(l_ == [])=l_.isEmpty from fun l_=>by cases l_<;>rfl]at Bu;have Cn:=bE c3;clear c3;obtain⟨rfl,rfl,rfl⟩:=t3 H
  go_enter Tryz.func178,Tryz.ntmps178
  go_wp2_with (first|((with_reducible refine gc 193 ?_);refine goesW Tryz.func193 ?_;(with_reducible refine(impl_reader_bytes.calls g J A0 1 Ah BJ BK w0 _ ?_ ?_ A2.o).mono ?_);(repeat (first|(with_reducible first|exact HI0.o|apply IsS204.alloc|apply IsS204.drewN|apply IsS204.drew|apply IsS204.set_0|apply IsS204.set_1)|exact HI0.o));(repeat (first|(with_reducible first|exact HB.o|apply below_alloc|apply pw_below_drewN|apply below_drew1|refine below_set ?_ (IsS204.ge HI0.o))|exact HB.o));rintro e w4 ⟨rfl,hi,hb,hk⟩;refine⟨_,rfl,?_⟩;replace HK:=aK (KeepBut.trans (by repeat (first|(with_reducible first|exact HK.o|apply KeepBut.set_|apply keep_drewN|apply keep_drew|apply keep_alloc)|exact HK.o)) hk (.inl rfl));replace HB:=aK (hb);replace HI0:=aK (hi)))
  go_ret
  exact⟨fe,by repeat (first|(with_reducible first|exact HI0.o|apply IsS204.alloc|apply IsS204.drewN|apply IsS204.drew|apply IsS204.set_0|apply IsS204.set_1)|exact HI0.o),by repeat (first|(with_reducible first|exact HB.o|apply below_alloc|apply pw_below_drewN|apply below_drew1|refine below_set ?_ (IsS204.ge HI0.o))|exact HB.o),by repeat (first|(with_reducible first|exact HK.o|apply KeepBut.set_|apply keep_drewN|apply keep_drew|apply keep_alloc)|exact HK.o)⟩
 ·rw[if_neg c3]at H;have Ao:=bN c3;have Bu:=Ao;simp only[show ∀l_:List UInt8,(l_ == [])=l_.isEmpty from fun l_=>by cases l_<;>rfl]at Bu;have Cn:=bQ c3;by_cases c5:0<(Ah.size:Int)
  ·rw[if_pos c5]at H;have Bn:=dt c5;have BI:decide (0<Ah.size)=true:=dt (by omega);clear c5;obtain⟨rfl,rfl,rfl⟩:=t3 H
   go_enter Tryz.func178,Tryz.ntmps178
   go_wp2_with (first|((with_reducible refine gc 193 ?_);refine goesW Tryz.func193 ?_;(with_reducible refine(impl_reader_bytes.calls g J A0 1 Ah BJ BK w0 _ ?_ ?_ A2.o).mono ?_);(repeat (first|(with_reducible first|exact HI0.o|apply IsS204.alloc|apply IsS204.drewN|apply IsS204.drew|apply IsS204.set_0|apply IsS204.set_1)|exact HI0.o));(repeat (first|(with_reducible first|exact HB.o|apply below_alloc|apply pw_below_drewN|apply below_drew1|refine below_set ?_ (IsS204.ge HI0.o))|exact HB.o));rintro e w7 ⟨rfl,hi,hb,hk⟩;refine⟨_,rfl,?_⟩;replace HK:=aK (KeepBut.trans (by repeat (first|(with_reducible first|exact HK.o|apply KeepBut.set_|apply keep_drewN|apply keep_drew|apply keep_alloc)|exact HK.o)) hk (.inl rfl));replace HB:=aK (hb);replace HI0:=aK (hi);have p6:0≤(0:Int):=(by omega);have q6:0<Ah.size:=(by have:(0:Int)<(Ah.size:Int):=dT am;omega);have Dg:∀h:0<Ah.size,((Ah[0]'h).toNat:Int)=bt Ah 0:=bt_at Ah 0;clear p6;have Dh:(0<(Ah.size:Int))=True:=eq_true (dT am);replace q6:=eq_true q6))
   go_ret
   exact⟨fe,by repeat (first|(with_reducible first|exact HI0.o|apply IsS204.alloc|apply IsS204.drewN|apply IsS204.drew|apply IsS204.set_0|apply IsS204.set_1)|exact HI0.o),by repeat (first|(with_reducible first|exact HB.o|apply below_alloc|apply pw_below_drewN|apply below_drew1|refine below_set ?_ (IsS204.ge HI0.o))|exact HB.o),by repeat (first|(with_reducible first|exact HK.o|apply KeepBut.set_|apply keep_drewN|apply keep_drew|apply keep_alloc)|exact HK.o)⟩
  ·exact no c5 H
mutual
def impl_ReadVar.l0:Nat→ByteArray→Int→Int→Option (Int×Int)
 | 0,_,_,_=>none
 |k+1,x0,x4,x5=>if x5<7 then(impl_ReadVar.j1 k x0 x4 x5 (decide (x5<(x0.size:Int))))else(impl_ReadVar.j1 k x0 x4 x5 false)
def impl_ReadVar.j1:Nat→ByteArray→Int→Int→Bool→Option (Int×Int)
 | 0,_,_,_,_=>none
 |k+1,x0,x4,x5,CJ=>if CJ=true then(if 0≤x5 then(if x5<(x0.size:Int)then(if 0≤(wrap64 (7*x5))then(if(bt x0 x5)≥128 then(impl_ReadVar.l0 k x0 (wrap64 (x4+(shl .i64 (wrap64 (Int.tmod (bt x0 x5) 128)) (wrap64 (7*x5))))) (wrap64 (x5+1)))else(if(bt x0 x5)=0 then(if x5>0 then(some (0,0))else(some (wrap64 (x4+(shl .i64 (wrap64 (Int.tmod (bt x0 x5) 128)) (wrap64 (7*x5)))),wrap64 (x5+1))))else(some (wrap64 (x4+(shl .i64 (wrap64 (Int.tmod (bt x0 x5) 128)) (wrap64 (7*x5)))),wrap64 (x5+1)))))else(none))else(none))else(none))else(some (0,0))
end
def impl_ReadVar.f (k:Nat) (X:ByteArray):Option (Int×Int):=impl_ReadVar.l0 k X 0 0
theorem impl_ReadVar.calls (k:Nat) (X:ByteArray) (r1:Int) (r2:Int) (w:World) (h:impl_ReadVar.f k X=some (r1,r2)) :
 Calls Tryz.prog 194 #[.string X] w fun e w'=>e = .returned (.tuple #[.int .i64 r1,.int .i64 r2])∧Drawn0 w w':=by
 have H:=h;unfold impl_ReadVar.f at H;clear h;have H':=aK H;clear H
 go_enter Tryz.func194,Tryz.ntmps194
 go_wp2
 go_loopg [4,5] k (fun kq v4 v5 w'=>∃(Ag:Int) (D:Int),v4 = .int .i64 Ag∧v5 = .int .i64 D∧Aside0 (impl_ReadVar.l0 kq X Ag D=some (r1,r2))∧Aside0 (kq≤k)∧Drawn0 w w')
 case atStart=>exact⟨(0),(0),fa,fa,H',⟨Nat.le_refl _⟩,fd⟩
 case round=>
  clear H';obtain⟨Ag,D,rfl,rfl,HA,B0,⟨m1,rfl⟩⟩:=hrel
  cases gk with
  |zero=>exact absurd HA.o (by simp[impl_ReadVar.l0])
  |succ k1=>
   have H:=HA.o;clear HA;simp only[impl_ReadVar.l0]at H;have BX:=aK H;clear H
   go_upto_region 3 with(fail)
   go_cut [13] (fun CK wc=>∃(kq:Nat) (AN:Bool),CK = .bool AN∧Aside0 (impl_ReadVar.j1 kq X Ag D AN=some (r1,r2))∧Aside0 (kq≤k1)∧Drawn0 w wc)
   case first=>
    have H:=BX.o;clear BX;by_cases c3:D<7
    ·rw[if_pos c3]at H;have Ao:=dt c3;clear c3;(first|rw[Ao]|(simp only[i64_w,i32_w];rw[Ao])|skip);have H':=aK H;clear H
     go_wp2
     go_meet
     case rel=>exact⟨_,(decide (D<(X.size:Int))),fa,H',⟨by have:=B0.o;first|omega|exact Nat.le_refl _⟩,fd⟩
    ·rw[if_neg c3]at H;have Ao:=df c3;clear c3;(first|rw[Ao]|(simp only[i64_w,i32_w];rw[Ao])|skip);have H':=aK H;clear H
     go_wp2
     go_meet
     case rel=>exact⟨_,(false),fa,H',⟨by have:=B0.o;first|omega|exact Nat.le_refl _⟩,fd⟩
   case rest=>
    clear BX;obtain⟨kq,AN,rfl,HA,Co,⟨Di,rfl⟩⟩:=hcut
    cases kq with
    |zero=>exact absurd HA.o (by simp[impl_ReadVar.j1])
    |succ CL=>
     have H:=HA.o;clear HA;simp only[impl_ReadVar.j1]at H;by_cases c4:AN=true
     ·subst c4;replace H:=iT H;by_cases c5:0≤D
      ·rw[if_pos c5]at H;have Bn:=dt c5;clear c5;by_cases c6:D<(X.size:Int)
       ·rw[if_pos c6]at H;have Ar:=dt c6;clear c6
        obtain⟨AO,AC⟩:∃j_:Int,(wrap64 (7*D))=j_:=⟨_,rfl⟩
        (first|rw[AC]at H|simp only[AC]at H)
        have CM:(IntKind.i64.wrap (7*D))=AO:=(i64_w _).trans AC;by_cases c9:0≤(AO)
        ·rw[if_pos c9]at H;have BG:=eq_true c9;have D5:=dt c9;clear c9
         obtain⟨Ab,U⟩:∃j_:Int,(shl .i64 (wrap64 (Int.tmod (bt X D) 128)) (AO))=j_:=⟨_,rfl⟩
         (first|rw[U]at H|simp only[U]at H)
         have Bz:(IntKind.i64.wrap ((wrap64 (Int.tmod (bt X D) 128))*2 ^ min (AO).toNat 64))=Ab:=U;have B_:(AO)≤64→(IntKind.i64.wrap ((wrap64 (Int.tmod (bt X D) 128))*2 ^ (AO).toNat))=Ab:=shl_small U;have Cv:(wrap64 ((wrap64 (Int.tmod (bt X D) 128))*2 ^ min (AO).toNat 64))=Ab:=(i64_w _).symm.trans Bz;have Cw:(AO)≤64→(wrap64 ((wrap64 (Int.tmod (bt X D) 128))*2 ^ (AO).toNat))=Ab:=fun h_=>(i64_w _).symm.trans (B_ h_)
         by_cases As:(bt X D)≥128
         ·rw[if_pos As]at H;have AY:=dt As;clear As;have H':=aK H;clear H;have p7:0≤(D:Int):=dT am;have q7:D<(X.size:Int):=dT am;have BY:=bt_at X D;replace p7:=eq_true p7;replace q7:=eq_true q7;have Ay:0≤(D:Int):=dT am;have Az:D<(X.size:Int):=dT am;have Bv:=bt_at X D;replace Ay:=eq_true Ay;replace Az:=eq_true Az
          go_wp2
          go_roundg CL
          case measure=>have:=B0.o;have:=Co.o;omega
          case rel=>exact⟨(wrap64 (Ag+(Ab))),(wrap64 (D+1)),(by first|rfl|(simp;done)|(simp only[←U]<;>(first|rfl|simp))|(simp[*];done)),fa,H',⟨by have:=B0.o;have:=Co.o;omega⟩,fd⟩
         ·rw[if_neg As]at H;have AY:=df As;clear As;by_cases B2:(bt X D)=0
          ·rw[if_pos B2]at H;have BZ:=bT B2;have C0:=bE B2;clear B2;by_cases B7:D>0
           ·rw[if_pos B7]at H;have C1:=dt B7;clear B7;obtain⟨rfl,rfl⟩:=t2 H;have p7:0≤(D:Int):=dT am;have q7:D<(X.size:Int):=dT am;have BY:=bt_at X D;replace p7:=eq_true p7;replace q7:=eq_true q7;have Ay:0≤(D:Int):=dT am;have Az:D<(X.size:Int):=dT am;have Bv:=bt_at X D;replace Ay:=eq_true Ay;replace Az:=eq_true Az;have AT:0≤(D:Int):=dT am;have AU:D<(X.size:Int):=dT am;have BL:=bt_at X D;replace AT:=eq_true AT;replace AU:=eq_true AU
            go_wp2
            go_ret2
            exact⟨by first|rfl|(simp;done)|(simp only[←AC,←U]<;>(first|rfl|simp))|(simp[*];done),fd⟩
           ·rw[if_neg B7]at H;have C1:=df B7;clear B7;obtain⟨rfl,rfl⟩:=t2 H;have p7:0≤(D:Int):=dT am;have q7:D<(X.size:Int):=dT am;have BY:=bt_at X D;replace p7:=eq_true p7;replace q7:=eq_true q7;have Ay:0≤(D:Int):=dT am;have Az:D<(X.size:Int):=dT am;have Bv:=bt_at X D;replace Ay:=eq_true Ay;replace Az:=eq_true Az;have AT:0≤(D:Int):=dT am;have AU:D<(X.size:Int):=dT am;have BL:=bt_at X D;replace AT:=eq_true AT;replace AU:=eq_true AU
            go_wp2
            go_ret2
            exact⟨by first|rfl|(simp;done)|(simp only[←AC,←U]<;>(first|rfl|simp))|(simp[*];done),fd⟩
          ·rw[if_neg B2]at H;have BZ:=bN B2;have C0:=bQ B2;obtain⟨rfl,rfl⟩:=t2 H;have p7:0≤(D:Int):=dT am;have q7:D<(X.size:Int):=dT am;have BY:=bt_at X D;replace p7:=eq_true p7;replace q7:=eq_true q7;have Ay:0≤(D:Int):=dT am;have Az:D<(X.size:Int):=dT am;have Bv:=bt_at X D;replace Ay:=eq_true Ay;replace Az:=eq_true Az;have AT:0≤(D:Int):=dT am;have AU:D<(X.size:Int):=dT am;have BL:=bt_at X D;replace AT:=eq_true AT;replace AU:=eq_true AU
           go_wp2
           go_ret2
           exact⟨by first|rfl|(simp;done)|(simp only[←AC,←U]<;>(first|rfl|simp))|(simp[*];done),fd⟩
        ·exact no c9 H
       ·exact no c6 H
      ·exact no c5 H
     ·replace c4:=bF c4;subst c4;replace H:=iF H;obtain⟨rfl,rfl⟩:=t2 H
      go_wp2
      go_ret2
      exact⟨fa,fd⟩
def impl_reader_num.f (k:Nat) (J:ByteArray) (A0:Bool):Option (Int×ByteArray×Bool):=(impl_ReadVar.f k J).bind fun Ak=>(if A0=true then(if Ak.2>0 then(if 0≤Ak.2 then(if Ak.2≤(J.size:Int)then(some (Ak.1,J.extract (Ak.2:Int).toNat J.size,decide (Ak.2>0)))else(none))else(none))else(some (0,J,decide (Ak.2>0))))else(some (0,J,false)))
theorem impl_reader_num.calls (k:Nat) (g:Nat) (J:ByteArray) (A0:Bool) (r1:Int) (r2:ByteArray) (r3:Bool) (w0 w:World) (hI:IsS204 w0 w g J A0) (hB:Below w0.heap.size w0 w) (h:impl_reader_num.f k J A0=some (r1,r2,r3)) :
 Calls Tryz.prog 179 #[.pointer (some ⟨g,0,none⟩)] w fun e w'=>e = .returned (.int .i64 r1)∧IsS204 w0 w' g r2 r3∧Below w0.heap.size w0 w'∧KeepBut w w' g none:=by
 have HI0:=aK hI;have HK:=aK (KeepBut.refl w g none);have HL:=aK hB.size;clear hI;have HW0:=aK hB.size;have HB:=aK hB;clear hB;have H:=h;unfold impl_reader_num.f at H;clear h;replace H:=oB H;obtain⟨⟨Bw,AD⟩,AQ,H⟩:=H;dsimp only at H;have A2:=aK AQ;clear AQ;by_cases c3:A0=true
 ·subst c3;replace H:=iT H;by_cases c4:AD>0
  ·rw[if_pos c4]at H;have Av:=dt c4;clear c4;by_cases c5:0≤AD
   ·rw[if_pos c5]at H;have Bn:=eq_true c5;have BI:=dt c5;clear c5;by_cases c6:AD≤(J.size:Int)
    ·rw[if_pos c6]at H;have Ar:=eq_true c6;have Cm:=dt c6;clear c6;obtain⟨rfl,rfl,rfl⟩:=t3 H;obtain⟨Ai,Bx⟩:=HI0.o;have Cp:=cellS204_0 Ai;have Cq:=cellS204_1 Ai;have Cr:=blk_frozen Ai 0;have Cs:=blk_frozen Ai 1;clear Ai Bx
     go_enter Tryz.func179,Tryz.ntmps179
     go_wp2_with (first|((with_reducible refine gc 194 ?_);refine goesW Tryz.func194 ?_;(with_reducible refine mo (impl_ReadVar.calls k J Bw AD _ A2.o) ?_);rintro _ ⟨nd,rfl⟩;generalize hq_:World.drewN w _=w8;have An:Aside0 (IsS204 w0 w8 g J true):=⟨by rw[←hq_];exact(by repeat (first|(with_reducible first|exact HI0.o|apply IsS204.alloc|apply IsS204.drewN|apply IsS204.drew|apply IsS204.set_0|apply IsS204.set_1)|exact HI0.o))⟩;have AV:Aside0 (KeepBut w w8 g none):=⟨by rw[←hq_];exact(by repeat (first|(with_reducible first|exact HK.o|apply KeepBut.set_|apply keep_drewN|apply keep_drew|apply keep_alloc)|exact HK.o))⟩;have AW:Aside0 (Below w0.heap.size w0 w8):=⟨by rw[←hq_];exact(by repeat (first|(with_reducible first|exact HB.o|apply below_alloc|apply pw_below_drewN|apply below_drew1|refine below_set ?_ (IsS204.ge HI0.o))|exact HB.o))⟩;clear hq_ HI0 HK HB;have HI0:=An;have HK:=AV;have HB:=AW;clear An AV AW;obtain⟨Ai,Bx⟩:=HI0.o;have Cp:=cellS204_0 Ai;have Cq:=cellS204_1 Ai;have Cr:=blk_frozen Ai 0;have Cs:=blk_frozen Ai 1;clear Ai Bx;obtain⟨AX,Ct⟩:=HI0.o;have D6:=cellS204_0 AX;have D7:=cellS204_1 AX;have D8:=blk_frozen AX 0;have D9:=blk_frozen AX 1;clear AX Ct))
     go_ret
     exact⟨fe,by(try simp only[gt_iff_lt,Av]);repeat (first|(with_reducible first|exact HI0.o|apply IsS204.alloc|apply IsS204.drewN|apply IsS204.drew|apply IsS204.set_0|apply IsS204.set_1)|exact HI0.o),by repeat (first|(with_reducible first|exact HB.o|apply below_alloc|apply pw_below_drewN|apply below_drew1|refine below_set ?_ (IsS204.ge HI0.o))|exact HB.o),by repeat (first|(with_reducible first|exact HK.o|apply KeepBut.set_|apply keep_drewN|apply keep_drew|apply keep_alloc)|exact HK.o)⟩
    ·exact no c6 H
   ·exact no c5 H
  ·rw[if_neg c4]at H;have Av:=df c4;clear c4;obtain⟨rfl,rfl,rfl⟩:=t3 H;obtain⟨Y,Aw⟩:=HI0.o;have Bq:=cellS204_0 Y;have Br:=cellS204_1 Y;have Bs:=blk_frozen Y 0;have Bt:=blk_frozen Y 1;clear Y Aw
   go_enter Tryz.func179,Tryz.ntmps179
   go_wp2_with (first|((with_reducible refine gc 194 ?_);refine goesW Tryz.func194 ?_;(with_reducible refine mo (impl_ReadVar.calls k J Bw AD _ A2.o) ?_);rintro _ ⟨nd,rfl⟩;generalize hq_:World.drewN w _=By;have An:Aside0 (IsS204 w0 By g J true):=⟨by rw[←hq_];exact(by repeat (first|(with_reducible first|exact HI0.o|apply IsS204.alloc|apply IsS204.drewN|apply IsS204.drew|apply IsS204.set_0|apply IsS204.set_1)|exact HI0.o))⟩;have AV:Aside0 (KeepBut w By g none):=⟨by rw[←hq_];exact(by repeat (first|(with_reducible first|exact HK.o|apply KeepBut.set_|apply keep_drewN|apply keep_drew|apply keep_alloc)|exact HK.o))⟩;have AW:Aside0 (Below w0.heap.size w0 By):=⟨by rw[←hq_];exact(by repeat (first|(with_reducible first|exact HB.o|apply below_alloc|apply pw_below_drewN|apply below_drew1|refine below_set ?_ (IsS204.ge HI0.o))|exact HB.o))⟩;clear hq_ HI0 HK HB;have HI0:=An;have HK:=AV;have HB:=AW;clear An AV AW;obtain⟨Y,Aw⟩:=HI0.o;have Bq:=cellS204_0 Y;have Br:=cellS204_1 Y;have Bs:=blk_frozen Y 0;have Bt:=blk_frozen Y 1;clear Y Aw;obtain⟨A_,C2⟩:=HI0.o;have CN:=cellS204_0 A_;have CO:=cellS204_1 A_;have CP:=blk_frozen A_ 0;have CQ:=blk_frozen A_ 1;clear A_ C2))
   go_ret
   exact⟨fe,by(try simp only[gt_iff_lt,Av]);repeat (first|(with_reducible first|exact HI0.o|apply IsS204.alloc|apply IsS204.drewN|apply IsS204.drew|apply IsS204.set_0|apply IsS204.set_1)|exact HI0.o),by repeat (first|(with_reducible first|exact HB.o|apply below_alloc|apply pw_below_drewN|apply below_drew1|refine below_set ?_ (IsS204.ge HI0.o))|exact HB.o),by repeat (first|(with_reducible first|exact HK.o|apply KeepBut.set_|apply keep_drewN|apply keep_drew|apply keep_alloc)|exact HK.o)⟩
 ·replace c3:=bF c3;subst c3;replace H:=iF H;obtain⟨rfl,rfl,rfl⟩:=t3 H;obtain⟨A8,B3⟩:=HI0.o;have C3:=cellS204_0 A8;have C4:=cellS204_1 A8;have C5:=blk_frozen A8 0;have C6:=blk_frozen A8 1;clear A8 B3
  go_enter Tryz.func179,Tryz.ntmps179
  go_wp2_with (first|((with_reducible refine gc 194 ?_);refine goesW Tryz.func194 ?_;(with_reducible refine mo (impl_ReadVar.calls k J Bw AD _ A2.o) ?_);rintro _ ⟨nd,rfl⟩;generalize hq_:World.drewN w _=B6;have An:Aside0 (IsS204 w0 B6 g J false):=⟨by rw[←hq_];exact(by repeat (first|(with_reducible first|exact HI0.o|apply IsS204.alloc|apply IsS204.drewN|apply IsS204.drew|apply IsS204.set_0|apply IsS204.set_1)|exact HI0.o))⟩;have AV:Aside0 (KeepBut w B6 g none):=⟨by rw[←hq_];exact(by repeat (first|(with_reducible first|exact HK.o|apply KeepBut.set_|apply keep_drewN|apply keep_drew|apply keep_alloc)|exact HK.o))⟩;have AW:Aside0 (Below w0.heap.size w0 B6):=⟨by rw[←hq_];exact(by repeat (first|(with_reducible first|exact HB.o|apply below_alloc|apply pw_below_drewN|apply below_drew1|refine below_set ?_ (IsS204.ge HI0.o))|exact HB.o))⟩;clear hq_ HI0 HK HB;have HI0:=An;have HK:=AV;have HB:=AW;clear An AV AW;obtain⟨A8,B3⟩:=HI0.o;have C3:=cellS204_0 A8;have C4:=cellS204_1 A8;have C5:=blk_frozen A8 0;have C6:=blk_frozen A8 1;clear A8 B3;obtain⟨AA,C7⟩:=HI0.o;have CR:=cellS204_0 AA;have CS:=cellS204_1 AA;have CT:=blk_frozen AA 0;have CU:=blk_frozen AA 1;clear AA C7))
  go_ret
  exact⟨fe,by(try simp only[gt_iff_lt,Av]);repeat (first|(with_reducible first|exact HI0.o|apply IsS204.alloc|apply IsS204.drewN|apply IsS204.drew|apply IsS204.set_0|apply IsS204.set_1)|exact HI0.o),by repeat (first|(with_reducible first|exact HB.o|apply below_alloc|apply pw_below_drewN|apply below_drew1|refine below_set ?_ (IsS204.ge HI0.o))|exact HB.o),by repeat (first|(with_reducible first|exact HK.o|apply KeepBut.set_|apply keep_drewN|apply keep_drew|apply keep_alloc)|exact HK.o)⟩
def impl_RecOk.f (D:Int) (J:Int) (U:Int) (Y:Int) (Z:ByteArray):Option (Bool):=if D=1 then((impl_from.f J 0 100000).bind fun Ah=>(if Ah=true then((impl_isVote.f Y).bind fun Ai=>(if Ai=true then(if U=0 then(some (Z.toList==([]:List UInt8)))else(some false))else(some false)))else(some false)))else(if D=2 then((impl_isTerm.f J).bind fun Aj=>(if Aj=true then((impl_from.f U 1 100000).bind fun Ak=>(if Ak=true then(if(Z.size:Int)≤900 then(some (Y==0))else(some false))else(some false)))else(some false)))else(if D=3 then((impl_from.f U 1 100000).bind fun Al=>(if Al=true then(if J=0 then(if Y=0 then(some (Z.toList==([]:List UInt8)))else(some false))else(some false))else(some false)))else(if D=4 then((impl_isPlace.f U J).bind fun Am=>(if Am=true then(if Y=0 then(some (Z.toList==([]:List UInt8)))else(some false))else(some false)))else(some false))))
theorem impl_RecOk.z1 {p:Prop} (h:p:=by
 go_enter Tryz.func181,Tryz.ntmps181
 go_wp2_with (first|((with_reducible refine gd 1 ?_);(try (refine gate_guard rfl ?_;dsimp only));refine boxQ HB ?_;clear HB;intro Av hg AN A6 Aw HB hb;clear hb hg;have:=cf5 A6)|((with_reducible refine gc 119 ?_);refine goesW Tryz.func119 ?_;(with_reducible refine mo (impl_from.calls J 0 100000 _ _ A3.o) ?_);rintro _ ⟨nd,rfl⟩)|(go_at_call 135;(with_reducible refine(impl_isVote.calls Y _ _ A5.o).mono ?_);rintro e w' ⟨rfl,⟨nd,rfl⟩⟩)|((with_reducible refine gc 143 ?_);refine goesW Tryz.func143 ?_;(with_reducible refine mo (impl_isTerm.calls J _ _ AY.o) ?_);rintro _ ⟨nd,rfl⟩)|(go_at_call 119;(with_reducible refine(impl_from.calls U 1 100000 _ _ AZ.o).mono ?_);rintro e w' ⟨rfl,⟨nd,rfl⟩⟩)|((with_reducible refine gc 136 ?_);refine goesW Tryz.func136 ?_;(with_reducible refine mo (impl_isPlace.calls U J _ _ B0.o) ?_);rintro _ ⟨nd,rfl⟩))
 go_ret
 exact⟨fe,bl⟩):p:=h
theorem impl_RecOk.z2 {p:Prop} (h:p:=by
 go_enter Tryz.func181,Tryz.ntmps181
 go_wp2_with (first|((with_reducible refine gd 1 ?_);(try (refine gate_guard rfl ?_;dsimp only));refine boxQ HB ?_;clear HB;intro Av hg AN A6 Aw HB hb;clear hb hg;have:=cf5 A6)|((with_reducible refine gc 119 ?_);refine goesW Tryz.func119 ?_;(with_reducible refine mo (impl_from.calls U 1 100000 _ _ B1.o) ?_);rintro _ ⟨nd,rfl⟩))
 go_ret
 exact⟨fe,bl⟩):p:=h
theorem impl_RecOk.calls (D:Int) (J:Int) (U:Int) (Y:Int) (Z:ByteArray) (r:Bool) (w:World) (h:impl_RecOk.f D J U Y Z=some r) :
 Calls Tryz.prog 181 #[.agg #[.int .i64 D,.int .i64 J,.int .i64 U,.int .i64 Y,.string Z]] w fun e w'=>e = .returned (.bool r)∧Below w.heap.size w w':=by
 have B2:=Tryz.underlying161;have HB:=aK (Below.refl w.heap.size w);have H:=h;unfold impl_RecOk.f at H;clear h;by_cases c2:D=1
 ·rw[if_pos c2]at H;have AO:=bT c2;have AP:=bE c2;clear c2;obtain⟨Ah,A3,H⟩:=bd H;by_cases c4:Ah=true
  ·subst c4;replace H:=iT H;obtain⟨Ai,A5,H⟩:=bd H;by_cases c6:Ai=true
   ·subst c6;replace H:=iT H;by_cases c7:U=0
    ·rw[if_pos c7]at H;have AQ:=bT c7;have AR:=bE c7;clear c7;obtain rfl:=oj H
     exact impl_RecOk.z1
    ·rw[if_neg c7]at H;have AQ:=bN c7;have AR:=bQ c7;obtain rfl:=oj H
     exact impl_RecOk.z1
   ·replace c6:=bF c6;subst c6;replace H:=iF H;obtain rfl:=oj H
    exact impl_RecOk.z1
  ·replace c4:=bF c4;subst c4;replace H:=iF H;obtain rfl:=oj H
   exact impl_RecOk.z1
 ·rw[if_neg c2]at H;have AO:=bN c2;have AP:=bQ c2;by_cases A7:D=2
  ·rw[if_pos A7]at H;have Ax:=bT A7;have Ay:=bE A7;clear A7;obtain⟨Aj,AY,H⟩:=bd H;by_cases Aq:Aj=true
   ·subst Aq;replace H:=iT H;obtain⟨Ak,AZ,H⟩:=bd H;by_cases Ar:Ak=true
    ·subst Ar;replace H:=iT H;by_cases Ag:(Z.size:Int)≤900
     ·rw[if_pos Ag]at H;have Az:=dt Ag;have A_:decide (Z.size≤900)=true:=dt (by omega);clear Ag;obtain rfl:=oj H
      exact impl_RecOk.z1
     ·rw[if_neg Ag]at H;have Az:=df Ag;have A_:decide (Z.size≤900)=false:=df (by omega);clear Ag;obtain rfl:=oj H
      exact impl_RecOk.z1
    ·replace Ar:=bF Ar;subst Ar;replace H:=iF H;obtain rfl:=oj H
     exact impl_RecOk.z1
   ·replace Aq:=bF Aq;subst Aq;replace H:=iF H;obtain rfl:=oj H
    exact impl_RecOk.z1
  ·rw[if_neg A7]at H;have Ax:=bN A7;have Ay:=bQ A7;by_cases A8:D=3
   ·rw[if_pos A8]at H;have AA:=bT A8;have AB:=bE A8;clear A8;obtain⟨Al,B1,H⟩:=bd H;by_cases As:Al=true
    ·subst As;replace H:=iT H;by_cases A9:J=0
     ·rw[if_pos A9]at H;have AC:=bT A9;have AD:=bE A9;clear A9;by_cases Aa:Y=0
      ·rw[if_pos Aa]at H;have AE:=bT Aa;have AF:=bE Aa;clear Aa;obtain rfl:=oj H
       exact impl_RecOk.z2
      ·rw[if_neg Aa]at H;have AE:=bN Aa;have AF:=bQ Aa;obtain rfl:=oj H
       exact impl_RecOk.z2
     ·rw[if_neg A9]at H;have AC:=bN A9;have AD:=bQ A9;obtain rfl:=oj H
      exact impl_RecOk.z2
    ·replace As:=bF As;subst As;replace H:=iF H;obtain rfl:=oj H
     exact impl_RecOk.z2
   ·rw[if_neg A8]at H;have AA:=bN A8;have AB:=bQ A8;by_cases Ab:D=4
    ·rw[if_pos Ab]at H;have AG:=bT Ab;have AH:=bE Ab;clear Ab;obtain⟨Am,B0,H⟩:=bd H;by_cases At:Am=true
     ·subst At;replace H:=iT H;by_cases Ac:Y=0
      ·rw[if_pos Ac]at H;have AI:=bT Ac;have AJ:=bE Ac;clear Ac;obtain rfl:=oj H
       exact impl_RecOk.z1
      ·rw[if_neg Ac]at H;have AI:=bN Ac;have AJ:=bQ Ac;obtain rfl:=oj H
       exact impl_RecOk.z1
     ·replace At:=bF At;subst At;replace H:=iF H;obtain rfl:=oj H
      exact impl_RecOk.z1
    ·rw[if_neg Ab]at H;have AG:=bN Ab;have AH:=bQ Ab;obtain rfl:=oj H
     exact impl_RecOk.z1
def impl_Var.l0:Nat→Int→List Int→Option (ByteArray)
 | 0,_,_=>none
 |k+1,x0,x3=>if x0>127 then(if x3.length<140737488355328 then(impl_Var.l0 k (wrap64 (Int.tdiv x0 128)) (x3 ++ [(wrap64 ((Int.tmod x0 128)+128))%256]))else(none))else(if x3.length<140737488355328 then(some (strOfNums (x3 ++ [(x0)%256])))else(none))
def impl_Var.f (k:Nat) (a0:Int):Option (ByteArray):=(impl_from.f a0 0 562949953421311).bind fun An=>(if An=true then(impl_Var.l0 k a0 (([]:List Int)))else(some (⟨#[]⟩:ByteArray)))
theorem impl_Var.calls (k:Nat) (a0:Int) (r:ByteArray) (w:World) (h:impl_Var.f k a0=some r) :
 Calls Tryz.prog 191 #[.int .i64 a0] w fun e w'=>e = .returned (.string r)∧Below w.heap.size w w':=by
 have HB:=aK (Below.refl w.heap.size w);have H:=h;unfold impl_Var.f at H;clear h;obtain⟨An,A2,H⟩:=bd H;by_cases c3:An=true
 ·subst c3;replace H:=iT H;obtain⟨Au,A1⟩:∃y_:List Int,y_=(([]:List Int)):=⟨_,rfl⟩;replace H:(impl_Var.l0 k a0 Au)=some r:=by first|(rw[A1];with_reducible exact H)|(have AK:=(Option.bind_some _ _).symm.trans H;rw[A1];with_reducible exact AK)|(have AK:=(Option.bind_some _ _).symm.trans H;with_reducible exact AK)|with_reducible exact H|(rw[A1];exact H)|exact H
  have Ao:=aK A1;clear A1;have H':=aK H;clear H
  go_enter Tryz.func191,Tryz.ntmps191
  go_wp2_with (first|((with_reducible refine gc 119 ?_);refine goesW Tryz.func119 ?_;(with_reducible refine mo (impl_from.calls a0 0 562949953421311 _ _ A2.o) ?_);rintro _ ⟨nd,rfl⟩)|((with_reducible refine gd 7 ?_);refine Kd.R_lit (Kd.int .u8) _ 5 ?hg (N:=7) ?hd (xs:=([]:List Int)) (inner:=[]) (ok:=fun _=>True) (okp:=fun _=>True) ?hr ?hp (fun _ hk=>hk) trivial (Below.refl _ _) (Nat.le_refl _) (by simp) ?_;(case hd=>rfl);(case hg=>rfl);(case hr=>first|(go_simp;done)|(go_simp;rfl));(case hp=>exact(Reps.none _ _));intro B7 AN A4 hb hg_ hnew_;clear hg_ hnew_;(first|rw[←Ao.o]at A4|(simp only[Int.reduceToNat]at A4;rw[←Ao.o]at A4));have AS:=rl HB A4;replace HB:=bS HB hb;clear hb A4))
  go_loopg [0,3] k (fun kq v0 v3 w'=>∃(X:Int) (A0:List Int),v0 = .int .i64 X∧Aside0 (impl_Var.l0 kq X A0=some r)∧Aside0 (kq≤k)∧Aside0 (Kd.R (Kd.int .u8) 5 w' w.heap.size (fun _=>True) v3 A0)∧Aside0 (Below w.heap.size w w'))
  case atStart=>exact⟨(a0),(Au),fa,H',⟨Nat.le_refl _⟩,⟨rpR AS.o⟩,⟨bl⟩⟩
  case round=>
   clear H';obtain⟨X,A0,rfl,HA,AT,Af,HB⟩:=hrel;cases gk with
   |zero=>exact absurd HA.o (by simp[impl_Var.l0])
   |succ k1=>
    have H:=HA.o;clear HA;simp only[impl_Var.l0]at H;by_cases c6:X>127
    ·rw[if_pos c6]at H;have AU:=dt c6;clear c6;by_cases c7:A0.length<140737488355328
     ·rw[if_pos c7]at H;have AV:=aK c7;clear c7;obtain⟨AW,Ad⟩:=yy (A0 ++ [(wrap64 ((Int.tmod X 128)+128))%256]);rw[←Ad]at H;(try rw[obs]at H)
      have AL:=aK Ad;clear Ad;have H':=aK H;clear H;go_wp2_with (first|((with_reducible refine gate_builtin (b:=.append) (xs:=#[.tmp 10,.tmp 15]) rfl ?_);at_builtin;refine Kd.R_append (Kd.int .u8) (w0:=w) w.heap.size rfl (.tmp 10) (.tmp 15) 169 5 (.int .u8 0) 1 rfl Tryz.underlying169 info5 rfl (by decide) (by omega) u3 A0 ((wrap64 ((Int.tmod X 128)+128))%256) [.int .u8 ((wrap64 ((Int.tmod X 128)+128))%256)] (fun _=>True) (fun _=>False) rfl rfl ?aP (fun _ hk=>hk.elim) ?aF ?aO ?aB ?aS ?aL ?_;(case aP=>exact rfl);(case aB=>exact bl);(case aF=>exact(fun _ _=>trivial));(case aO=>exact(rpR Af.o));(case aS=>exact(below_size bl));(case aL=>have:=AV.o;omega);intro B3 B4 ho hb hg hat;rw[←AL.o]at ho;replace HB:=aK (hb);have Ap:=aK (ho);clear Af;clear ho hb hg hat))
      go_roundg k1
      case measure=>have:=AT.o;omega
      case rel=>exact⟨(wrap64 (Int.tdiv X 128)),(AW),fa,H',⟨by have:=AT.o;omega⟩,⟨rpR Ap.o⟩,⟨bl⟩⟩
     ·exact no c7 H
    ·rw[if_neg c6]at H;have AU:=df c6;clear c6;by_cases c9:A0.length<140737488355328
     ·rw[if_pos c9]at H;have AX:=aK c9;clear c9;obtain⟨B6,Ae⟩:=yy (A0 ++ [(X)%256]);rw[←Ae]at H;(try rw[obs]at H)
      have AM:=aK Ae;clear Ae;obtain rfl:=oj H;go_wp2_with (first|((with_reducible refine gate_builtin (b:=.append) (xs:=#[.tmp 19,.tmp 22]) rfl ?_);at_builtin;refine Kd.R_append (Kd.int .u8) (w0:=w) w.heap.size rfl (.tmp 19) (.tmp 22) 169 5 (.int .u8 0) 1 rfl Tryz.underlying169 info5 rfl (by decide) (by omega) u3 A0 ((X)%256) [.int .u8 ((X)%256)] (fun _=>True) (fun _=>False) rfl rfl ?aP (fun _ hk=>hk.elim) ?aF ?aO ?aB ?aS ?aL ?_;(case aP=>exact rfl);(case aB=>exact bl);(case aF=>exact(fun _ _=>trivial));(case aO=>exact(rpR Af.o));(case aS=>exact(below_size bl));(case aL=>have:=AX.o;omega);intro B3 B4 ho hb hg hat;rw[←AM.o]at ho;replace HB:=aK (hb);have Ap:=aK (ho);clear Af;clear ho hb hg hat;have B5:=own_string (P:=Tryz.prog) Tryz.underlying169 Tryz.underlying5 Tryz.underlying9 (Kd.own_of_R Ap.o)))
      go_ret
      exact⟨fe,bl⟩
     ·exact no c9 H
 ·replace c3:=bF c3;subst c3;replace H:=iF H;obtain rfl:=oj H
  go_enter Tryz.func191,Tryz.ntmps191
  go_wp2_with (first|((with_reducible refine gc 119 ?_);refine goesW Tryz.func119 ?_;(with_reducible refine mo (impl_from.calls a0 0 562949953421311 _ _ A2.o) ?_);rintro _ ⟨nd,rfl⟩))
  go_ret
  exact⟨fe,bl⟩
end Go.Proofs.YtndbmllnkjngnaaGreat.PDs
