/- Functions of the program, each with its contract, written by a program out of the translation. -/
import Derived.Test.YtndbmllnkjngnaaPDsx0
import Derived.Test.YtndbmllnkjngnaaZup
namespace Go.Proofs.Ytndbmllnkjngnaa.PDs
open Go.RowKit Go.Proofs.YtndbmllnkjngnaaW.PrintWords Go.Proofs.YtndbmllnkjngnaaW.PrintLast Go.Proofs.YtndbmllnkjngnaaW.PrintMore Go.Proofs.Ytndbmllnkjngnaa.Zip
attribute [local go_sem] max2_int min2_int max_two min_two max_three min_three max_four min_four
set_option linter.unusedVariables false
set_option linter.unusedSimpArgs false
set_option maxHeartbeats 8000000
set_option maxRecDepth 100000
def spec_l1New.l0:Nat→List Int→Int→Int→Option (List Int×Int×Int)
 | 0,_,_,_=>none
 |k+1,x0,x3,x4=>if x4<(x0.length:Int)then(if x4<4000 then(if 0≤x4 then(spec_l1New.l0 k x0 (Go.bits .and .i64 (wrap64 ((wrap64 ((wrap64 (x3*131))+(wrap64 (rd x0 x4))))+7)) 1073741823) (wrap64 (x4+1)))else(none))else(some (x0,0,x3)))else(some (x0,0,x3))
def spec_l1New.f (k:Nat) (l0:List Int):Option (List Int×Int×Int):=spec_l1New.l0 k l0 (wrap64 (10101+(l0.length:Int))) 0
theorem spec_l1New.z1 {p:Prop} (h:p:=by
 go_wp2_with (first|((with_reducible refine gD 31 rfl ?_);refine boxW ?_;intro Bf hg AM hbox hb;replace HB:=bs (w:=w0) hb;have Cb:=aK hbox;have Bk:=aK ((by rw[hg];exact(below_size (by repeat (first|(with_reducible first|exact HBW.o|apply below_alloc|apply pw_below_drewN|apply below_drew1)|exact HBW.o))):w.heap.size≤Bf));have Bk:=aK ((Nat.le_trans HW0.o (by rw[hg];exact(below_size (by repeat (first|(with_reducible first|exact HBW.o|apply below_alloc|apply pw_below_drewN|apply below_drew1)|exact HBW.o))):w.heap.size≤Bf):w0.heap.size≤Bf));replace HBW:=aK (below_step (by repeat (first|(with_reducible first|exact HBW.o|apply below_alloc|apply pw_below_drewN|apply below_drew1)|exact HBW.o)) hb);clear hb hbox hg))
 go_ret
 exact⟨_,rfl,(show IsS86 w0 _ Bf l0 0 J from⟨_,_,by(with_reducible repeat (first|refine blk_drewN ?_ _|refine blk_drew ?_|refine blk_alloc ?_ _));exact Cb.o,Bk.o,Ap.o⟩),bl,by repeat (first|(with_reducible first|exact HBW.o|apply below_alloc|apply pw_below_drewN|apply below_drew1|refine below_set ?_ Bk.o)|exact HBW.o)⟩):p:=h
theorem spec_l1New.calls (k:Nat) (A0:Option Addr) (c0:Nat) (l0:List Int) (r1:List Int) (r2:Int) (r3:Int) (w0 w:World) (hB:Below w0.heap.size w0 w) (Aj:Kd.C (Kd.int .u8) w0 A0 l0.length l0) (Ak:l0.length≤c0) (h:spec_l1New.f k l0=some (r1,r2,r3)) :
 Calls Try.prog 28 #[.slice A0 l0.length c0] w fun e w'=>∃g_:Nat,e = .returned (.pointer (some ⟨g_,0,none⟩))∧IsS86 w0 w' g_ r1 r2 r3∧Below w0.heap.size w0 w'∧Below w.heap.size w w':=by
 have D7:=Try.underlying86;have Ap:=aK Aj;have BM:=aK Ak;clear Aj Ak;have HBW:=aK (Below.refl w.heap.size w);have HW0:=aK hB.size;have HB:=aK hB;clear hB;have H:=h;unfold spec_l1New.f at H;clear h;have H':=aK H;clear H
 go_enter Try.func28,Try.ntmps28
 go_wp2
 go_loopg [3,4] k (fun kq v3 v4 w'=>∃(J:Int) (A1:Int),v3 = .int .i64 J∧v4 = .int .i64 A1∧Aside0 (spec_l1New.l0 kq l0 J A1=some (r1,r2,r3))∧Aside0 (kq≤k)∧Aside0 (Below w0.heap.size w0 w')∧Aside0 (Below w.heap.size w w'))
 case atStart=>exact⟨(wrap64 (10101+(l0.length:Int))),(0),fa,fa,H',⟨Nat.le_refl _⟩,⟨bl⟩,⟨by repeat (first|(with_reducible first|exact HBW.o|apply below_alloc|apply pw_below_drewN|apply below_drew1)|exact HBW.o)⟩⟩
 case round=>
  clear H';obtain⟨J,A1,rfl,rfl,HA,U,HB,HBW⟩:=hrel;cases gk with
  |zero=>exact absurd HA.o (by simp[spec_l1New.l0])
  |succ k1=>
   have H:=HA.o;clear HA;simp only[spec_l1New.l0]at H;by_cases c2:A1<(l0.length:Int)
   ·rw[if_pos c2]at H;have Bl:=dt c2;clear c2;by_cases c3:A1<4000
    ·rw[if_pos c3]at H;have Ae:=dt c3;clear c3;by_cases c4:0≤A1
     ·rw[if_pos c4]at H;have Af:=dt c4;clear c4;have H':=aK H;clear H;have Ah:0≤(A1:Int):=dT am;have Ai:A1<(l0.length:Int):=dT am;obtain⟨AN,AT,X⟩:=Kd.at_int Ap.o A1 Ah Ai;cases AT;replace X:=pw_cell_below HB.o X;replace Ah:=eq_true Ah;replace Ai:=eq_true Ai;go_wp2
      go_roundg k1
      case measure=>have:=U.o;omega
      case rel=>exact⟨(Go.bits .and .i64 (wrap64 ((wrap64 ((wrap64 (J*131))+(wrap64 (rd l0 A1))))+7)) 1073741823),(wrap64 (A1+1)),fa,fa,H',⟨by have:=U.o;omega⟩,⟨bl⟩,⟨by repeat (first|(with_reducible first|exact HBW.o|apply below_alloc|apply pw_below_drewN|apply below_drew1)|exact HBW.o)⟩⟩
     ·rw[if_neg c4]at H;exact absurd H (by simp)
    ·rw[if_neg c3]at H;have Ae:=df c3;clear c3;simp only[Option.some.injEq,Prod.mk.injEq]at H;obtain⟨rfl,rfl,rfl⟩:=H;exact spec_l1New.z1
   ·rw[if_neg c2]at H;have Bl:=df c2;clear c2;simp only[Option.some.injEq,Prod.mk.injEq]at H;obtain⟨rfl,rfl,rfl⟩:=H;exact spec_l1New.z1
def spec_l1Byte.f (Z:List Int) (A3:Int) (A6:Int):Option (Int×Int×Int):=if A3<(Z.length:Int)then(if 0≤A3 then(some (Go.bits .and .i64 (wrap64 ((Go.bits .and .i64 (Go.bits .xor .i64 ((wrap64 ((wrap64 (A6*6364136223846793005))+1442695040888963407))/8589934592) ((wrap64 ((wrap64 (A6*6364136223846793005))+1442695040888963407))/35184372088832)) 255)+(wrap64 (rd Z A3)))) 255,wrap64 (A3+1),wrap64 ((wrap64 (A6*6364136223846793005))+1442695040888963407)))else(none))else(some (Go.bits .and .i64 (Go.bits .xor .i64 ((wrap64 ((wrap64 (A6*6364136223846793005))+1442695040888963407))/8589934592) ((wrap64 ((wrap64 (A6*6364136223846793005))+1442695040888963407))/35184372088832)) 255,A3,wrap64 ((wrap64 (A6*6364136223846793005))+1442695040888963407)))
theorem spec_l1Byte.calls (g:Nat) (Z:List Int) (A3:Int) (A6:Int) (r1:Int) (r2:Int) (r3:Int) (w0 w:World) (hI:IsS86 w0 w g Z A3 A6) (hB:Below w0.heap.size w0 w) (h:spec_l1Byte.f Z A3 A6=some (r1,r2,r3)) :
 Calls Try.prog 62 #[.pointer (some ⟨g,0,none⟩)] w fun e w'=>e = .returned (.int .i64 r1)∧IsS86 w0 w' g Z r2 r3∧Below w0.heap.size w0 w'∧KeepBut w w' g none:=by
 have HI0:=aK hI;have HK:=aK (KeepBut.refl w g none);have HL:=aK hB.size;clear hI;have HW0:=aK hB.size;have HB:=aK hB;clear hB;have H:=h;unfold spec_l1Byte.f at H;clear h;by_cases c2:A3<(Z.length:Int)
 ·rw[if_pos c2]at H;have Bl:=dt c2;clear c2;by_cases c3:0≤A3
  ·rw[if_pos c3]at H;have Ae:=dt c3;clear c3;simp only[Option.some.injEq,Prod.mk.injEq]at H;obtain⟨rfl,rfl,rfl⟩:=H;obtain⟨CQ,CR,AI,Cc,BN⟩:=HI0.o;have D8:=cellS86_0 AI;have D9:=cellS86_1 AI;have Da:=cellS86_2 AI;have Db:=blk_frozen AI 1;have Dc:=blk_frozen AI 2;clear AI Cc;have Ah:0≤(A3:Int):=dT am;have Ai:A3<(Z.length:Int):=dT am;obtain⟨AN,AT,X⟩:=Kd.at_int BN A3 Ah Ai;cases AT;have Al:AN.block≠g:=Nat.ne_of_lt (Nat.lt_of_lt_of_le (by have:=bL _ _ X;first|rwa [add_block]at this|exact this) (IsS86.ge HI0.o));replace X:=pw_cell_below HB.o X;replace X:=(cell_far (p:=⟨g,2,none⟩) (by first|(rw[add_block];exact Al)|(show(Addr.add _ _).block≠_;rw[add_block];exact Al)|exact Al) (.int .i64 (wrap64 ((wrap64 (A6*6364136223846793005))+1442695040888963407)))).trans X;(try have CS:=fun(n_:Nat)=>(show(((w.drewN n_).setCell ⟨g,2,none⟩ (.int .i64 (wrap64 ((wrap64 (A6*6364136223846793005))+1442695040888963407))))).cell? _=some _ from X));clear Al;replace Ah:=eq_true Ah;replace Ai:=eq_true Ai
   go_enter Try.func62,Try.ntmps62
   go_wp2;repeat (go_quiet (fail);try go_wp2)
   go_ret
   exact⟨fe,is86_0,bi86_0,kp_⟩
  ·rw[if_neg c3]at H;exact absurd H (by simp)
 ·rw[if_neg c2]at H;have Bl:=df c2;clear c2;simp only[Option.some.injEq,Prod.mk.injEq]at H;obtain⟨rfl,rfl,rfl⟩:=H;obtain⟨CT,CU,AJ,Cd,CV⟩:=HI0.o;have Dd:=cellS86_0 AJ;have De:=cellS86_1 AJ;have Df:=cellS86_2 AJ;have Dg:=blk_frozen AJ 1;have Dh:=blk_frozen AJ 2;clear AJ Cd
  go_enter Try.func62,Try.ntmps62
  go_wp2;repeat (go_quiet (fail);try go_wp2)
  go_ret
  exact⟨fe,is86_0,bi86_0,kp_⟩
def spec_l1Below.f (Z:List Int) (A3:Int) (A6:Int) (a1:Int):Option (Int×Int×Int):=if a1≤0 then(some (0,A3,A6))else(if a1≤256 then((spec_l1Byte.f Z A3 A6).bind fun AU=>(if a1=0 then(none)else(some (Int.tmod AU.1 a1,AU.2.1,AU.2.2))))else((spec_l1Byte.f Z A3 A6).bind fun AV=>((spec_l1Byte.f Z AV.2.1 AV.2.2).bind fun AW=>((spec_l1Byte.f Z AW.2.1 AW.2.2).bind fun AX=>((spec_l1Byte.f Z AX.2.1 AX.2.2).bind fun AY=>(if a1=0 then(none)else(some (Int.tmod (wrap64 ((wrap64 ((wrap64 ((wrap64 (AV.1*16777216))+(wrap64 (AW.1*65536))))+(wrap64 (AX.1*256))))+AY.1)) a1,AY.2.1,AY.2.2))))))))
theorem spec_l1Below.z1 {p:Prop} (h:p:=by
 go_enter Try.func29,Try.ntmps29
 go_wp2_with (first|((with_reducible refine gC 62 rfl ?_);refine goesW Try.func62 ?_;(with_reducible refine(spec_l1Byte.calls g Z A3 A6 Ce Cf Cg w0 _ ?_ ?_ A5.o).mono ?_);exact is86_0;exact bi86_0;rintro e AM ⟨rfl,hi,hb,hk⟩;refine⟨_,rfl,?_⟩;replace HK:=kpk_ hk;replace HB:=aK (hb);replace HI0:=aK (hi);(try clear hb hk hi))|((with_reducible refine gC 62 rfl ?_);refine goesY (some 18) rfl Try.func62 ?_;(with_reducible refine(spec_l1Byte.calls g Z A3 A6 Ch BO BP w0 _ ?_ ?_ A8.o).mono ?_);exact is86_0;exact bi86_0;rintro e AM ⟨rfl,hi,hb,hk⟩;refine⟨_,rfl,?_⟩;replace HK:=kpk_ hk;replace HB:=aK (hb);replace HI0:=aK (hi);(try clear hb hk hi))|((with_reducible refine gC 62 rfl ?_);refine goesY (some 20) rfl Try.func62 ?_;(with_reducible refine(spec_l1Byte.calls g Z BO BP Ci BQ BR w0 _ ?_ ?_ A9.o).mono ?_);exact is86_0;exact bi86_0;rintro e CW ⟨rfl,hi,hb,hk⟩;refine⟨_,rfl,?_⟩;replace HK:=kpk_ hk;replace HB:=aK (hb);replace HI0:=aK (hi);(try clear hb hk hi))|((with_reducible refine gC 62 rfl ?_);refine goesY (some 22) rfl Try.func62 ?_;(with_reducible refine(spec_l1Byte.calls g Z BQ BR Cj BS BT w0 _ ?_ ?_ CX.o).mono ?_);exact is86_0;exact bi86_0;rintro e Dk ⟨rfl,hi,hb,hk⟩;refine⟨_,rfl,?_⟩;replace HK:=kpk_ hk;replace HB:=aK (hb);replace HI0:=aK (hi);(try clear hb hk hi))|((with_reducible refine gC 62 rfl ?_);refine goesY (some 24) rfl Try.func62 ?_;(with_reducible refine(spec_l1Byte.calls g Z BS BT Ck Cl Cm w0 _ ?_ ?_ CY.o).mono ?_);exact is86_0;exact bi86_0;rintro e Dl ⟨rfl,hi,hb,hk⟩;refine⟨_,rfl,?_⟩;replace HK:=kpk_ hk;replace HB:=aK (hb);replace HI0:=aK (hi);(try clear hb hk hi)))
 go_ret
 exact⟨fe,is86_0,bi86_0,kp_⟩):p:=h
theorem spec_l1Below.calls (g:Nat) (Z:List Int) (A3:Int) (A6:Int) (a1:Int) (r1:Int) (r2:Int) (r3:Int) (w0 w:World) (hI:IsS86 w0 w g Z A3 A6) (hB:Below w0.heap.size w0 w) (h:spec_l1Below.f Z A3 A6 a1=some (r1,r2,r3)) :
 Calls Try.prog 29 #[.pointer (some ⟨g,0,none⟩),.int .i64 a1] w fun e w'=>e = .returned (.int .i64 r1)∧IsS86 w0 w' g Z r2 r3∧Below w0.heap.size w0 w'∧KeepBut w w' g none:=by
 have HI0:=aK hI;have HK:=aK (KeepBut.refl w g none);have HL:=aK hB.size;clear hI;have HW0:=aK hB.size;have HB:=aK hB;clear hB;have H:=h;unfold spec_l1Below.f at H;clear h;by_cases c3:a1≤0
 ·rw[if_pos c3]at H;have Ae:=dt c3;clear c3;simp only[Option.some.injEq,Prod.mk.injEq]at H;obtain⟨rfl,rfl,rfl⟩:=H
  go_enter Try.func29,Try.ntmps29
  go_wp2
  go_ret
  exact⟨fe,is86_0,bi86_0,kp_⟩
 ·rw[if_neg c3]at H;have Ae:=df c3;clear c3;by_cases c4:a1≤256
  ·rw[if_pos c4]at H;have Af:=dt c4;clear c4;replace H:=oB H;obtain⟨⟨Ce,Cf,Cg⟩,Cn,H⟩:=H;dsimp only at H;have A5:=aK Cn;clear Cn;by_cases c6:a1=0
   ·rw[if_pos c6]at H;exact absurd H (by simp)
   ·rw[if_neg c6]at H;have Am:=bN c6;have Ao:=bQ c6;simp only[Option.some.injEq,Prod.mk.injEq]at H;obtain⟨rfl,rfl,rfl⟩:=H
    exact spec_l1Below.z1
  ·rw[if_neg c4]at H;have Af:=df c4;clear c4;replace H:=oB H;obtain⟨⟨Ch,BO,BP⟩,Co,H⟩:=H;dsimp only at H;have A8:=aK Co;clear Co;replace H:=oB H;obtain⟨⟨Ci,BQ,BR⟩,Cp,H⟩:=H;dsimp only at H;have A9:=aK Cp;clear Cp;replace H:=oB H;obtain⟨⟨Cj,BS,BT⟩,BU,H⟩:=H;dsimp only at H;have CX:=aK BU;clear BU;replace H:=oB H;obtain⟨⟨Ck,Cl,Cm⟩,BV,H⟩:=H
   dsimp only at H;have CY:=aK BV;clear BV;by_cases Aq:a1=0
   ·rw[if_pos Aq]at H;exact absurd H (by simp)
   ·rw[if_neg Aq]at H;have AK:=bN Aq;have AL:=bQ Aq;simp only[Option.some.injEq,Prod.mk.injEq]at H;obtain⟨rfl,rfl,rfl⟩:=H
    exact spec_l1Below.z1
def spec_l1In.f (a0:Int) (a1:Int) (a2:Int):Option (Bool):=if a0≥a1 then(some (decide (a0≤a2)))else(some false)
theorem spec_l1In.calls (a0:Int) (a1:Int) (a2:Int) (r:Bool) (w:World) (h:spec_l1In.f a0 a1 a2=some r) :
 Calls Try.prog 35 #[.int .i64 a0,.int .i64 a1,.int .i64 a2] w fun e w'=>e = .returned (.bool r)∧Drawn0 w w':=by
 have H:=h;unfold spec_l1In.f at H;clear h;by_cases c4:a0≥a1
 ·rw[if_pos c4]at H;have Af:=dt c4;clear c4;obtain rfl:=oj H
  go_enter Try.func35,Try.ntmps35
  go_wp2
  go_ret
  exact⟨fa,fd⟩
 ·rw[if_neg c4]at H;have Af:=df c4;clear c4;obtain rfl:=oj H
  go_enter Try.func35,Try.ntmps35
  go_wp2
  go_ret
  exact⟨fa,fd⟩
def spec_NewDisk.f (a0:Int):Option (Int×Int×(List (S35))×(List (S37))×(List (S39))×Bool):=(spec_l1In.f a0 0 1048576).bind fun Bm=>(if Bm=true then(some (a0,1,([]:List (S35)),([]:List (S37)),([]:List (S39)),true))else(some (0,0,([]:List (S35)),([]:List (S37)),([]:List (S39)),false)))
theorem spec_NewDisk.z1 {p:Prop} (h:p:=by
 go_enter Try.func17,Try.ntmps17
 go_wp2_with (first|((with_reducible refine gD 2 rfl ?_);refine boxW ?_;intro AZ hg AM hbox hb;have B0:=aK hbox;have CZ:=gW HB hg;replace HB:=bS HB hb;clear hb hbox hg)|((with_reducible refine gC 35 rfl ?_);refine goesW Try.func35 ?_;(with_reducible refine(spec_l1In.calls a0 0 1048576 _ _ A2.o).mono ?_);rintro e w' ⟨rfl,⟨nd,rfl⟩⟩;refine⟨_,rfl,?_⟩;(try (rw[drewN_self AM];generalize hq_:World.drewN AM _=AM;have Cq:Aside0 (AM.heap[AZ]? = some (.cells #[.int .i64 0,.int .i64 0,.slice none 0 0,.slice none 0 0,.slice none 0 0] 28 (0,0))):=⟨by rw[←hq_];exact bk⟩;have Cr:Aside0 (Below w.heap.size w AM):=⟨by rw[←hq_];exact bl⟩;clear B0 HB hq_;have B0:=Cq;have HB:=Cr;clear Cq Cr));have:=cf5 B0))
 (first|(have _:=D0;(refine bodyPost_ret (results_ct rfl _ _ AZ 28 #[.int .i64 a0,.int .i64 1,.slice none 0 0,.slice none 0 0,.slice none 0 0] (0,0) _ rfl bkk Try.underlying28 rfl (by kernel_rfl)) rfl ?_);(exact⟨_,_,_,fe,by first|exact Kd.R_nil _ _ _ _ _|exact Kd.N_nil _ _ _ _ _|exact Kd.V_nil _ _ _ _ _|exact Kd.Q_nil _ _ _ _ _|exact Kd.S_nil _ _ _ _ _,by first|exact Kd.R_nil _ _ _ _ _|exact Kd.N_nil _ _ _ _ _|exact Kd.V_nil _ _ _ _ _|exact Kd.Q_nil _ _ _ _ _|exact Kd.S_nil _ _ _ _ _,by first|exact Kd.R_nil _ _ _ _ _|exact Kd.N_nil _ _ _ _ _|exact Kd.V_nil _ _ _ _ _|exact Kd.Q_nil _ _ _ _ _|exact Kd.S_nil _ _ _ _ _,bl⟩))|(have _:=D1;(refine bodyPost_ret (results_ct rfl _ _ AZ 28 #[.int .i64 0,.int .i64 0,.slice none 0 0,.slice none 0 0,.slice none 0 0] (0,0) _ rfl bkk Try.underlying28 rfl (by kernel_rfl)) rfl ?_);(exact⟨_,_,_,fe,by first|exact Kd.R_nil _ _ _ _ _|exact Kd.N_nil _ _ _ _ _|exact Kd.V_nil _ _ _ _ _|exact Kd.Q_nil _ _ _ _ _|exact Kd.S_nil _ _ _ _ _,by first|exact Kd.R_nil _ _ _ _ _|exact Kd.N_nil _ _ _ _ _|exact Kd.V_nil _ _ _ _ _|exact Kd.Q_nil _ _ _ _ _|exact Kd.S_nil _ _ _ _ _,by first|exact Kd.R_nil _ _ _ _ _|exact Kd.N_nil _ _ _ _ _|exact Kd.V_nil _ _ _ _ _|exact Kd.Q_nil _ _ _ _ _|exact Kd.S_nil _ _ _ _ _,bl⟩)))):p:=h
theorem spec_NewDisk.calls (a0:Int) (r1:Int) (r2:Int) (r3:List (S35)) (r4:List (S37)) (r5:List (S39)) (r6:Bool) (w:World) (h:spec_NewDisk.f a0=some (r1,r2,r3,r4,r5,r6)) :
 Calls Try.prog 17 #[.int .i64 a0] w fun e w'=>∃Cs Ct Cu:Value,e = .returned (.tuple #[.agg #[.int .i64 r1,.int .i64 r2,Cs,Ct,Cu],.bool r6])∧Kd.R k35 35 w' w.heap.size (fun _=>True) Cs r3∧Kd.R k37 37 w' w.heap.size (fun _=>True) Ct r4∧Kd.R k39 39 w' w.heap.size (fun _=>True) Cu r5∧Below w.heap.size w w':=by
 have BW:=Try.underlying28;have HB:=aK (Below.refl w.heap.size w);have H:=h;unfold spec_NewDisk.f at H;clear h;obtain⟨Bm,A2,H⟩:=bd H;by_cases c3:Bm=true
 ·subst c3;replace H:=iT H;simp only[Option.some.injEq,Prod.mk.injEq]at H;obtain⟨rfl,rfl,rfl,rfl,rfl,rfl⟩:=H
  have D0:=trivial;exact spec_NewDisk.z1
 ·replace c3:=bF c3;subst c3;replace H:=iF H;simp only[Option.some.injEq,Prod.mk.injEq]at H;obtain⟨rfl,rfl,rfl,rfl,rfl,rfl⟩:=H
  have D1:=trivial;exact spec_NewDisk.z1
def spec_l4Bytes.l0:Nat→Int→Int→Int→Int→List (S35)→List (S37)→List (S39)→Option (Int)
 | 0,_,_,_,_,_,_,_=>none
 |k+1,x3,x4,Bn,Bo,Ar,Bp,Bq=>if x4<(Ar.length:Int)then(if 0≤x4 then(spec_l4Bytes.l0 k (wrap64 (x3+(((rd_T35 Ar x4).f1).size:Int))) (wrap64 (x4+1)) Bn Bo Ar Bp Bq)else(none))else(some x3)
def spec_l4Bytes.f (k:Nat) (Ac:Int) (Ad:Int) (Y:List (S35)) (A7:List (S37)) (Aa:List (S39)):Option (Int):=spec_l4Bytes.l0 k 0 0 Ac Ad Y A7 Aa
theorem spec_l4Bytes.calls (k:Nat) (Ac:Int) (Ad:Int) (As:Option Addr) (At:Nat) (Y:List (S35)) (Au:Option Addr) (Av:Nat) (A7:List (S37)) (Aw:Option Addr) (Ax:Nat) (Aa:List (S39)) (r:Int) (w:World) (Ay:Kd.C k35 w As Y.length Y) (Az:Y.length≤At) (A_:Kd.C k37 w Au A7.length A7) (AA:A7.length≤Av) (AB:Kd.C k39 w Aw Aa.length Aa) (AC:Aa.length≤Ax) (h:spec_l4Bytes.f k Ac Ad Y A7 Aa=some r) :
 Calls Try.prog 36 #[.agg #[.int .i64 Ac,.int .i64 Ad,.slice As Y.length At,.slice Au A7.length Av,.slice Aw Aa.length Ax]] w fun e w'=>e = .returned (.int .i64 r)∧Below w.heap.size w w':=by
 have BW:=Try.underlying28;have B1:=aK Ay;have BY:=aK Az;clear Ay Az;have BZ:=aK A_;have C0:=aK AA;clear A_ AA;have C1:=aK AB;have C2:=aK AC;clear AB AC;have HB:=aK (Below.refl w.heap.size w);have H:=h;unfold spec_l4Bytes.f at H;clear h;have H':=aK H;clear H
 go_enter Try.func36,Try.ntmps36
 go_wp2_with (first|((with_reducible refine gD 1 rfl ?_);refine boxW ?_;intro C3 hg w2 hbox hb;have AD:=aK hbox;have D2:=gW HB hg;replace HB:=bS HB hb;clear hb hbox hg))
 go_loopg [3,4] k (fun kq v3 v4 w'=>∃(J:Int) (A1:Int),v3 = .int .i64 J∧v4 = .int .i64 A1∧Aside0 (spec_l4Bytes.l0 kq J A1 Ac Ad Y A7 Aa=some r)∧Aside0 (kq≤k)∧Aside0 (w'.heap[C3]? = some (.cells #[.int .i64 Ac,.int .i64 Ad,(.slice As Y.length At),(.slice Au A7.length Av),(.slice Aw Aa.length Ax)] 28 (0,0)))∧Aside0 (Below w.heap.size w w'))
 case atStart=>exact⟨(0),(0),fa,fa,H',⟨Nat.le_refl _⟩,⟨bw AD⟩,⟨bl⟩⟩
 case round=>
  clear H';(try clear p2);obtain⟨J,A1,rfl,rfl,HA,U,AD,HB⟩:=hrel;cases gk with
  |zero=>exact absurd HA.o (by simp[spec_l4Bytes.l0])
  |succ k1=>
   have H:=HA.o;clear HA;simp only[spec_l4Bytes.l0]at H;by_cases c3:A1<(Y.length:Int)
   ·rw[if_pos c3]at H;have Ae:=dt c3;clear c3;by_cases c4:0≤A1
    ·rw[if_pos c4]at H;have Af:=dt c4;clear c4;have H':=aK H;clear H;have:=cf5 AD;have Ah:0≤(A1:Int):=dT am;have Ai:A1<(Y.length:Int):=dT am;obtain⟨AN,AT,X,An,Bg⟩:=at_T35 B1.o A1 Ah Ai;cases AT;replace X:=cz HB X;replace An:=cz HB An;replace Bg:=cz HB Bg;replace Ah:=eq_true Ah;replace Ai:=eq_true Ai;go_wp2
     go_roundg k1
     case measure=>have:=U.o;omega
     case rel=>exact⟨(wrap64 (J+(((rd_T35 Y A1).f1).size:Int))),(wrap64 (A1+1)),fa,fa,H',⟨by have:=U.o;omega⟩,⟨bw AD⟩,⟨bl⟩⟩
    ·rw[if_neg c4]at H;exact absurd H (by simp)
   ·rw[if_neg c3]at H;have Ae:=df c3;clear c3;obtain rfl:=oj H;have:=cf5 AD;go_wp2
    go_ret
    exact⟨fe,bl⟩
def spec_l4Linked.l0:Nat→List (S37)→Int→Int→Option (Bool)
 | 0,_,_,_=>none
 |k+1,x0,x1,x5=>if x5<(x0.length:Int)then(if 0≤x5 then(if((rd_T37 x0 x5).f1)=x1 then(some true)else(spec_l4Linked.l0 k x0 x1 (wrap64 (x5+1))))else(none))else(some false)
def spec_l4Linked.f (k:Nat) (l0:List (S37)) (a1:Int):Option (Bool):=spec_l4Linked.l0 k l0 a1 0
theorem spec_l4Linked.calls (k:Nat) (A0:Option Addr) (c0:Nat) (l0:List (S37)) (a1:Int) (r:Bool) (w:World) (Aj:Kd.C k37 w A0 l0.length l0) (Ak:l0.length≤c0) (h:spec_l4Linked.f k l0 a1=some r) :
 Calls Try.prog 37 #[.slice A0 l0.length c0,.int .i64 a1] w fun e w'=>e = .returned (.bool r)∧Drawn0 w w':=by
 have Ap:=aK Aj;have BM:=aK Ak;clear Aj Ak;have H:=h;unfold spec_l4Linked.f at H;clear h;have H':=aK H;clear H
 go_enter Try.func37,Try.ntmps37
 go_wp2
 go_loopg [5] k (fun kq v5 w'=>∃(D:Int),v5 = .int .i64 D∧Aside0 (spec_l4Linked.l0 kq l0 a1 D=some r)∧Aside0 (kq≤k)∧Drawn0 w w')
 case atStart=>exact⟨(0),fa,H',⟨Nat.le_refl _⟩,fd⟩
 case round=>
  clear H';(try clear p2);obtain⟨D,rfl,HA,U,⟨m1,rfl⟩⟩:=hrel;cases gk with
  |zero=>exact absurd HA.o (by simp[spec_l4Linked.l0])
  |succ k1=>
   have H:=HA.o;clear HA;simp only[spec_l4Linked.l0]at H;by_cases c3:D<(l0.length:Int)
   ·rw[if_pos c3]at H;have Ae:=dt c3;clear c3;by_cases c4:0≤D
    ·rw[if_pos c4]at H;have Af:=dt c4;clear c4;have Hq_:=aK H;clear H;have Br:0≤(D:Int):=dT am;have Bs:D<(l0.length:Int):=dT am;obtain⟨D3,Cv,Cw,Cx⟩:=at_T37 Ap.o D Br Bs;cases Cv;replace Br:=eq_true Br;replace Bs:=eq_true Bs;have H:=Hq_.o;clear Hq_;by_cases c5:((rd_T37 l0 D).f1)=a1
     ·rw[if_pos c5]at H;have Ab:=bT c5;(try rw[Ab]);have Ag:=bE c5;(try rw[Ag]);clear c5;obtain rfl:=oj H;go_wp2
      go_ret
      exact⟨fa,fd⟩
     ·rw[if_neg c5]at H;have Ab:=bN c5;(try rw[Ab]);have Ag:=bQ c5;(try rw[Ag]);have H':=aK H;clear H;go_wp2
      go_roundg k1
      case measure=>have:=U.o;omega
      case rel=>exact⟨(wrap64 (D+1)),fa,H',⟨by have:=U.o;omega⟩,fd⟩
    ·rw[if_neg c4]at H;exact absurd H (by simp)
   ·rw[if_neg c3]at H;have Ae:=df c3;clear c3;obtain rfl:=oj H;go_wp2
    go_ret
    exact⟨fa,fd⟩
def spec_l4Made.l0:Nat→List (S39)→Int→Int→Option (Bool)
 | 0,_,_,_=>none
 |k+1,x0,x1,x5=>if x5<(x0.length:Int)then(if 0≤x5 then(if((rd_T39 x0 x5).f0)=1 then(if((rd_T39 x0 x5).f3)=x1 then(some true)else(spec_l4Made.l0 k x0 x1 (wrap64 (x5+1))))else(spec_l4Made.l0 k x0 x1 (wrap64 (x5+1))))else(none))else(some false)
def spec_l4Made.f (k:Nat) (l0:List (S39)) (a1:Int):Option (Bool):=spec_l4Made.l0 k l0 a1 0
theorem spec_l4Made.calls (k:Nat) (A0:Option Addr) (c0:Nat) (l0:List (S39)) (a1:Int) (r:Bool) (w:World) (Aj:Kd.C k39 w A0 l0.length l0) (Ak:l0.length≤c0) (h:spec_l4Made.f k l0 a1=some r) :
 Calls Try.prog 38 #[.slice A0 l0.length c0,.int .i64 a1] w fun e w'=>e = .returned (.bool r)∧Drawn0 w w':=by
 have Ap:=aK Aj;have BM:=aK Ak;clear Aj Ak;have H:=h;unfold spec_l4Made.f at H;clear h;have H':=aK H;clear H
 go_enter Try.func38,Try.ntmps38
 go_wp2
 go_loopg [5] k (fun kq v5 w'=>∃(D:Int),v5 = .int .i64 D∧Aside0 (spec_l4Made.l0 kq l0 a1 D=some r)∧Aside0 (kq≤k)∧Drawn0 w w')
 case atStart=>exact⟨(0),fa,H',⟨Nat.le_refl _⟩,fd⟩
 case round=>
  clear H';(try clear p2);obtain⟨D,rfl,HA,U,⟨m1,rfl⟩⟩:=hrel;cases gk with
  |zero=>exact absurd HA.o (by simp[spec_l4Made.l0])
  |succ k1=>
   have H:=HA.o;clear HA;simp only[spec_l4Made.l0]at H;by_cases c3:D<(l0.length:Int)
   ·rw[if_pos c3]at H;have Ae:=dt c3;clear c3;by_cases c4:0≤D
    ·rw[if_pos c4]at H;have Af:=dt c4;clear c4;have Hq_:=aK H;clear H;have Bt:0≤(D:Int):=dT am;have Bu:D<(l0.length:Int):=dT am;obtain⟨C4,Cy,Cz,C_,CA,CB⟩:=at_T39 Ap.o D Bt Bu;cases Cy;replace Bt:=eq_true Bt;replace Bu:=eq_true Bu;have H:=Hq_.o;clear Hq_;by_cases c5:((rd_T39 l0 D).f0)=1
     ·rw[if_pos c5]at H;have Ab:=bT c5;(try rw[Ab]);have Ag:=bE c5;(try rw[Ag]);clear c5;have Hq_:=aK H;clear H;have Bv:0≤(D:Int):=dT am;have Bw:D<(l0.length:Int):=dT am;obtain⟨C5,CC,CD,CE,CF,CG⟩:=at_T39 Ap.o D Bv Bw;obtain rfl:C4=C5:=(by injection CC);replace Bv:=eq_true Bv;replace Bw:=eq_true Bw;have H:=Hq_.o;clear Hq_;by_cases c6:((rd_T39 l0 D).f3)=a1
      ·rw[if_pos c6]at H;have Am:=bT c6;(try rw[Am]);have Ao:=bE c6;(try rw[Ao]);clear c6;obtain rfl:=oj H;go_wp2
       go_ret
       exact⟨fa,fd⟩
      ·rw[if_neg c6]at H;have Am:=bN c6;(try rw[Am]);have Ao:=bQ c6;(try rw[Ao]);have H':=aK H;clear H;go_wp2
       go_roundg k1
       case measure=>have:=U.o;omega
       case rel=>exact⟨(wrap64 (D+1)),fa,H',⟨by have:=U.o;omega⟩,fd⟩
     ·rw[if_neg c5]at H;have Ab:=bN c5;(try rw[Ab]);have Ag:=bQ c5;(try rw[Ag]);have H':=aK H;clear H;go_wp2
      go_roundg k1
      case measure=>have:=U.o;omega
      case rel=>exact⟨(wrap64 (D+1)),fa,H',⟨by have:=U.o;omega⟩,fd⟩
    ·rw[if_neg c4]at H;exact absurd H (by simp)
   ·rw[if_neg c3]at H;have Ae:=df c3;clear c3;obtain rfl:=oj H;go_wp2
    go_ret
    exact⟨fa,fd⟩
def spec_l4Name.l0:Nat→ByteArray→Int→Option (Bool)
 | 0,_,_=>none
 |k+1,x0,x3=>if x3<(x0.size:Int)then(if 0≤x3 then(if(bt x0 x3)≥97 then(if(bt x0 x3)≤122 then(spec_l4Name.l0 k x0 (wrap64 (x3+1)))else(if(bt x0 x3)≥48 then(if(bt x0 x3)≤57 then(spec_l4Name.l0 k x0 (wrap64 (x3+1)))else(if((bt x0 x3)=46)then(spec_l4Name.l0 k x0 (wrap64 (x3+1)))else(some false)))else(if((bt x0 x3)=46)then(spec_l4Name.l0 k x0 (wrap64 (x3+1)))else(some false))))else(if(bt x0 x3)≥48 then(if(bt x0 x3)≤57 then(spec_l4Name.l0 k x0 (wrap64 (x3+1)))else(if((bt x0 x3)=46)then(spec_l4Name.l0 k x0 (wrap64 (x3+1)))else(some false)))else(if((bt x0 x3)=46)then(spec_l4Name.l0 k x0 (wrap64 (x3+1)))else(some false))))else(none))else(some true)
def spec_l4Name.f (k:Nat) (a0:ByteArray):Option (Bool):=(spec_l1In.f (a0.size:Int) 1 12).bind fun Bx=>(if Bx=true then(spec_l4Name.l0 k a0 0)else(some false))
theorem spec_l4Name.calls (k:Nat) (a0:ByteArray) (r:Bool) (w:World) (h:spec_l4Name.f k a0=some r) :
 Calls Try.prog 39 #[.string a0] w fun e w'=>e = .returned (.bool r)∧Drawn0 w w':=by
 have H:=h;unfold spec_l4Name.f at H;clear h;obtain⟨Bx,A2,H⟩:=bd H;by_cases c3:Bx=true
 ·subst c3;replace H:=iT H;have H':=aK H;clear H
  go_enter Try.func39,Try.ntmps39
  go_wp2_with (first|((with_reducible refine gC 35 rfl ?_);refine goesW Try.func35 ?_;(with_reducible refine(spec_l1In.calls (a0.size:Int) 1 12 _ _ A2.o).mono ?_);rintro e w' ⟨rfl,⟨nd,rfl⟩⟩;refine⟨_,rfl,?_⟩))
  go_loopg [3] k (fun kq v3 w'=>∃(J:Int),v3 = .int .i64 J∧Aside0 (spec_l4Name.l0 kq a0 J=some r)∧Aside0 (kq≤k)∧Drawn0 w w')
  case atStart=>exact⟨(0),fa,H',⟨Nat.le_refl _⟩,fd⟩
  case round=>
   clear H';(try clear p2);(try clear c3);obtain⟨J,rfl,HA,U,⟨m1,rfl⟩⟩:=hrel;cases gk with
   |zero=>exact absurd HA.o (by simp[spec_l4Name.l0])
   |succ k1=>
    have H:=HA.o;clear HA;simp only[spec_l4Name.l0]at H;by_cases c4:J<(a0.size:Int)
    ·rw[if_pos c4]at H;have Af:=dt c4;clear c4;by_cases c5:0≤J
     ·rw[if_pos c5]at H;have Ab:=dt c5;clear c5;have Hq_:=aK H;clear H;have p6:0≤(J:Int):=dT am;have q6:J<(a0.size:Int):=dT am;have Dm:=bt_at a0 J;replace p6:=eq_true p6;replace q6:=eq_true q6;have H:=Hq_.o;clear Hq_;by_cases c7:(bt a0 J)≥97
      ·rw[if_pos c7]at H;have AE:=dt c7;(try rw[AE]);clear c7;by_cases c8:(bt a0 J)≤122
       ·rw[if_pos c8]at H;have By:=dt c8;(try rw[By]);clear c8;have H':=aK H;clear H;go_wp2
        go_roundg k1
        case measure=>have:=U.o;omega
        case rel=>exact⟨(wrap64 (J+1)),fa,H',⟨by have:=U.o;omega⟩,fd⟩
       ·rw[if_neg c8]at H;have By:=df c8;(try rw[By]);clear c8;by_cases c9:(bt a0 J)≥48
        ·rw[if_pos c9]at H;have Bz:=dt c9;(try rw[Bz]);clear c9;by_cases c10:(bt a0 J)≤57
         ·rw[if_pos c10]at H;have B2:=dt c10;(try rw[B2]);clear c10;have H':=aK H;clear H;go_wp2
          go_roundg k1
          case measure=>have:=U.o;omega
          case rel=>exact⟨(wrap64 (J+1)),fa,H',⟨by have:=U.o;omega⟩,fd⟩
         ·rw[if_neg c10]at H;have B2:=df c10;(try rw[B2]);clear c10;by_cases B3:((bt a0 J)=46)
          ·rw[if_pos B3]at H;have B4:=bT B3;(try rw[B4]);have B5:=bE B3;(try rw[B5]);clear B3;have H':=aK H;clear H;go_wp2
           go_roundg k1
           case measure=>have:=U.o;omega
           case rel=>exact⟨(wrap64 (J+1)),fa,H',⟨by have:=U.o;omega⟩,fd⟩
          ·rw[if_neg B3]at H;have B4:=bN B3;(try rw[B4]);have B5:=bQ B3;(try rw[B5]);obtain rfl:=oj H;go_wp2
           go_ret
           exact⟨fa,fd⟩
        ·rw[if_neg c9]at H;have Bz:=df c9;(try rw[Bz]);clear c9;by_cases Aq:((bt a0 J)=46)
         ·rw[if_pos Aq]at H;have AK:=bT Aq;(try rw[AK]);have AL:=bE Aq;(try rw[AL]);clear Aq;have H':=aK H;clear H;go_wp2
          go_roundg k1
          case measure=>have:=U.o;omega
          case rel=>exact⟨(wrap64 (J+1)),fa,H',⟨by have:=U.o;omega⟩,fd⟩
         ·rw[if_neg Aq]at H;have AK:=bN Aq;(try rw[AK]);have AL:=bQ Aq;(try rw[AL]);obtain rfl:=oj H;go_wp2
          go_ret
          exact⟨fa,fd⟩
      ·rw[if_neg c7]at H;have AE:=df c7;(try rw[AE]);clear c7;by_cases Bi:(bt a0 J)≥48
       ·rw[if_pos Bi]at H;have B6:=dt Bi;(try rw[B6]);clear Bi;by_cases Bj:(bt a0 J)≤57
        ·rw[if_pos Bj]at H;have B7:=dt Bj;(try rw[B7]);clear Bj;have H':=aK H;clear H;go_wp2
         go_roundg k1
         case measure=>have:=U.o;omega
         case rel=>exact⟨(wrap64 (J+1)),fa,H',⟨by have:=U.o;omega⟩,fd⟩
        ·rw[if_neg Bj]at H;have B7:=df Bj;(try rw[B7]);clear Bj;by_cases B8:((bt a0 J)=46)
         ·rw[if_pos B8]at H;have B9:=bT B8;(try rw[B9]);have Ba:=bE B8;(try rw[Ba]);clear B8;have H':=aK H;clear H;go_wp2
          go_roundg k1
          case measure=>have:=U.o;omega
          case rel=>exact⟨(wrap64 (J+1)),fa,H',⟨by have:=U.o;omega⟩,fd⟩
         ·rw[if_neg B8]at H;have B9:=bN B8;(try rw[B9]);have Ba:=bQ B8;(try rw[Ba]);obtain rfl:=oj H;go_wp2
          go_ret
          exact⟨fa,fd⟩
       ·rw[if_neg Bi]at H;have B6:=df Bi;(try rw[B6]);clear Bi;by_cases Bb:((bt a0 J)=46)
        ·rw[if_pos Bb]at H;have Bc:=bT Bb;(try rw[Bc]);have Bd:=bE Bb;(try rw[Bd]);clear Bb;have H':=aK H;clear H;go_wp2
         go_roundg k1
         case measure=>have:=U.o;omega
         case rel=>exact⟨(wrap64 (J+1)),fa,H',⟨by have:=U.o;omega⟩,fd⟩
        ·rw[if_neg Bb]at H;have Bc:=bN Bb;(try rw[Bc]);have Bd:=bQ Bb;(try rw[Bd]);obtain rfl:=oj H;go_wp2
         go_ret
         exact⟨fa,fd⟩
     ·rw[if_neg c5]at H;exact absurd H (by simp)
    ·rw[if_neg c4]at H;have Af:=df c4;clear c4;obtain rfl:=oj H;go_wp2
     go_ret
     exact⟨fa,fd⟩
 ·replace c3:=bF c3;subst c3;replace H:=iF H;obtain rfl:=oj H
  go_enter Try.func39,Try.ntmps39
  go_wp2_with (first|((with_reducible refine gC 35 rfl ?_);refine goesW Try.func35 ?_;(with_reducible refine(spec_l1In.calls (a0.size:Int) 1 12 _ _ A2.o).mono ?_);rintro e w' ⟨rfl,⟨nd,rfl⟩⟩;refine⟨_,rfl,?_⟩))
  go_ret
  exact⟨fa,fd⟩
def spec_l4Inode.l0:Nat→Int→Int→Int→Int→List (S35)→List (S37)→List (S39)→Option (Int)
 | 0,_,_,_,_,_,_,_=>none
 |k+1,x1,x5,B_,BA,AF,BB,BC=>if x5<(AF.length:Int)then(if 0≤x5 then(if((rd_T35 AF x5).f0)=x1 then(some x5)else(spec_l4Inode.l0 k x1 (wrap64 (x5+1)) B_ BA AF BB BC))else(none))else(some (-1))
def spec_l4Inode.f (k:Nat) (Ac:Int) (Ad:Int) (Y:List (S35)) (A7:List (S37)) (Aa:List (S39)) (a1:Int):Option (Int):=spec_l4Inode.l0 k a1 0 Ac Ad Y A7 Aa
theorem spec_l4Inode.calls (k:Nat) (Ac:Int) (Ad:Int) (As:Option Addr) (At:Nat) (Y:List (S35)) (Au:Option Addr) (Av:Nat) (A7:List (S37)) (Aw:Option Addr) (Ax:Nat) (Aa:List (S39)) (a1:Int) (r:Int) (w:World) (Ay:Kd.C k35 w As Y.length Y) (Az:Y.length≤At) (A_:Kd.C k37 w Au A7.length A7) (AA:A7.length≤Av) (AB:Kd.C k39 w Aw Aa.length Aa) (AC:Aa.length≤Ax) (h:spec_l4Inode.f k Ac Ad Y A7 Aa a1=some r) :
 Calls Try.prog 40 #[.agg #[.int .i64 Ac,.int .i64 Ad,.slice As Y.length At,.slice Au A7.length Av,.slice Aw Aa.length Ax],.int .i64 a1] w fun e w'=>e = .returned (.int .i64 r)∧Below w.heap.size w w':=by
 have BW:=Try.underlying28;have B1:=aK Ay;have BY:=aK Az;clear Ay Az;have BZ:=aK A_;have C0:=aK AA;clear A_ AA;have C1:=aK AB;have C2:=aK AC;clear AB AC;have HB:=aK (Below.refl w.heap.size w);have H:=h;unfold spec_l4Inode.f at H;clear h;have H':=aK H;clear H
 go_enter Try.func40,Try.ntmps40
 go_wp2_with (first|((with_reducible refine gD 2 rfl ?_);refine boxW ?_;intro C6 hg w3 hbox hb;have AG:=aK hbox;have D4:=gW HB hg;replace HB:=bS HB hb;clear hb hbox hg))
 go_loopg [5] k (fun kq v5 w'=>∃(D:Int),v5 = .int .i64 D∧Aside0 (spec_l4Inode.l0 kq a1 D Ac Ad Y A7 Aa=some r)∧Aside0 (kq≤k)∧Aside0 (w'.heap[C6]? = some (.cells #[.int .i64 Ac,.int .i64 Ad,(.slice As Y.length At),(.slice Au A7.length Av),(.slice Aw Aa.length Ax)] 28 (0,0)))∧Aside0 (Below w.heap.size w w'))
 case atStart=>exact⟨(0),fa,H',⟨Nat.le_refl _⟩,⟨bw AG⟩,⟨bl⟩⟩
 case round=>
  clear H';(try clear p2);obtain⟨D,rfl,HA,U,AG,HB⟩:=hrel;cases gk with
  |zero=>exact absurd HA.o (by simp[spec_l4Inode.l0])
  |succ k1=>
   have H:=HA.o;clear HA;simp only[spec_l4Inode.l0]at H;by_cases c4:D<(Y.length:Int)
   ·rw[if_pos c4]at H;have Af:=dt c4;clear c4;by_cases c5:0≤D
    ·rw[if_pos c5]at H;have Ab:=dt c5;clear c5;have Hq_:=aK H;clear H;have:=cf5 AG;have BD:0≤(D:Int):=dT am;have BE:D<(Y.length:Int):=dT am;obtain⟨D5,CH,AO,AP,AQ⟩:=at_T35 B1.o D BD BE;cases CH;replace AO:=cz HB AO;replace AP:=cz HB AP;replace AQ:=cz HB AQ;replace BD:=eq_true BD;replace BE:=eq_true BE;have H:=Hq_.o;clear Hq_;by_cases c6:((rd_T35 Y D).f0)=a1
     ·rw[if_pos c6]at H;have Am:=bT c6;(try rw[Am]);have Ao:=bE c6;(try rw[Ao]);clear c6;obtain rfl:=oj H;go_wp2
      go_ret
      exact⟨fe,bl⟩
     ·rw[if_neg c6]at H;have Am:=bN c6;(try rw[Am]);have Ao:=bQ c6;(try rw[Ao]);have H':=aK H;clear H;go_wp2
      go_roundg k1
      case measure=>have:=U.o;omega
      case rel=>exact⟨(wrap64 (D+1)),fa,H',⟨by have:=U.o;omega⟩,⟨bw AG⟩,⟨bl⟩⟩
    ·rw[if_neg c5]at H;exact absurd H (by simp)
   ·rw[if_neg c4]at H;have Af:=df c4;clear c4;obtain rfl:=oj H;have:=cf5 AG;go_wp2
    go_ret
    exact⟨fe,bl⟩
def spec_l4At.l0:Nat→List (S37)→ByteArray→Int→Option (Int)
 | 0,_,_,_=>none
 |k+1,x0,x1,x5=>if x5<(x0.length:Int)then(if 0≤x5 then(if((rd_T37 x0 x5).f0).toList=x1.toList then(some x5)else(spec_l4At.l0 k x0 x1 (wrap64 (x5+1))))else(none))else(some (-1))
def spec_l4At.f (k:Nat) (l0:List (S37)) (a1:ByteArray):Option (Int):=spec_l4At.l0 k l0 a1 0
theorem spec_l4At.calls (k:Nat) (A0:Option Addr) (c0:Nat) (l0:List (S37)) (a1:ByteArray) (r:Int) (w:World) (Aj:Kd.C k37 w A0 l0.length l0) (Ak:l0.length≤c0) (h:spec_l4At.f k l0 a1=some r) :
 Calls Try.prog 77 #[.slice A0 l0.length c0,.string a1] w fun e w'=>e = .returned (.int .i64 r)∧Drawn0 w w':=by
 have Ap:=aK Aj;have BM:=aK Ak;clear Aj Ak;have H:=h;unfold spec_l4At.f at H;clear h;have H':=aK H;clear H
 go_enter Try.func77,Try.ntmps77
 go_wp2
 go_loopg [5] k (fun kq v5 w'=>∃(D:Int),v5 = .int .i64 D∧Aside0 (spec_l4At.l0 kq l0 a1 D=some r)∧Aside0 (kq≤k)∧Drawn0 w w')
 case atStart=>exact⟨(0),fa,H',⟨Nat.le_refl _⟩,fd⟩
 case round=>
  clear H';(try clear p2);obtain⟨D,rfl,HA,U,⟨m1,rfl⟩⟩:=hrel;cases gk with
  |zero=>exact absurd HA.o (by simp[spec_l4At.l0])
  |succ k1=>
   have H:=HA.o;clear HA;simp only[spec_l4At.l0]at H;by_cases c3:D<(l0.length:Int)
   ·rw[if_pos c3]at H;have Ae:=dt c3;clear c3;by_cases c4:0≤D
    ·rw[if_pos c4]at H;have Af:=dt c4;clear c4;have Hq_:=aK H;clear H;have BF:0≤(D:Int):=dT am;have BG:D<(l0.length:Int):=dT am;obtain⟨D6,CI,CJ,CK⟩:=at_T37 Ap.o D BF BG;cases CI;replace BF:=eq_true BF;replace BG:=eq_true BG;have H:=Hq_.o;clear Hq_;by_cases c5:((rd_T37 l0 D).f0).toList=a1.toList
     ·rw[if_pos c5]at H;have Ab:=bT c5;(try rw[Ab]);have Ag:=bE c5;(try rw[Ag]);clear c5;obtain rfl:=oj H;go_wp2
      go_ret
      exact⟨fa,fd⟩
     ·rw[if_neg c5]at H;have Ab:=bN c5;(try rw[Ab]);have Ag:=bQ c5;(try rw[Ag]);have H':=aK H;clear H;go_wp2
      go_roundg k1
      case measure=>have:=U.o;omega
      case rel=>exact⟨(wrap64 (D+1)),fa,H',⟨by have:=U.o;omega⟩,fd⟩
    ·rw[if_neg c4]at H;exact absurd H (by simp)
   ·rw[if_neg c3]at H;have Ae:=df c3;clear c3;obtain rfl:=oj H;go_wp2
    go_ret
    exact⟨fa,fd⟩
def spec_l4Without.l0:Nat→List (S37)→ByteArray→List (S37)→Int→Option ((List (S37)))
 | 0,_,_,_,_=>none
 |k+1,x0,x1,x5,x6=>if x6<(x0.length:Int)then(if 0≤x6 then(if((rd_T37 x0 x6).f0).toList=x1.toList then(spec_l4Without.l0 k x0 x1 x5 (wrap64 (x6+1)))else(if x5.length<5864062014805 then(spec_l4Without.l0 k x0 x1 (x5 ++ [(⟨(rd_T37 x0 x6).f0,(rd_T37 x0 x6).f1⟩:S37)]) (wrap64 (x6+1)))else(none)))else(none))else(some x5)
def spec_l4Without.f (k:Nat) (l0:List (S37)) (a1:ByteArray):Option ((List (S37))):=spec_l4Without.l0 k l0 a1 (([]:List (S37))) 0
theorem spec_l4Without.calls (k:Nat) (A0:Option Addr) (c0:Nat) (l0:List (S37)) (a1:ByteArray) (r:List (S37)) (w:World) (Aj:Kd.C k37 w A0 l0.length l0) (Ak:l0.length≤c0) (h:spec_l4Without.f k l0 a1=some r) :
 Calls Try.prog 79 #[.slice A0 l0.length c0,.string a1] w fun e w'=>∃CL:Value,e = .returned (CL)∧Kd.R k37 37 w' w.heap.size (fun _=>True) CL r∧Below w.heap.size w w':=by
 have Di:=Try.underlying37;have Ap:=aK Aj;have BM:=aK Ak;clear Aj Ak;have HB:=aK (Below.refl w.heap.size w);have H:=h;unfold spec_l4Without.f at H;clear h;obtain⟨BX,AH⟩:∃y_:List (S37),y_=(([]:List (S37))):=⟨_,rfl⟩;replace H:(spec_l4Without.l0 k l0 a1 BX 0)=some r:=by first|(rw[AH];with_reducible exact H)|(have C7:=(Option.bind_some _ _).symm.trans H;rw[AH];with_reducible exact C7)|(have C7:=(Option.bind_some _ _).symm.trans H;with_reducible exact C7)|with_reducible exact H|(rw[AH];exact H)|exact H
 have BH:=aK AH;clear AH;have H':=aK H;clear H
 go_enter Try.func79,Try.ntmps79
 go_wp2_with (first|((with_reducible refine gD 7 rfl ?_);refine Kd.R_lit k37 _ 37 ?hg (N:=7) ?hd (xs:=([]:List (S37))) (inner:=[]) (ok:=fun _=>True) (okp:=fun _=>True) ?hr ?hp (fun _ hk=>hk) trivial (Below.refl _ _) (Nat.le_refl _) (by simp) ?_;(case hd=>rfl);(case hg=>rfl);(case hr=>first|(go_simp;done)|(go_simp;rfl));(case hp=>exact(Reps.none _ _));intro Dj w3 BI hb hg_ hnew_;clear hg_ hnew_;(first|rw[←BH.o]at BI|(simp only[Int.reduceToNat]at BI;rw[←BH.o]at BI));have C8:=rl HB BI;replace HB:=bS HB hb;clear hb BI))
 go_loopg [5,6] k (fun kq v5 v6 w'=>∃(D:List (S37)) (A4:Int),v6 = .int .i64 A4∧Aside0 (spec_l4Without.l0 kq l0 a1 D A4=some r)∧Aside0 (kq≤k)∧Aside0 (Kd.R k37 37 w' w.heap.size (fun _=>True) v5 D)∧Aside0 (Below w.heap.size w w'))
 case atStart=>exact⟨(BX),(0),fa,H',⟨Nat.le_refl _⟩,⟨rpR C8.o⟩,⟨bl⟩⟩
 case round=>
  clear H';(try clear p2);obtain⟨D,A4,rfl,HA,U,Bh,HB⟩:=hrel;cases gk with
  |zero=>exact absurd HA.o (by simp[spec_l4Without.l0])
  |succ k1=>
   have H:=HA.o;clear HA;simp only[spec_l4Without.l0]at H;by_cases c5:A4<(l0.length:Int)
   ·rw[if_pos c5]at H;have Ab:=dt c5;clear c5;by_cases c6:0≤A4
    ·rw[if_pos c6]at H;have Am:=dt c6;clear c6;have Hq_:=aK H;clear H;have BJ:0≤(A4:Int):=dT am;have BK:A4<(l0.length:Int):=dT am;obtain⟨C9,CM,AR,AS⟩:=at_T37 Ap.o A4 BJ BK;cases CM;replace AR:=cz HB AR;replace AS:=cz HB AS;replace BJ:=eq_true BJ;replace BK:=eq_true BK;have H:=Hq_.o;clear Hq_;by_cases c7:((rd_T37 l0 A4).f0).toList=a1.toList
     ·rw[if_pos c7]at H;have AE:=bT c7;(try rw[AE]);have BL:=bE c7;(try rw[BL]);clear c7;have H':=aK H;clear H;go_wp2
      go_roundg k1
      case measure=>have:=U.o;omega
      case rel=>exact⟨(D),(wrap64 (A4+1)),fa,H',⟨by have:=U.o;omega⟩,⟨rpR Bh.o⟩,⟨bl⟩⟩
     ·rw[if_neg c7]at H;have AE:=bN c7;(try rw[AE]);have BL:=bQ c7;(try rw[BL]);by_cases c8:D.length<5864062014805
      ·rw[if_pos c8]at H;have CN:=aK c8;clear c8;obtain⟨CO,Be⟩:=yy (D ++ [(⟨(rd_T37 l0 A4).f0,(rd_T37 l0 A4).f1⟩:S37)]);rw[←Be]at H;(try rw[obs]at H)
       have Ca:=aK Be;clear Be;have H':=aK H;clear H;have Ah:0≤(A4:Int):=dT am;have Ai:A4<(l0.length:Int):=dT am;obtain⟨AN,AT,X,An⟩:=at_T37 Ap.o A4 Ah Ai;obtain rfl:C9=AN:=(by injection AT);replace X:=cz HB X;replace An:=cz HB An;replace Ah:=eq_true Ah;replace Ai:=eq_true Ai;go_wp2_with (first|((with_reducible refine gate_builtin (b:=.append) (xs:=#[.tmp 21,.tmp 26]) rfl ?_);at_builtin;refine Kd.R_append k37 (w0:=w) w.heap.size rfl (.tmp 21) (.tmp 26) 25 37 (.agg #[(.string ⟨#[]⟩),(.int .i64 0)]) 24 rfl Try.underlying25 info37 rfl (by decide) (by omega) u5 D (⟨(rd_T37 l0 A4).f0,(rd_T37 l0 A4).f1⟩:S37) [.string ((rd_T37 l0 A4).f0),.int .i64 ((rd_T37 l0 A4).f1)] (fun _=>True) (fun _=>False) rfl rfl ?aP (fun _ hk=>hk.elim) ?aF ?aO ?aB ?aS ?aL ?_;(case aP=>exact k37_mkM _ _ _ (⟨(rd_T37 l0 A4).f0,(rd_T37 l0 A4).f1⟩:S37));(case aB=>exact bl);(case aF=>exact(fun _ _=>trivial));(case aO=>exact(rpR Bh.o));(case aS=>exact(below_size bl));(case aL=>have:=CN.o;omega);intro Dn CW ho hb hg hat;rw[←Ca.o]at ho;replace HB:=aK (hb);have CP:=aK (ho);clear Bh;clear ho hb hg hat))
       go_roundg k1
       case measure=>have:=U.o;omega
       case rel=>exact⟨(CO),(wrap64 (A4+1)),fa,H',⟨by have:=U.o;omega⟩,⟨rpR CP.o⟩,⟨bl⟩⟩
      ·rw[if_neg c8]at H;exact absurd H (by simp)
    ·rw[if_neg c6]at H;exact absurd H (by simp)
   ·rw[if_neg c5]at H;have Ab:=df c5;clear c5;obtain rfl:=oj H;go_wp2
    go_ret
    exact⟨_,fe,rpR Bh.o,bl⟩
end Go.Proofs.Ytndbmllnkjngnaa.PDs
