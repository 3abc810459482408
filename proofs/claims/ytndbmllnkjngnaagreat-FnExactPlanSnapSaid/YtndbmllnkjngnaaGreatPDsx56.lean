/- Functions of the program, each with its contract, written by a program out of the translation. -/
import Derived.Test.YtndbmllnkjngnaaGreatPDsx40t
import Derived.Test.YtndbmllnkjngnaaGreatPDsx31
import Derived.Test.YtndbmllnkjngnaaGreatPDsx4
import Derived.Test.YtndbmllnkjngnaaGreatPDsx44
import Derived.Test.YtndbmllnkjngnaaGreatZup
import Derived.Test.YtndbmllnkjngnaaGreatPDsx5
import Derived.Test.YtndbmllnkjngnaaGreatPDsx50
namespace Go.Proofs.YtndbmllnkjngnaaGreat.PDs
open Go.RowKit Go.Proofs.YtndbmllnkjngnaaGreatW.PrintWords Go.Proofs.YtndbmllnkjngnaaGreatW.PrintLast Go.Proofs.YtndbmllnkjngnaaGreatW.PrintMore Go.Proofs.YtndbmllnkjngnaaGreat.Zip
attribute [local go_sem] max2_int min2_int max_two min_two max_three min_three max_four min_four
set_option linter.unusedVariables false
set_option linter.unusedSimpArgs false
set_option maxHeartbeats 8000000
set_option maxRecDepth 100000
def spec_SnapOk.f (U:Int) (X:Int) (A0:ByteArray):Option (Bool):=if U=0 then(if X=0 then(some (A0.toList==([]:List UInt8)))else(some false))else((spec_l1In.f U 1 100000).bind fun B2=>(if B2=true then((spec_l1In.f X 1 100000).bind fun B4=>(if B4=true then(some (decide ((A0.size:Int)≤30000)))else(some false)))else(some false)))
theorem spec_SnapOk.z1 {p:Prop} (h:p:=by
 go_enter Tryz.func82,Tryz.ntmps82
 go_wp2_with (first|((with_reducible refine gD 1 rfl ?_);(try (refine gate_guard rfl ?_;dsimp only));refine boxW ?_;intro C1 hg B5 hbox hb;have BE:=aK hbox;have C2:=gW HB hg;replace HB:=bS HB hb;clear hb hbox hg;have:=cf3 BE)|((with_reducible refine gC 99 rfl ?_);refine goesW Tryz.func99 ?_;(with_reducible refine(spec_l1In.calls U 1 100000 _ _ A8.o).mono ?_);rintro e w' ⟨rfl,⟨nd,rfl⟩⟩;refine⟨_,rfl,?_⟩)|(go_at_call 99;(with_reducible refine(spec_l1In.calls X 1 100000 _ _ BF.o).mono ?_);rintro e w' ⟨rfl,⟨nd,rfl⟩⟩))
 go_ret
 exact⟨fe,bl⟩):p:=h
theorem spec_SnapOk.calls (U:Int) (X:Int) (A0:ByteArray) (r:Bool) (w:World) (h:spec_SnapOk.f U X A0=some r) :
 Calls Tryz.prog 82 #[.agg #[.int .i64 U,.int .i64 X,.string A0]] w fun e w'=>e = .returned (.bool r)∧Below w.heap.size w w':=by
 have BC:=Tryz.underlying69;have HB:=aK (Below.refl w.heap.size w);have H:=h;unfold spec_SnapOk.f at H;clear h;by_cases c2:U=0
 ·rw[if_pos c2]at H;have BN:=bT c2;have BO:=bE c2;clear c2;by_cases c3:X=0
  ·rw[if_pos c3]at H;have BP:=bT c3;have BQ:=bE c3;clear c3;obtain rfl:=oj H
   exact spec_SnapOk.z1
  ·rw[if_neg c3]at H;have BP:=bN c3;have BQ:=bQ c3;obtain rfl:=oj H
   exact spec_SnapOk.z1
 ·rw[if_neg c2]at H;have BN:=bN c2;have BO:=bQ c2;obtain⟨B2,A8,H⟩:=bd H;by_cases c9:B2=true
  ·subst c9;replace H:=iT H;obtain⟨B4,BF,H⟩:=bd H;by_cases Aj:B4=true
   ·subst Aj;replace H:=iT H;obtain rfl:=oj H
    exact spec_SnapOk.z1
   ·replace Aj:=bF Aj;subst Aj;replace H:=iF H;obtain rfl:=oj H
    exact spec_SnapOk.z1
  ·replace c9:=bF c9;subst c9;replace H:=iF H;obtain rfl:=oj H
   exact spec_SnapOk.z1
def spec_ShowSnap.j0:Nat→Bool→Int→Int→ByteArray→Option (ByteArray)
 | 0,_,_,_,_=>none
 |k+1,C3,B6,B7,Am=>if C3=true then(some (⟨#[]⟩:ByteArray))else((spec_Fixed.f k B6 4).bind fun Ae=>((spec_Fixed.f k B7 4).bind fun Af=>(if Ae.size+Af.size≤9223372036854775807 then((spec_Fixed.f k (Am.size:Int) 4).bind fun Ai=>(if(Ae.size+Af.size)+Ai.size≤9223372036854775807 then((spec_Crc.f k Am).bind fun AX=>((spec_Fixed.f k AX 4).bind fun Ao=>(if((Ae.size+Af.size)+Ai.size)+Ao.size≤9223372036854775807 then((spec_Frame.f k (((Ae++Af)++Ai)++Ao)).bind fun As=>(if As.size+Am.size≤9223372036854775807 then(some (As++Am))else(none)))else(none))))else(none)))else(none))))
def spec_ShowSnap.f (k:Nat) (U:Int) (X:Int) (A0:ByteArray):Option (ByteArray):=(spec_SnapOk.f U X A0).bind fun B8=>(if B8=true then(spec_ShowSnap.j0 k (U==0) U X A0)else(spec_ShowSnap.j0 k true U X A0))
def spec_ShowSnap.T3:Bool×List (List Nat×List Nat):=(true,[([],[]),([0],[0]),([1],[1]),([],[]),([3],[3]),([4,2],[4]),([2,5],[2,5]),([],[]),([7],[7]),([8],[8]),([9,5],[9]),([6,10],[6,10]),([],[]),([12],[12]),([13,10],[13]),([14,14],[14]),([11,15],[11,15]),([16,15],[16]),([],[]),([18],[18]),([17,19],[17,19]),([20,17,0,1,2,3,4,5,6,7,8,9,10,11,12,13,14,15,16,17,18,19,20],[20])])
def spec_ShowSnap.B3:List Nat:=[0,1,3,0,8,31,63,0,128,384,959,2047,0,4096,14271,30655,65535,131071,0,262144,1048575,2097151]
theorem spec_ShowSnap.tab3:rtab .any (opsOf Tryz.f83 3)=spec_ShowSnap.T3:=by kernel_rfl
theorem spec_ShowSnap.bits3:waitsOk spec_ShowSnap.T3.2 spec_ShowSnap.B3=true:=by kernel_rfl
theorem spec_ShowSnap.z1 {p:Prop} (h:p:=by
 go_wp2_with (first|((with_reducible refine gC 82 rfl ?_);refine goesW Tryz.func82 ?_;(with_reducible refine(spec_SnapOk.calls U X A0 _ _ A4.o).mono ?_);rintro e B5 ⟨rfl,hb⟩;refine⟨_,rfl,?_⟩;replace Z:=bv Z hb;replace HB:=bS HB hb;(try clear hb);have:=cf3 Z))
 (first|(have _:=BG;go_meet;(case rel=>exact⟨_,((U==0)),fa,H',⟨by first|omega|exact Nat.le_refl _⟩,⟨bw Z⟩,⟨bl⟩⟩))|(have _:=B9;go_meet;(case rel=>exact⟨_,(true),fa,H',⟨by first|omega|exact Nat.le_refl _⟩,⟨bw Z⟩,⟨bl⟩⟩)))):p:=h
theorem spec_ShowSnap.calls (k:Nat) (U:Int) (X:Int) (A0:ByteArray) (r:ByteArray) (w:World) (h:spec_ShowSnap.f k U X A0=some r) :
 Calls Tryz.prog 83 #[.agg #[.int .i64 U,.int .i64 X,.string A0]] w fun e w'=>e = .returned (.string r)∧Below w.heap.size w w':=by
 have BC:=Tryz.underlying69;have HB:=aK (Below.refl w.heap.size w);have H:=h;unfold spec_ShowSnap.f at H;clear h;have BH:=aK H;clear H
 go_enter Tryz.func83,Tryz.ntmps83
 go_upto_region 1 with(first|((with_reducible refine gD 1 rfl ?_);refine boxW ?_;intro At hg w3 hbox hb;have Z:=aK hbox;have C4:=gW HB hg;replace HB:=bS HB hb;clear hb hbox hg))
 (try simp only[Act.put,List.setIfInBounds_toArray,List.set_cons_zero,List.set_cons_succ])
 go_cut [10] (fun C5 wc=>∃(kq:Nat) (Au:Bool),C5 = .bool Au∧Aside0 (spec_ShowSnap.j0 kq Au U X A0=some r)∧Aside0 (kq≤k)∧Aside0 (wc.heap[At]? = some (.cells #[.int .i64 U,.int .i64 X,.string A0] 69 (0,0)))∧Aside0 (Below w.heap.size w wc))
 case first=>
  have H:=BH.o;clear BH;obtain⟨B8,A4,H⟩:=bd H;by_cases c5:B8=true
  ·subst c5;replace H:=iT H;have H':=aK H;clear H;have:=cf3 Z;have BG:=trivial;exact spec_ShowSnap.z1
  ·replace c5:=bF c5;subst c5;replace H:=iF H;have H':=aK H;clear H;have:=cf3 Z;have B9:=trivial;exact spec_ShowSnap.z1
 case rest=>
  clear BH;(try clear p2);(try clear c5);(try clear c8);obtain⟨kq,Au,rfl,HA,CJ,Z,HB⟩:=hcut;cases kq with
  |zero=>exact absurd HA.o (by simp[spec_ShowSnap.j0])
  |succ B0=>
   have H:=HA.o;clear HA;simp only[spec_ShowSnap.j0]at H;by_cases Aj:Au=true
   ·subst Aj;replace H:=iT H;obtain rfl:=oj H;go_wp2
    go_ret
    exact⟨fe,bl⟩
   ·replace Aj:=bF Aj;subst Aj;replace H:=iF H;obtain⟨Ae,BI,H⟩:=bd H;obtain⟨Af,C6,H⟩:=bd H;by_cases B1:Ae.size+Af.size≤9223372036854775807
    ·rw[if_pos B1]at H;have C7:=eq_true B1;have C8:=dt B1;(try have C9:(9223372036854775807<Ae.size+Af.size)=False:=eq_false (Nat.not_lt.2 B1));obtain⟨Ai,Ca,H⟩:=bd H;by_cases Ba:(Ae.size+Af.size)+Ai.size≤9223372036854775807
     ·rw[if_pos Ba]at H;have Cb:=eq_true Ba;have Cc:=dt Ba;(try have Cd:(9223372036854775807<(Ae.size+Af.size)+Ai.size)=False:=eq_false (Nat.not_lt.2 Ba));obtain⟨AX,Ce,H⟩:=bd H;obtain⟨Ao,Cf,H⟩:=bd H;by_cases Bb:((Ae.size+Af.size)+Ai.size)+Ao.size≤9223372036854775807
      ·rw[if_pos Bb]at H;have Cg:=eq_true Bb;have Ch:=dt Bb;(try have Ci:(9223372036854775807<((Ae.size+Af.size)+Ai.size)+Ao.size)=False:=eq_false (Nat.not_lt.2 Bb));obtain⟨As,Cj,H⟩:=bd H;by_cases Bc:As.size+A0.size≤9223372036854775807
       ·rw[if_pos Bc]at H;have Ck:=eq_true Bc;have Cl:=dt Bc;(try have Cm:(9223372036854775807<As.size+A0.size)=False:=eq_false (Nat.not_lt.2 Bc));obtain rfl:=oj H;(try go_wp2);replace Z:=dB Z;replace HB:=dW HB;refine start_ (n:=22) (S:=fun w'=>w'.cell? ⟨At,0,none⟩=some (.int .i64 U)∧w'.cell? ⟨At,1,none⟩=some (.int .i64 X)∧w'.cell? ⟨At,2,none⟩=some (.string A0)) (ds:=[]) (bo 22 0) (by kernel_rfl) rfl rfl hh (fun hHeld=>?_);refine with_tabW spec_ShowSnap.tab3 spec_ShowSnap.bits3 (fun HT_ HW_=>?_);generalize wc.drew=B5 at Z HB hHeld ⊢;refine pV 0 11 (bo 22 1) ?_;refine pV 3 14 (bo 22 9) ?_;refine pV 7 18 (bo 22 137) ?_;refine pV 12 23 (bo 22 4233) ?_;refine pV 18 29 (bo 22 266377) ?_;refine tV 1 12 (bo 22 266379) ?_;refine tV 4 15 (bo 22 266395) ?_;refine tV 8 19 (bo 22 266651) ?_;refine pV 9 20 (bo 22 267163) ?_;refine tV 13 24 (bo 22 275355) ?_;refine tV 19 30 (bo 22 799643) ?_;refine o1 2 13 (bo 22 799647) (fun K hK=>?_);refine goesV Tryz.func141 ?_;(with_reducible refine(spec_Fixed.calls B0 U 4 Ae _ BI.o).mono ?_);rintro e BR ⟨rfl,hb⟩;refine⟨_,rfl,?_⟩;replace Z:=bv Z hb;replace HB:=bS HB hb;(try clear hb Aw hk hi)
        refine hK.out _ _ hh (fun hHeld=>?_);clear hK K;refine nm 13 ?_;refine o1 5 16 (bo 22 799679) (fun K hK=>?_);refine goesV Tryz.func141 ?_;(with_reducible refine(spec_Fixed.calls B0 X 4 Af _ C6.o).mono ?_);rintro e BS ⟨rfl,hb⟩;refine⟨_,rfl,?_⟩;replace Z:=bv Z hb;replace HB:=bS HB hb;(try clear hb Aw hk hi);refine hK.out _ _ hh (fun hHeld=>?_);clear hK K;refine nm 16 ?_;refine pV 6 17 (bo 22 799743) ?_;refine o1 10 21 (bo 22 800767) (fun K hK=>?_);refine goesV Tryz.func141 ?_;(with_reducible refine(spec_Fixed.calls B0 (A0.size:Int) 4 Ai _ Ca.o).mono ?_);rintro e Cn ⟨rfl,hb⟩;refine⟨_,rfl,?_⟩;replace Z:=bv Z hb;replace HB:=bS HB hb;(try clear hb Aw hk hi);refine hK.out _ _ hh (fun hHeld=>?_);clear hK K;refine nm 21 ?_;refine pV 11 22 (bo 22 802815) ?_;refine o1 14 25 (bo 22 819199) (fun K hK=>?_);refine goesV Tryz.func142 ?_;(with_reducible refine(spec_Crc.calls B0 A0 AX _ Ce.o).mono ?_);rintro e w' ⟨rfl,⟨nd,rfl⟩⟩;refine⟨_,rfl,?_⟩;refine hK.out _ _ hh (fun hHeld=>?_);clear hK K;refine nm 25 ?_
        refine o1 15 26 (bo 22 851967) (fun K hK=>?_);refine goesV Tryz.func141 ?_;(with_reducible refine(spec_Fixed.calls B0 AX 4 Ao _ Cf.o).mono ?_);rintro e Co ⟨rfl,hb⟩;refine⟨_,rfl,?_⟩;replace Z:=bv Z hb;replace HB:=bS HB hb;(try clear hb Aw hk hi);refine hK.out _ _ hh (fun hHeld=>?_);clear hK K;refine nm 26 ?_;refine pV 16 27 (bo 22 917503) ?_;refine o1 17 28 (bo 22 1048575) (fun K hK=>?_);refine goesV Tryz.func132 ?_;(with_reducible refine(spec_Frame.calls B0 (((Ae++Af)++Ai)++Ao) As _ Cj.o).mono ?_);rintro e CK ⟨rfl,hb⟩;refine⟨_,rfl,?_⟩;replace Z:=bv Z hb;replace HB:=bS HB hb;(try clear hb Aw hk hi);refine hK.out _ _ hh (fun hHeld=>?_);clear hK K;refine nm 28 ?_;refine pV 20 31 (bo 22 2097151) ?_;refine pV 21 2 (bo 22 4194303) ?_;refine done_ (done_of HT_.o (by kernel_rfl)) ?_;(try go_wp2)
        go_ret
        exact⟨fe,bl⟩
       ·rw[if_neg Bc]at H;exact absurd H (by simp)
      ·rw[if_neg Bb]at H;exact absurd H (by simp)
     ·rw[if_neg Ba]at H;exact absurd H (by simp)
    ·rw[if_neg B1]at H;exact absurd H (by simp)
def spec_PlanSnap.j0:Nat→Bool→Int→Int→List (S130)→List (S133)→List (S135)→Int→Int→ByteArray→Int→Int→Int→Int→List (S115)→Option ((List (S39)))
 | 0,_,_,_,_,_,_,_,_,_,_,_,_,_,_=>none
 |k+1,Cp,Ax,Ay,Az,A_,AA,Bd,Be,Bf,Bg,Bh,Bi,Bj,Bk=>if Cp=true then(some (([]:List (S39))))else((spec_ShowSnap.f k Bd Be Bf).bind fun AY=>((spec_l6Anew.f k Ax Ay Az A_ AA (⟨#[115,110,97,112]⟩:ByteArray) AY).bind fun Ap=>((spec_WalText.f k Bg Bh Bi Bj Bk).bind fun AZ=>((spec_l6Anew.f k Ax Ay Az A_ AA (⟨#[108,111,103]⟩:ByteArray) AZ).bind fun An=>(if Ap.length+An.length<2513169434916 then(some (Ap++An))else(none))))))
def spec_PlanSnap.f (k:Nat) (U:Int) (X:Int) (A1:List (S130)) (A2:List (S133)) (A3:List (S135)) (A6:Int) (A7:Int) (A9:ByteArray) (Aa:Int) (Ab:Int) (Ac:Int) (Ad:Int) (A5:List (S115)):Option ((List (S39))):=(spec_DiskOk.f k U X A1 A2 A3).bind fun Bl=>(if Bl=true then((spec_WalOk.f k Aa Ab Ac Ad A5).bind fun Bm=>(if Bm=true then((spec_SnapOk.f A6 A7 A9).bind fun Bn=>(if Bn=true then(spec_PlanSnap.j0 k (A6==0) U X A1 A2 A3 A6 A7 A9 Aa Ab Ac Ad A5)else(spec_PlanSnap.j0 k true U X A1 A2 A3 A6 A7 A9 Aa Ab Ac Ad A5)))else(spec_PlanSnap.j0 k true U X A1 A2 A3 A6 A7 A9 Aa Ab Ac Ad A5)))else(spec_PlanSnap.j0 k true U X A1 A2 A3 A6 A7 A9 Aa Ab Ac Ad A5))
def spec_PlanSnap.T3:Bool×List (List Nat×List Nat):=(true,[([],[]),([],[]),([1],[1]),([0,2,2],[0,2]),([],[]),([],[]),([5,3],[5]),([4,6,6],[4,6]),([3,7,7],[3,7]),([8,8,0,1,2,3,4,5,6,7,8],[8])])
def spec_PlanSnap.B3:List Nat:=[0,0,2,7,0,0,47,127,255,511]
theorem spec_PlanSnap.tab3:rtab .any (opsOf Tryz.f31 3)=spec_PlanSnap.T3:=by kernel_rfl
theorem spec_PlanSnap.bits3:waitsOk spec_PlanSnap.T3.2 spec_PlanSnap.B3=true:=by kernel_rfl
theorem spec_PlanSnap.z1 {p:Prop} (h:p:=by
 go_wp2_with (first|((with_reducible refine gC 42 rfl ?_);refine goesW Tryz.func42 ?_;(with_reducible refine(spec_DiskOk.calls k U X _ _ A1 _ _ A2 _ _ A3 _ _ ?_ ?_ ?_ ?_ ?_ ?_ A8.o).mono ?_);exact cB AK HB;exact AL.o;exact cB AM HB;exact AN.o;exact cB AO HB;exact AP.o;rintro e B5 ⟨rfl,hb⟩;refine⟨_,rfl,?_⟩;replace D:=bv D hb;replace J:=bv J hb;replace Y:=bv Y hb;replace HB:=bS HB hb;(try clear hb);have Cq:=AQ.o;have Cr:=AR.o;have:=cf5 Y)|(go_at_call 71;(with_reducible refine(spec_WalOk.calls k Aa Ab Ac Ad _ _ A5 _ _ ?_ ?_ BF.o).mono ?_);exact cB Bo HB;exact Bp.o;rintro e BR ⟨rfl,hb⟩;replace D:=bv D hb;replace J:=bv J hb;replace Y:=bv Y hb;replace HB:=bS HB hb;(try clear hb);have:=cf3 J)|(go_at_call 82;(with_reducible refine(spec_SnapOk.calls A6 A7 A9 _ _ BI.o).mono ?_);rintro e BS ⟨rfl,hb⟩;replace D:=bv D hb;replace J:=bv J hb;replace Y:=bv Y hb;replace HB:=bS HB hb;(try clear hb);have:=cf3 J))
 (first|(have _:=BG;go_meet;(case rel=>exact⟨_,((A6==0)),fa,H',⟨by first|omega|exact Nat.le_refl _⟩,⟨bw D⟩,⟨bw J⟩,⟨bw Y⟩,⟨bl⟩⟩))|(have _:=B9;go_meet;(case rel=>exact⟨_,(true),fa,H',⟨by first|omega|exact Nat.le_refl _⟩,⟨bw D⟩,⟨bw J⟩,⟨bw Y⟩,⟨bl⟩⟩)))):p:=h
theorem spec_PlanSnap.calls (k:Nat) (U:Int) (X:Int) (AB:Option Addr) (AC:Nat) (A1:List (S130)) (AD:Option Addr) (AE:Nat) (A2:List (S133)) (AF:Option Addr) (AG:Nat) (A3:List (S135)) (A6:Int) (A7:Int) (A9:ByteArray) (Aa:Int) (Ab:Int) (Ac:Int) (Ad:Int) (AH:Option Addr) (AI:Nat) (A5:List (S115)) (r:List (S39)) (w:World) (Bq:Kd.C k130 w AB A1.length A1) (Br:A1.length≤AC) (Bs:Kd.C k133 w AD A2.length A2) (Bt:A2.length≤AE) (Bu:Kd.C k135 w AF A3.length A3) (Bv:A3.length≤AG) (Bw:Kd.C k115 w AH A5.length A5) (Bx:A5.length≤AI) (h:spec_PlanSnap.f k U X A1 A2 A3 A6 A7 A9 Aa Ab Ac Ad A5=some r) :
 Calls Tryz.prog 31 #[.agg #[.int .i64 U,.int .i64 X,.slice AB A1.length AC,.slice AD A2.length AE,.slice AF A3.length AG],.agg #[.int .i64 A6,.int .i64 A7,.string A9],.agg #[.int .i64 Aa,.int .i64 Ab,.int .i64 Ac,.int .i64 Ad,.slice AH A5.length AI]] w fun e w'=>∃BT:Value,e = .returned (BT)∧Kd.R k39 39 w' w.heap.size (fun _=>True) BT r∧Below w.heap.size w w':=by
 have CG:=Tryz.underlying35;have BC:=Tryz.underlying69;have CH:=Tryz.underlying52;have AK:=aK Bq;have AL:=aK Br;clear Bq Br;have AM:=aK Bs;have AN:=aK Bt;clear Bs Bt;have AO:=aK Bu;have AP:=aK Bv;clear Bu Bv;have Bo:=aK Bw;have Bp:=aK Bx;clear Bw Bx;have HB:=aK (Below.refl w.heap.size w);have H:=h;unfold spec_PlanSnap.f at H;clear h;have BJ:=aK H;clear H
 go_enter Tryz.func31,Tryz.ntmps31
 go_upto_region 1 with(first|((with_reducible refine gD 3 rfl ?_);refine boxW ?_;intro Ak hg w5 hbox hb;have D:=aK hbox;have Cs:=gW HB hg;replace HB:=bS HB hb;clear hb hbox hg)|((with_reducible refine gD 4 rfl ?_);refine boxW ?_;intro Aq hg w6 hbox hb;have J:=aK hbox;have Ct:=gW HB hg;replace HB:=bS HB hb;have AS:=nl D hg;have AT:=nr D hg;replace D:=bv D hb;clear hb hbox hg)|((with_reducible refine gD 5 rfl ?_);refine boxW ?_;intro Al hg w7 hbox hb;have Y:=aK hbox;have Cu:=gW HB hg;replace HB:=bS HB hb;have AU:=nl D hg;have AV:=nr D hg;replace D:=bv D hb;have AR:=nl J hg;have AQ:=nr J hg;replace J:=bv J hb;clear hb hbox hg))
 (try simp only[Act.put,List.setIfInBounds_toArray,List.set_cons_zero,List.set_cons_succ])
 go_cut [24] (fun Cv wc=>∃(kq:Nat) (Av:Bool),Cv = .bool Av∧Aside0 (spec_PlanSnap.j0 kq Av U X A1 A2 A3 A6 A7 A9 Aa Ab Ac Ad A5=some r)∧Aside0 (kq≤k)∧Aside0 (wc.heap[Ak]? = some (.cells #[.int .i64 U,.int .i64 X,(.slice AB A1.length AC),(.slice AD A2.length AE),(.slice AF A3.length AG)] 35 (0,0)))∧Aside0 (wc.heap[Aq]? = some (.cells #[.int .i64 A6,.int .i64 A7,.string A9] 69 (0,0)))∧Aside0 (wc.heap[Al]? = some (.cells #[.int .i64 Aa,.int .i64 Ab,.int .i64 Ac,.int .i64 Ad,(.slice AH A5.length AI)] 52 (0,0)))∧Aside0 (Below w.heap.size w wc))
 case first=>
  have H:=BJ.o;clear BJ;obtain⟨Bl,A8,H⟩:=bd H;have Hq_:=aK H;clear H;have Cw:=AS.o;have Cx:=AT.o;have Cy:=AU.o;have Cz:=AV.o;have:=cf5 D;have H:=Hq_.o;clear Hq_;by_cases c9:Bl=true
  ·subst c9;replace H:=iT H;obtain⟨Bm,BF,H⟩:=bd H;by_cases Aj:Bm=true
   ·subst Aj;replace H:=iT H;obtain⟨Bn,BI,H⟩:=bd H;by_cases By:Bn=true
    ·subst By;replace H:=iT H;have H':=aK H;clear H;have BG:=trivial;exact spec_PlanSnap.z1
    ·replace By:=bF By;subst By;replace H:=iF H;have H':=aK H;clear H;have B9:=trivial;exact spec_PlanSnap.z1
   ·replace Aj:=bF Aj;subst Aj;replace H:=iF H;have H':=aK H;clear H;have B9:=trivial;exact spec_PlanSnap.z1
  ·replace c9:=bF c9;subst c9;replace H:=iF H;have H':=aK H;clear H;have B9:=trivial;exact spec_PlanSnap.z1
 case rest=>
  clear BJ;(try clear c1);(try clear c2);(try clear p2);(try clear c3);(try clear c4);(try clear c9);(try clear Aj);(try clear By);(try clear B1);(try clear CL);(try clear CM);(try clear CN);(try clear CO);(try clear CP);(try clear CQ);(try clear CR);(try clear CS);(try clear CT);(try clear CU);(try clear CV);(try clear CW);obtain⟨kq,Av,rfl,HA,CX,D,J,Y,HB⟩:=hcut;cases kq with
  |zero=>exact absurd HA.o (by simp[spec_PlanSnap.j0])
  |succ B_=>
   have H:=HA.o;clear HA;simp only[spec_PlanSnap.j0]at H;by_cases BA:Av=true
   ·subst BA;replace H:=iT H;obtain⟨BU,Ar⟩:∃y_:List (S39),y_=(([]:List (S39))):=⟨_,rfl⟩;replace H:(some BU)=some r:=by first|(rw[Ar];with_reducible exact H)|(have BK:=(Option.bind_some _ _).symm.trans H;rw[Ar];with_reducible exact BK)|(have BK:=(Option.bind_some _ _).symm.trans H;with_reducible exact BK)|with_reducible exact H|(rw[Ar];exact H)|exact H
    have Bz:=aK Ar;clear Ar;obtain rfl:=oj H;go_wp2_with (first|((with_reducible refine gD 25 rfl ?_);refine Kd.R_lit k39 _ 39 ?hg (N:=25) ?hd (xs:=([]:List (S39))) (inner:=[]) (ok:=fun _=>True) (okp:=fun _=>True) ?hr ?hp (fun _ hk=>hk) trivial (Below.refl _ _) (Nat.le_refl _) (by simp) ?_;(case hd=>rfl);(case hg=>rfl);(case hr=>first|(go_simp;done)|(go_simp;rfl));(case hp=>exact(Reps.none _ _));intro BV B5 Ag hb hg_ hnew_;clear hg_ hnew_;(first|rw[←Bz.o]at Ag|(simp only[Int.reduceToNat]at Ag;rw[←Bz.o]at Ag));have Ah:=rl HB Ag;replace D:=bv D hb;replace J:=bv J hb;replace Y:=bv Y hb;replace HB:=bS HB hb;clear hb Ag))
    go_ret
    exact⟨_,fe,rpR Ah.o,bl⟩
   ·replace BA:=bF BA;subst BA;replace H:=iF H;obtain⟨AY,C_,H⟩:=bd H;obtain⟨Ap,CA,H⟩:=bd H;obtain⟨AZ,CB,H⟩:=bd H;obtain⟨An,CC,H⟩:=bd H;by_cases BB:Ap.length+An.length<2513169434916
    ·rw[if_pos BB]at H;have BL:=aK BB;clear BB;obtain⟨CI,AW⟩:=yy (Ap++An);rw[←AW]at H;(try rw[obs]at H)
     have BM:=aK AW;clear AW;obtain rfl:=oj H;(try go_wp2);replace D:=dB D;replace J:=dB J;replace Y:=dB Y;replace HB:=dW HB;refine start_ (n:=10) (S:=fun w'=>w'.cell? ⟨Ak,0,none⟩=some (.int .i64 U)∧w'.cell? ⟨Ak,1,none⟩=some (.int .i64 X)∧w'.cell? ⟨Ak,2,none⟩=some (.slice AB A1.length AC)∧w'.cell? ⟨Ak,3,none⟩=some (.slice AD A2.length AE)∧w'.cell? ⟨Ak,4,none⟩=some (.slice AF A3.length AG)∧w'.cell? ⟨Aq,0,none⟩=some (.int .i64 A6)∧w'.cell? ⟨Aq,1,none⟩=some (.int .i64 A7)∧w'.cell? ⟨Aq,2,none⟩=some (.string A9)∧w'.cell? ⟨Al,0,none⟩=some (.int .i64 Aa)∧w'.cell? ⟨Al,1,none⟩=some (.int .i64 Ab)∧w'.cell? ⟨Al,2,none⟩=some (.int .i64 Ac)∧w'.cell? ⟨Al,3,none⟩=some (.int .i64 Ad)∧w'.cell? ⟨Al,4,none⟩=some (.slice AH A5.length AI)) (ds:=[]) (bo 10 0) (by kernel_rfl) rfl rfl hh (fun hHeld=>?_);refine with_tabW spec_PlanSnap.tab3 spec_PlanSnap.bits3 (fun HT_ HW_=>?_);generalize wc.drew=B5 at D J Y HB hHeld ⊢;refine tV 0 26 (bo 10 1) ?_;refine tV 1 27 (bo 10 3) ?_;refine tV 4 30 (bo 10 19) ?_;refine tV 5 31 (bo 10 51) ?_
     refine o1 2 28 (bo 10 55) (fun K hK=>?_);refine goesV Tryz.func83 ?_;(with_reducible refine(spec_ShowSnap.calls B_ A6 A7 A9 AY _ C_.o).mono ?_);rintro e BR ⟨rfl,hb⟩;refine⟨_,rfl,?_⟩;replace D:=bv D hb;replace J:=bv J hb;replace Y:=bv Y hb;replace HB:=bS HB hb;(try clear hb Aw hk hi);refine hK.out _ _ hh (fun hHeld=>?_);clear hK K;refine nm 28 ?_;refine o1 3 29 (bo 10 63) (fun K hK=>?_);refine goesV Tryz.func72 ?_;(with_reducible refine(spec_l6Anew.calls B_ U X _ _ A1 _ _ A2 _ _ A3 (⟨#[115,110,97,112]⟩:ByteArray) AY Ap _ ?_ ?_ ?_ ?_ ?_ ?_ CA.o).mono ?_);exact cB AK HB;exact AL.o;exact cB AM HB;exact AN.o;exact cB AO HB;exact AP.o;rintro e BS ⟨BV,rfl,Ag,hb⟩;refine⟨_,rfl,?_⟩;have Ah:=rl HB Ag;replace D:=bv D hb;replace J:=bv J hb;replace Y:=bv Y hb;replace HB:=bS HB hb;(try clear hb Aw hk hi Ag)
     refine hK.out _ _ hh (fun hHeld=>?_);clear hK K;refine nm 29 ?_;refine o1 6 32 (bo 10 127) (fun K hK=>?_);refine goesV Tryz.func73 ?_;(with_reducible refine(spec_WalText.calls B_ Aa Ab Ac Ad _ _ A5 AZ _ ?_ ?_ CB.o).mono ?_);exact cB Bo HB;exact Bp.o;rintro e Cn ⟨rfl,hb⟩;refine⟨_,rfl,?_⟩;replace Ah:=rb Ah hb;replace D:=bv D hb;replace J:=bv J hb;replace Y:=bv Y hb;replace HB:=bS HB hb;(try clear hb Aw hk hi);refine hK.out _ _ hh (fun hHeld=>?_);clear hK K;refine nm 32 ?_;refine o1 7 33 (bo 10 255) (fun K hK=>?_);refine goesV Tryz.func72 ?_;(with_reducible refine(spec_l6Anew.calls B_ U X _ _ A1 _ _ A2 _ _ A3 (⟨#[108,111,103]⟩:ByteArray) AZ An _ ?_ ?_ ?_ ?_ ?_ ?_ CC.o).mono ?_);exact cB AK HB
     exact AL.o;exact cB AM HB;exact AN.o;exact cB AO HB;exact AP.o;rintro e Co ⟨CY,rfl,Ag,hb⟩;refine⟨_,rfl,?_⟩;have AJ:=rl HB (Kd.R_new' Ag (Kd.R_lt (rpR Ah.o)));replace Ah:=re Ah.o Ag hb;replace D:=bv D hb;replace J:=bv J hb;replace Y:=bv Y hb;replace HB:=bS HB hb;(try clear hb Aw hk hi Ag);obtain⟨BW,BX,BD⟩:=rs AJ;(first|subst BD|(injection BD with BY CD BZ;have CE:=BY.symm;have CF:=BZ.symm;clear BY CD BZ;subst CE;subst CF));refine hK.out _ _ hh (fun hHeld=>?_);clear hK K;refine nm 33 ?_;refine o1 8 34 (bo 10 511) (fun K hK=>?_);refine Kd.R_append_rows_step k39 (w0:=w) w.heap.size (by rfl) (.tmp 29) (.tmp 33) 48 39 (.agg #[(.int .i64 0),(.string ⟨#[]⟩),(.string ⟨#[]⟩),(.string ⟨#[]⟩)]) 56 rfl Tryz.underlying48 info39 rfl (by decide) (by omega) BV Ap An _ _ _ (fun k_=>some k_≠(.slice BW An.length BX:Value).ownBlock) (fun _=>False) rfl rfl ?aO ?aR (fun _ _ h=>h) (fun _ h=>h.elim) ?aF ?aB ?aS ?aL ?_;(case aR=>exact ca (cR AJ.o));(case aB=>exact bl);(case aF=>exact(fun k_ hk=>Kd.fresh' (Kd.R_lt (rpR AJ.o)) k_ hk));(case aO=>exact(rpR (rM Ah.o (fun _ hk=>hk.2))));(case aS=>exact(below_size bl));(case aL=>have:=BL.o;omega)
     intro CZ D0 ho hb hg hat;rw[←BM.o]at ho;replace D:=aK (blk_grown (g:=Ak) (o:=.cells #[.int .i64 U,.int .i64 X,.slice AB A1.length AC,.slice AD A2.length AE,.slice AF A3.length AG] 35 (0,0)) bk hg (Kd.R_ne Ah.o D.o (by decide)));replace J:=aK (blk_grown (g:=Aq) (o:=.cells #[.int .i64 A6,.int .i64 A7,.string A9] 69 (0,0)) bk hg (Kd.R_ne Ah.o J.o (by decide)));replace Y:=aK (blk_grown (g:=Al) (o:=.cells #[.int .i64 Aa,.int .i64 Ab,.int .i64 Ac,.int .i64 Ad,.slice AH A5.length AI] 52 (0,0)) bk hg (Kd.R_ne Ah.o Y.o (by decide)));replace AJ:=aK (Kd.R_after (ok:=(fun _=>True)) (rpR AJ.o) hg hat);replace HB:=aK (hb);have C0:=aK (ho);clear Ah;clear ho hb hg hat;refine hK.out _ _ hh (fun hHeld=>?_);clear hK K;refine nm 34 ?_;refine pV 9 6 (bo 10 1023) ?_;refine done_ (done_of HT_.o (by kernel_rfl)) ?_;(try go_wp2)
     go_ret
     exact⟨_,fe,rpR (rM C0.o (fun _ hk=>trivial)),bl⟩
    ·rw[if_neg BB]at H;exact absurd H (by simp)
def laws_toSnap.f (U:Int) (X:Int) (Y:ByteArray):Option (Int×Int×ByteArray):=some (U,X,Y)
theorem laws_toSnap.calls (U:Int) (X:Int) (Y:ByteArray) (r1:Int) (r2:Int) (r3:ByteArray) (w:World) (h:laws_toSnap.f U X Y=some (r1,r2,r3)) :
 Calls Tryz.prog 32 #[.agg #[.int .i64 U,.int .i64 X,.string Y]] w fun e w'=>e = .returned (.agg #[.int .i64 r1,.int .i64 r2,.string r3])∧Below w.heap.size w w':=by
 have Ac:=Tryz.underlying66;have Ad:=Tryz.underlying69;have HB:=aK (Below.refl w.heap.size w);have H:=h;unfold laws_toSnap.f at H;clear h;simp only[Option.some.injEq,Prod.mk.injEq]at H;obtain⟨rfl,rfl,rfl⟩:=H
 go_enter Tryz.func32,Tryz.ntmps32
 go_wp2_with (first|((with_reducible refine gD 1 rfl ?_);refine boxW ?_;intro A7 hg w2 hbox hb;have D:=aK hbox;have A8:=gW HB hg;replace HB:=bS HB hb;clear hb hbox hg)|((with_reducible refine gD 2 rfl ?_);refine boxW ?_;intro A5 hg w3 hbox hb;have J:=aK hbox;have A9:=gW HB hg;replace HB:=bS HB hb;have Z:=nl D hg;have A0:=nr D hg;replace D:=bv D hb;clear hb hbox hg)|((with_reducible refine gD 3 rfl ?_);refine boxW ?_;intro Aa hg w4 hbox hb;have A6:=aK hbox;have Ab:=gW HB hg;replace HB:=bS HB hb;have A1:=nl D hg;have A2:=nr D hg;replace D:=bv D hb;have A3:=nl J hg;have A4:=nr J hg;replace J:=bv J hb;clear hb hbox hg;have Ae:=Z.o;have Af:=A0.o;have Ag:=A1.o;have Ah:=A2.o;have:=cf3 D;have Ai:=A4.o;have Aj:=A3.o;have:=cf3 A6;have:=cf3 J))
 refine bodyPost_ret (results_cell_row rfl _ _ A5 69 #[.int .i64 U,.int .i64 X,.string Y] (0,0) _ rfl bkk Tryz.underlying69 rfl (by kernel_rfl)) rfl ?_;exact⟨fe,bl⟩
def impl_SnapOk.f (D:Int) (J:Int) (A0:ByteArray):Option (Bool):=if(D==0&&(J==0&&(A0.toList==([]:List UInt8))))=true then(some true)else((impl_from.f D 1 100000).bind fun B2=>(if B2=true then((impl_isTerm.f J).bind fun B4=>(if B4=true then(some (decide ((A0.size:Int)≤30000)))else(some false)))else(some false)))
theorem impl_SnapOk.z1 {p:Prop} (h:p:=by
 go_enter Tryz.func84,Tryz.ntmps84
 go_wp2_with (first|((with_reducible refine gD 1 rfl ?_);(try (refine gate_guard rfl ?_;dsimp only));refine boxW ?_;intro BS hg By hbox hb;have BC:=aK hbox;have BT:=gW HB hg;replace HB:=bS HB hb;clear hb hbox hg;have:=cf3 BC)|(go_at_call 119;(with_reducible refine(impl_from.calls _ 1 100000 _ _ A5.o).mono ?_);rintro e w' ⟨rfl,⟨nd,rfl⟩⟩)|(go_at_call 143;(with_reducible refine(impl_isTerm.calls _ _ _ A7.o).mono ?_);rintro e w' ⟨rfl,⟨nd,rfl⟩⟩))
 go_ret
 exact⟨fe,bl⟩):p:=h
theorem impl_SnapOk.calls (D:Int) (J:Int) (A0:ByteArray) (r:Bool) (w:World) (h:impl_SnapOk.f D J A0=some r) :
 Calls Tryz.prog 84 #[.agg #[.int .i64 D,.int .i64 J,.string A0]] w fun e w'=>e = .returned (.bool r)∧Below w.heap.size w w':=by
 have BA:=Tryz.underlying69;have HB:=aK (Below.refl w.heap.size w);have H:=h;unfold impl_SnapOk.f at H;clear h;by_cases c2:(D==0&&(J==0&&(A0.toList==([]:List UInt8))))=true
 ·rw[if_pos c2]at H;obtain rfl:=oj H;obtain⟨rfl,rfl,q3⟩:D=0∧J=0∧A0.toList = []:=by simpa using c2
  exact impl_SnapOk.z1
 ·rw[if_neg c2]at H;have q:(D=0∧J=0∧¬A0.toList = [])∨(D=0∧¬J=0)∨¬D=0:=by
   by_cases a:D=0
   ·by_cases b:J=0
    ·exact .inl ⟨a,b,fun c=>c2 (by simp[a,b,c])⟩
    ·exact .inr (.inl ⟨a,b⟩)
   ·exact .inr (.inr a)
  rcases q with⟨rfl,rfl,q3⟩|⟨rfl,q2⟩|q1
  all_goals
   obtain⟨B2,A5,H⟩:=bd H;by_cases c6:B2=true
   ·subst c6;replace H:=iT H;obtain⟨B4,A7,H⟩:=bd H;by_cases c8:B4=true
    ·subst c8;replace H:=iT H;obtain rfl:=oj H
     exact impl_SnapOk.z1
    ·replace c8:=bF c8;subst c8;replace H:=iF H;obtain rfl:=oj H
     exact impl_SnapOk.z1
   ·replace c6:=bF c6;subst c6;replace H:=iF H;obtain rfl:=oj H
    exact impl_SnapOk.z1
def impl_ShowSnap.j0:Nat→Bool→Int→Int→ByteArray→Option (ByteArray)
 | 0,_,_,_,_=>none
 |k+1,BU,B5,B6,Al=>if BU=true then(some (⟨#[]⟩:ByteArray))else((impl_Fixed.f k B5 4).bind fun Ag=>((impl_Fixed.f k B6 4).bind fun Ah=>(if Ag.size+Ah.size≤9223372036854775807 then((impl_Fixed.f k (Al.size:Int) 4).bind fun Ai=>(if(Ag.size+Ah.size)+Ai.size≤9223372036854775807 then((impl_Crc.f k Al).bind fun AY=>((impl_Fixed.f k AY 4).bind fun Ao=>(if((Ag.size+Ah.size)+Ai.size)+Ao.size≤9223372036854775807 then((impl_Frame.f k (((Ag++Ah)++Ai)++Ao)).bind fun As=>(if As.size+Al.size≤9223372036854775807 then(some (As++Al))else(none)))else(none))))else(none)))else(none))))
def impl_ShowSnap.f (k:Nat) (D:Int) (J:Int) (A0:ByteArray):Option (ByteArray):=(impl_SnapOk.f D J A0).bind fun B7=>(if B7=true then(impl_ShowSnap.j0 k (D==0&&(J==0&&(A0.toList==([]:List UInt8)))) D J A0)else(impl_ShowSnap.j0 k true D J A0))
def impl_ShowSnap.T3:Bool×List (List Nat×List Nat):=(true,[([],[]),([0],[0]),([1],[1]),([],[]),([3],[3]),([4,2],[4]),([2,5],[2,5]),([],[]),([7],[7]),([8],[8]),([9,5],[9]),([6,10],[6,10]),([],[]),([12],[12]),([13,10],[13]),([14,14],[14]),([11,15],[11,15]),([16,15],[16]),([],[]),([18],[18]),([17,19],[17,19]),([20,17,0,1,2,3,4,5,6,7,8,9,10,11,12,13,14,15,16,17,18,19,20],[20])])
def impl_ShowSnap.B3:List Nat:=[0,1,3,0,8,31,63,0,128,384,959,2047,0,4096,14271,30655,65535,131071,0,262144,1048575,2097151]
theorem impl_ShowSnap.tab3:rtab .any (opsOf Tryz.f85 3)=impl_ShowSnap.T3:=by kernel_rfl
theorem impl_ShowSnap.bits3:waitsOk impl_ShowSnap.T3.2 impl_ShowSnap.B3=true:=by kernel_rfl
theorem impl_ShowSnap.z1 {p:Prop} (h:p:=by
 go_wp2_with (first|((with_reducible refine gC 84 rfl ?_);refine goesW Tryz.func84 ?_;(with_reducible refine(impl_SnapOk.calls _ _ _ _ _ A4.o).mono ?_);rintro e By ⟨rfl,hb⟩;refine⟨_,rfl,?_⟩;replace Y:=bv Y hb;replace HB:=bS HB hb;(try clear hb);have:=cf3 Y))
 (first|(have _:=BD;go_meet;(case rel=>exact⟨_,_,fa,H',⟨by first|omega|exact Nat.le_refl _⟩,⟨bw Y⟩,⟨bl⟩⟩))|(have _:=B8;go_meet;(case rel=>exact⟨_,(true),fa,H',⟨by first|omega|exact Nat.le_refl _⟩,⟨bw Y⟩,⟨bl⟩⟩)))):p:=h
theorem impl_ShowSnap.calls (k:Nat) (D:Int) (J:Int) (A0:ByteArray) (r:ByteArray) (w:World) (h:impl_ShowSnap.f k D J A0=some r) :
 Calls Tryz.prog 85 #[.agg #[.int .i64 D,.int .i64 J,.string A0]] w fun e w'=>e = .returned (.string r)∧Below w.heap.size w w':=by
 have BA:=Tryz.underlying69;have HB:=aK (Below.refl w.heap.size w);have H:=h;unfold impl_ShowSnap.f at H;clear h;have BE:=aK H;clear H
 go_enter Tryz.func85,Tryz.ntmps85
 go_upto_region 1 with(first|((with_reducible refine gD 1 rfl ?_);refine boxW ?_;intro Au hg w3 hbox hb;have Y:=aK hbox;have BV:=gW HB hg;replace HB:=bS HB hb;clear hb hbox hg))
 (try simp only[Act.put,List.setIfInBounds_toArray,List.set_cons_zero,List.set_cons_succ])
 go_cut [10] (fun BW wc=>∃(kq:Nat) (Av:Bool),BW = .bool Av∧Aside0 (impl_ShowSnap.j0 kq Av D J A0=some r)∧Aside0 (kq≤k)∧Aside0 (wc.heap[Au]? = some (.cells #[.int .i64 D,.int .i64 J,.string A0] 69 (0,0)))∧Aside0 (Below w.heap.size w wc))
 case first=>
  have H:=BE.o;clear BE;obtain⟨B7,A4,H⟩:=bd H;by_cases c5:B7=true
  ·subst c5;replace H:=iT H;have H':=aK H;clear H;have:=cf3 Y;rcases qE D J A0 with⟨rfl,rfl,q3⟩|⟨rfl,rfl,q3⟩|⟨rfl,q2⟩|q1
   all_goals (have BD:=trivial;exact impl_ShowSnap.z1)
  ·replace c5:=bF c5;subst c5;replace H:=iF H;have H':=aK H;clear H;have:=cf3 Y;have B8:=trivial;exact impl_ShowSnap.z1
 case rest=>
  clear BE;(try clear p2);(try clear c5);(try clear c8);obtain⟨kq,Av,rfl,HA,CB,Y,HB⟩:=hcut;cases kq with
  |zero=>exact absurd HA.o (by simp[impl_ShowSnap.j0])
  |succ B0=>
   have H:=HA.o;clear HA;simp only[impl_ShowSnap.j0]at H;by_cases Ar:Av=true
   ·subst Ar;replace H:=iT H;obtain rfl:=oj H;go_wp2
    go_ret
    exact⟨fe,bl⟩
   ·replace Ar:=bF Ar;subst Ar;replace H:=iF H;obtain⟨Ag,BF,H⟩:=bd H;obtain⟨Ah,BX,H⟩:=bd H;by_cases B1:Ag.size+Ah.size≤9223372036854775807
    ·rw[if_pos B1]at H;have BY:=eq_true B1;have BZ:=dt B1;(try have C0:(9223372036854775807<Ag.size+Ah.size)=False:=eq_false (Nat.not_lt.2 B1));obtain⟨Ai,C1,H⟩:=bd H;by_cases B9:(Ag.size+Ah.size)+Ai.size≤9223372036854775807
     ·rw[if_pos B9]at H;have C2:=eq_true B9;have C3:=dt B9;(try have C4:(9223372036854775807<(Ag.size+Ah.size)+Ai.size)=False:=eq_false (Nat.not_lt.2 B9));obtain⟨AY,C5,H⟩:=bd H;obtain⟨Ao,C6,H⟩:=bd H;by_cases Ba:((Ag.size+Ah.size)+Ai.size)+Ao.size≤9223372036854775807
      ·rw[if_pos Ba]at H;have C7:=eq_true Ba;have C8:=dt Ba;(try have C9:(9223372036854775807<((Ag.size+Ah.size)+Ai.size)+Ao.size)=False:=eq_false (Nat.not_lt.2 Ba));obtain⟨As,Ca,H⟩:=bd H;by_cases Bb:As.size+A0.size≤9223372036854775807
       ·rw[if_pos Bb]at H;have Cb:=eq_true Bb;have Cc:=dt Bb;(try have Cd:(9223372036854775807<As.size+A0.size)=False:=eq_false (Nat.not_lt.2 Bb));obtain rfl:=oj H;(try go_wp2);replace Y:=dB Y;replace HB:=dW HB;refine start_ (n:=22) (S:=fun w'=>w'.cell? ⟨Au,0,none⟩=some (.int .i64 D)∧w'.cell? ⟨Au,1,none⟩=some (.int .i64 J)∧w'.cell? ⟨Au,2,none⟩=some (.string A0)) (ds:=[]) (bo 22 0) (by kernel_rfl) rfl rfl hh (fun hHeld=>?_);refine with_tabW impl_ShowSnap.tab3 impl_ShowSnap.bits3 (fun HT_ HW_=>?_);generalize wc.drew=By at Y HB hHeld ⊢;refine pV 0 11 (bo 22 1) ?_;refine pV 3 14 (bo 22 9) ?_;refine pV 7 18 (bo 22 137) ?_;refine pV 12 23 (bo 22 4233) ?_;refine pV 18 29 (bo 22 266377) ?_;refine tV 1 12 (bo 22 266379) ?_;refine tV 4 15 (bo 22 266395) ?_;refine tV 8 19 (bo 22 266651) ?_;refine pV 9 20 (bo 22 267163) ?_;refine tV 13 24 (bo 22 275355) ?_;refine tV 19 30 (bo 22 799643) ?_;refine o1 2 13 (bo 22 799647) (fun K hK=>?_);refine goesV Tryz.func145 ?_;(with_reducible refine(impl_Fixed.calls B0 D 4 Ag _ BF.o).mono ?_);rintro e BK ⟨rfl,hb⟩;refine⟨_,rfl,?_⟩;replace Y:=bv Y hb;replace HB:=bS HB hb;(try clear hb AK hk hi)
        refine hK.out _ _ hh (fun hHeld=>?_);clear hK K;refine nm 13 ?_;refine o1 5 16 (bo 22 799679) (fun K hK=>?_);refine goesV Tryz.func145 ?_;(with_reducible refine(impl_Fixed.calls B0 J 4 Ah _ BX.o).mono ?_);rintro e BL ⟨rfl,hb⟩;refine⟨_,rfl,?_⟩;replace Y:=bv Y hb;replace HB:=bS HB hb;(try clear hb AK hk hi);refine hK.out _ _ hh (fun hHeld=>?_);clear hK K;refine nm 16 ?_;refine pV 6 17 (bo 22 799743) ?_;refine o1 10 21 (bo 22 800767) (fun K hK=>?_);refine goesV Tryz.func145 ?_;(with_reducible refine(impl_Fixed.calls B0 (A0.size:Int) 4 Ai _ C1.o).mono ?_);rintro e Ce ⟨rfl,hb⟩;refine⟨_,rfl,?_⟩;replace Y:=bv Y hb;replace HB:=bS HB hb;(try clear hb AK hk hi);refine hK.out _ _ hh (fun hHeld=>?_);clear hK K;refine nm 21 ?_;refine pV 11 22 (bo 22 802815) ?_;refine o1 14 25 (bo 22 819199) (fun K hK=>?_);refine goesV Tryz.func146 ?_;(with_reducible refine(impl_Crc.calls B0 A0 AY _ C5.o).mono ?_);rintro e w' ⟨rfl,⟨nd,rfl⟩⟩;refine⟨_,rfl,?_⟩;refine hK.out _ _ hh (fun hHeld=>?_);clear hK K;refine nm 25 ?_
        refine o1 15 26 (bo 22 851967) (fun K hK=>?_);refine goesV Tryz.func145 ?_;(with_reducible refine(impl_Fixed.calls B0 AY 4 Ao _ C6.o).mono ?_);rintro e CC ⟨rfl,hb⟩;refine⟨_,rfl,?_⟩;replace Y:=bv Y hb;replace HB:=bS HB hb;(try clear hb AK hk hi);refine hK.out _ _ hh (fun hHeld=>?_);clear hK K;refine nm 26 ?_;refine pV 16 27 (bo 22 917503) ?_;refine o1 17 28 (bo 22 1048575) (fun K hK=>?_);refine goesV Tryz.func144 ?_;(with_reducible refine(impl_Frame.calls B0 (((Ag++Ah)++Ai)++Ao) As _ Ca.o).mono ?_);rintro e Cf ⟨rfl,hb⟩;refine⟨_,rfl,?_⟩;replace Y:=bv Y hb;replace HB:=bS HB hb;(try clear hb AK hk hi);refine hK.out _ _ hh (fun hHeld=>?_);clear hK K;refine nm 28 ?_;refine pV 20 31 (bo 22 2097151) ?_;refine pV 21 2 (bo 22 4194303) ?_;refine done_ (done_of HT_.o (by kernel_rfl)) ?_;(try go_wp2)
        go_ret
        exact⟨fe,bl⟩
       ·rw[if_neg Bb]at H;exact absurd H (by simp)
      ·rw[if_neg Ba]at H;exact absurd H (by simp)
     ·rw[if_neg B9]at H;exact absurd H (by simp)
    ·rw[if_neg B1]at H;exact absurd H (by simp)
def impl_PlanSnap.j0:Nat→Bool→Int→Int→List (S130)→List (S133)→List (S135)→Int→Int→ByteArray→Int→Int→Int→Int→List (S115)→Option ((List (S39)))
 | 0,_,_,_,_,_,_,_,_,_,_,_,_,_,_=>none
 |k+1,Cg,Ax,Ay,Az,A_,AA,Bc,Bd,Be,Bf,Bg,Bh,Bi,Bj=>if Cg=true then(some ([]:List (S39)))else((impl_ShowSnap.f k Bc Bd Be).bind fun AZ=>((impl_renewed.f k Ax Ay Az A_ AA (⟨#[115,110,97,112,46,110,101,119]⟩:ByteArray) (⟨#[115,110,97,112]⟩:ByteArray) AZ).bind fun Ap=>((impl_PlanLog.f k Ax Ay Az A_ AA Bf Bg Bh Bi Bj).bind fun Am=>(if Ap.length+Am.length<2513169434916 then(some (Ap++Am))else(none)))))
def impl_PlanSnap.f (k:Nat) (D:Int) (J:Int) (A1:List (S130)) (A2:List (S133)) (A3:List (S135)) (A9:Int) (Aa:Int) (Ab:ByteArray) (Ac:Int) (Ad:Int) (Ae:Int) (Af:Int) (A6:List (S115)):Option ((List (S39))):=(impl_DiskOk.f k D J A1 A2 A3).bind fun Bk=>(if Bk=true then((impl_WalOk.f k Ac Ad Ae Af A6).bind fun Bl=>(if Bl=true then((impl_SnapOk.f A9 Aa Ab).bind fun Bm=>(if Bm=true then(impl_PlanSnap.j0 k (A9==0&&(Aa==0&&(Ab.toList==([]:List UInt8)))) D J A1 A2 A3 A9 Aa Ab Ac Ad Ae Af A6)else(impl_PlanSnap.j0 k true D J A1 A2 A3 A9 Aa Ab Ac Ad Ae Af A6)))else(impl_PlanSnap.j0 k true D J A1 A2 A3 A9 Aa Ab Ac Ad Ae Af A6)))else(impl_PlanSnap.j0 k true D J A1 A2 A3 A9 Aa Ab Ac Ad Ae Af A6))
def impl_PlanSnap.T3:Bool×List (List Nat×List Nat):=(true,[([],[]),([],[]),([1],[1]),([0,2,2],[0,2]),([],[]),([],[]),([4,5,3],[4,5]),([3,6,6],[3,6]),([7,7,0,1,2,3,4,5,6,7],[7])])
def impl_PlanSnap.B3:List Nat:=[0,0,2,7,0,0,63,127,255]
theorem impl_PlanSnap.tab3:rtab .any (opsOf Tryz.f33 3)=impl_PlanSnap.T3:=by kernel_rfl
theorem impl_PlanSnap.bits3:waitsOk impl_PlanSnap.T3.2 impl_PlanSnap.B3=true:=by kernel_rfl
theorem impl_PlanSnap.z1 {p:Prop} (h:p:=by
 go_wp2_with (first|((with_reducible refine gC 59 rfl ?_);refine goesW Tryz.func59 ?_;(with_reducible refine(impl_DiskOk.calls k D J _ _ A1 (fun k_=>k_<w.heap.size) _ _ A2 _ _ A3 _ _ ?_ ?_ ?_ ?_ ?_ A8.o).mono ?_);exact cB AL HB;exact AM.o;exact Kd.V_mk AN.o (Kd.F_below (Kd.C_F k133_heap AO.o) bl);exact cB AP HB;exact AQ.o;rintro e By ⟨rfl,hb⟩;refine⟨_,rfl,?_⟩;replace U:=bv U hb;replace X:=bv X hb;replace Z:=bv Z hb;replace HB:=bS HB hb;(try clear hb);have Ch:=AR.o;have Ci:=AS.o;have:=cf5 Z)|(go_at_call 75;(with_reducible refine(impl_WalOk.calls k Ac Ad Ae Af _ _ A6 _ _ ?_ ?_ Cj.o).mono ?_);exact cB Bn HB;exact Bo.o;rintro e BK ⟨rfl,hb⟩;replace U:=bv U hb;replace X:=bv X hb;replace Z:=bv Z hb;replace HB:=bS HB hb;(try clear hb);have:=cf3 X)|(go_at_call 84;(with_reducible refine(impl_SnapOk.calls _ _ _ _ _ BF.o).mono ?_);rintro e BL ⟨rfl,hb⟩;replace U:=bv U hb;replace X:=bv X hb;replace Z:=bv Z hb;replace HB:=bS HB hb;(try clear hb);have:=cf3 X))
 (first|(have _:=BD;go_meet;(case rel=>exact⟨_,_,fa,H',⟨by first|omega|exact Nat.le_refl _⟩,⟨bw U⟩,⟨bw X⟩,⟨bw Z⟩,⟨bl⟩⟩))|(have _:=B8;go_meet;(case rel=>exact⟨_,(true),fa,H',⟨by first|omega|exact Nat.le_refl _⟩,⟨bw U⟩,⟨bw X⟩,⟨bw Z⟩,⟨bl⟩⟩)))):p:=h
theorem impl_PlanSnap.calls (k:Nat) (D:Int) (J:Int) (AB:Option Addr) (AC:Nat) (A1:List (S130)) (AD:Option Addr) (AE:Nat) (A2:List (S133)) (AF:Option Addr) (AG:Nat) (A3:List (S135)) (A9:Int) (Aa:Int) (Ab:ByteArray) (Ac:Int) (Ad:Int) (Ae:Int) (Af:Int) (AH:Option Addr) (AI:Nat) (A6:List (S115)) (r:List (S39)) (w:World) (Bp:Kd.C k130 w AB A1.length A1) (Bq:A1.length≤AC) (Br:Kd.C k133 w AD A2.length A2) (Bs:A2.length≤AE) (Bt:Kd.C k135 w AF A3.length A3) (Bu:A3.length≤AG) (Bv:Kd.C k115 w AH A6.length A6) (Bw:A6.length≤AI) (h:impl_PlanSnap.f k D J A1 A2 A3 A9 Aa Ab Ac Ad Ae Af A6=some r) :
 Calls Tryz.prog 33 #[.agg #[.int .i64 D,.int .i64 J,.slice AB A1.length AC,.slice AD A2.length AE,.slice AF A3.length AG],.agg #[.int .i64 A9,.int .i64 Aa,.string Ab],.agg #[.int .i64 Ac,.int .i64 Ad,.int .i64 Ae,.int .i64 Af,.slice AH A6.length AI]] w fun e w'=>∃BM:Value,e = .returned (BM)∧Kd.R k39 39 w' w.heap.size (fun _=>True) BM r∧Below w.heap.size w w':=by
 have Cz:=Tryz.underlying35;have BA:=Tryz.underlying69;have C_:=Tryz.underlying52;have AL:=aK Bp;have AM:=aK Bq;clear Bp Bq;have AO:=aK Br;have AN:=aK Bs;clear Br Bs;have AP:=aK Bt;have AQ:=aK Bu;clear Bt Bu;have Bn:=aK Bv;have Bo:=aK Bw;clear Bv Bw;have HB:=aK (Below.refl w.heap.size w);have H:=h;unfold impl_PlanSnap.f at H;clear h;have BG:=aK H;clear H
 go_enter Tryz.func33,Tryz.ntmps33
 go_upto_region 1 with(first|((with_reducible refine gD 3 rfl ?_);refine boxW ?_;intro Aj hg w5 hbox hb;have U:=aK hbox;have Ck:=gW HB hg;replace HB:=bS HB hb;clear hb hbox hg)|((with_reducible refine gD 4 rfl ?_);refine boxW ?_;intro Aq hg w6 hbox hb;have X:=aK hbox;have Cl:=gW HB hg;replace HB:=bS HB hb;have AT:=nl U hg;have AU:=nr U hg;replace U:=bv U hb;clear hb hbox hg)|((with_reducible refine gD 5 rfl ?_);refine boxW ?_;intro Ak hg w7 hbox hb;have Z:=aK hbox;have Cm:=gW HB hg;replace HB:=bS HB hb;have AV:=nl U hg;have AW:=nr U hg;replace U:=bv U hb;have AS:=nl X hg;have AR:=nr X hg;replace X:=bv X hb;clear hb hbox hg))
 (try simp only[Act.put,List.setIfInBounds_toArray,List.set_cons_zero,List.set_cons_succ])
 go_cut [24] (fun Cn wc=>∃(kq:Nat) (Aw:Bool),Cn = .bool Aw∧Aside0 (impl_PlanSnap.j0 kq Aw D J A1 A2 A3 A9 Aa Ab Ac Ad Ae Af A6=some r)∧Aside0 (kq≤k)∧Aside0 (wc.heap[Aj]? = some (.cells #[.int .i64 D,.int .i64 J,(.slice AB A1.length AC),(.slice AD A2.length AE),(.slice AF A3.length AG)] 35 (0,0)))∧Aside0 (wc.heap[Aq]? = some (.cells #[.int .i64 A9,.int .i64 Aa,.string Ab] 69 (0,0)))∧Aside0 (wc.heap[Ak]? = some (.cells #[.int .i64 Ac,.int .i64 Ad,.int .i64 Ae,.int .i64 Af,(.slice AH A6.length AI)] 52 (0,0)))∧Aside0 (Below w.heap.size w wc))
 case first=>
  have H:=BG.o;clear BG;obtain⟨Bk,A8,H⟩:=bd H;have Hq_:=aK H;clear H;have Co:=AT.o;have Cp:=AU.o;have Cq:=AV.o;have Cr:=AW.o;have:=cf5 U;have H:=Hq_.o;clear Hq_;by_cases c9:Bk=true
  ·subst c9;replace H:=iT H;obtain⟨Bl,Cj,H⟩:=bd H;by_cases Ar:Bl=true
   ·subst Ar;replace H:=iT H;obtain⟨Bm,BF,H⟩:=bd H;by_cases Bx:Bm=true
    ·subst Bx;replace H:=iT H;have H':=aK H;clear H;rcases qE A9 Aa Ab with⟨rfl,rfl,q3⟩|⟨rfl,rfl,q3⟩|⟨rfl,q2⟩|q1
     all_goals (have BD:=trivial;exact impl_PlanSnap.z1)
    ·replace Bx:=bF Bx;subst Bx;replace H:=iF H;have H':=aK H;clear H;have B8:=trivial;exact impl_PlanSnap.z1
   ·replace Ar:=bF Ar;subst Ar;replace H:=iF H;have H':=aK H;clear H;have B8:=trivial;exact impl_PlanSnap.z1
  ·replace c9:=bF c9;subst c9;replace H:=iF H;have H':=aK H;clear H;have B8:=trivial;exact impl_PlanSnap.z1
 case rest=>
  clear BG;(try clear c1);(try clear c2);(try clear p2);(try clear c3);(try clear c4);(try clear c5);(try clear c9);(try clear Ar);(try clear Bx);(try clear B1);(try clear CD);(try clear CE);(try clear CF);(try clear CG);(try clear CH);(try clear CI);(try clear CJ);(try clear CK);(try clear CL);(try clear CM);obtain⟨kq,Aw,rfl,HA,CN,U,X,Z,HB⟩:=hcut;cases kq with
  |zero=>exact absurd HA.o (by simp[impl_PlanSnap.j0])
  |succ BH=>
   have H:=HA.o;clear HA;simp only[impl_PlanSnap.j0]at H;by_cases Bz:Aw=true
   ·subst Bz;replace H:=iT H;obtain rfl:=oj H;go_wp2
    go_ret
    exact⟨_,fe,by first|exact Kd.R_nil _ _ _ _ _|exact Kd.N_nil _ _ _ _ _|exact Kd.V_nil _ _ _ _ _|exact Kd.Q_nil _ _ _ _ _|exact Kd.S_nil _ _ _ _ _,bl⟩
   ·replace Bz:=bF Bz;subst Bz;replace H:=iF H;obtain⟨AZ,Cs,H⟩:=bd H;obtain⟨Ap,Ct,H⟩:=bd H;obtain⟨Am,Cu,H⟩:=bd H;by_cases B_:Ap.length+Am.length<2513169434916
    ·rw[if_pos B_]at H;have BI:=aK B_;clear B_;obtain⟨CA,AX⟩:=yy (Ap++Am);rw[←AX]at H;(try rw[obs]at H)
     have BJ:=aK AX;clear AX;obtain rfl:=oj H;(try go_wp2);replace U:=dB U;replace X:=dB X;replace Z:=dB Z;replace HB:=dW HB;refine start_ (n:=9) (S:=fun w'=>w'.cell? ⟨Aj,0,none⟩=some (.int .i64 D)∧w'.cell? ⟨Aj,1,none⟩=some (.int .i64 J)∧w'.cell? ⟨Aj,2,none⟩=some (.slice AB A1.length AC)∧w'.cell? ⟨Aj,3,none⟩=some (.slice AD A2.length AE)∧w'.cell? ⟨Aj,4,none⟩=some (.slice AF A3.length AG)∧w'.cell? ⟨Aq,0,none⟩=some (.int .i64 A9)∧w'.cell? ⟨Aq,1,none⟩=some (.int .i64 Aa)∧w'.cell? ⟨Aq,2,none⟩=some (.string Ab)∧w'.cell? ⟨Ak,0,none⟩=some (.int .i64 Ac)∧w'.cell? ⟨Ak,1,none⟩=some (.int .i64 Ad)∧w'.cell? ⟨Ak,2,none⟩=some (.int .i64 Ae)∧w'.cell? ⟨Ak,3,none⟩=some (.int .i64 Af)∧w'.cell? ⟨Ak,4,none⟩=some (.slice AH A6.length AI)) (ds:=[]) (bo 9 0) (by kernel_rfl) rfl rfl hh (fun hHeld=>?_);refine with_tabW impl_PlanSnap.tab3 impl_PlanSnap.bits3 (fun HT_ HW_=>?_);generalize wc.drew=By at U X Z HB hHeld ⊢;refine tV 0 25 (bo 9 1) ?_;refine tV 1 26 (bo 9 3) ?_;refine tV 4 29 (bo 9 19) ?_;refine tV 5 30 (bo 9 51) ?_
     refine o1 2 27 (bo 9 55) (fun K hK=>?_);refine goesV Tryz.func85 ?_;(with_reducible refine(impl_ShowSnap.calls BH A9 Aa Ab AZ _ Cs.o).mono ?_);rintro e BK ⟨rfl,hb⟩;refine⟨_,rfl,?_⟩;replace U:=bv U hb;replace X:=bv X hb;replace Z:=bv Z hb;replace HB:=bS HB hb;(try clear hb AK hk hi);refine hK.out _ _ hh (fun hHeld=>?_);clear hK K;refine nm 27 ?_;refine o1 3 28 (bo 9 63) (fun K hK=>?_);refine goesV Tryz.func76 ?_;(with_reducible refine(impl_renewed.calls BH D J _ _ A1 _ _ A2 _ _ A3 (⟨#[115,110,97,112,46,110,101,119]⟩:ByteArray) (⟨#[115,110,97,112]⟩:ByteArray) AZ Ap _ ?_ ?_ ?_ ?_ ?_ ?_ Ct.o).mono ?_);exact cB AL HB;exact AM.o;exact cB AO HB;exact AN.o;exact cB AP HB;exact AQ.o;rintro e BL ⟨Cv,rfl,At,hb⟩;refine⟨_,rfl,?_⟩;have An:=rl HB At;replace U:=bv U hb;replace X:=bv X hb
     replace Z:=bv Z hb;replace HB:=bS HB hb;(try clear hb AK hk hi At);refine hK.out _ _ hh (fun hHeld=>?_);clear hK K;refine nm 28 ?_;refine o1 6 31 (bo 9 127) (fun K hK=>?_);refine goesV Tryz.func20 ?_;(with_reducible refine(impl_PlanLog.calls BH D J _ _ A1 _ _ A2 _ _ A3 Ac Ad Ae Af _ _ A6 Am _ ?_ ?_ ?_ ?_ ?_ ?_ ?_ ?_ Cu.o).mono ?_);exact cB AL HB;exact AM.o;exact cB AO HB;exact AN.o;exact cB AP HB;exact AQ.o;exact cB Bn HB;exact Bo.o;rintro e Ce ⟨CO,rfl,At,hb⟩;refine⟨_,rfl,?_⟩;have AJ:=rl HB (Kd.R_new' At (Kd.R_lt (rpR An.o)));replace An:=re An.o At hb;replace U:=bv U hb;replace X:=bv X hb;replace Z:=bv Z hb;replace HB:=bS HB hb;(try clear hb AK hk hi At);obtain⟨BN,BO,BB⟩:=rs AJ;(first|subst BB|(injection BB with BP Cw BQ;have Cx:=BP.symm;have Cy:=BQ.symm;clear BP Cw BQ;subst Cx;subst Cy))
     refine hK.out _ _ hh (fun hHeld=>?_);clear hK K;refine nm 31 ?_;refine o1 7 32 (bo 9 255) (fun K hK=>?_);refine Kd.R_append_rows_step k39 (w0:=w) w.heap.size (by rfl) (.tmp 28) (.tmp 31) 48 39 (.agg #[(.int .i64 0),(.string ⟨#[]⟩),(.string ⟨#[]⟩),(.string ⟨#[]⟩)]) 56 rfl Tryz.underlying48 info39 rfl (by decide) (by omega) Cv Ap Am _ _ _ (fun k_=>some k_≠(.slice BN Am.length BO:Value).ownBlock) (fun _=>False) rfl rfl ?aO ?aR (fun _ _ h=>h) (fun _ h=>h.elim) ?aF ?aB ?aS ?aL ?_;(case aR=>exact ca (cR AJ.o));(case aB=>exact bl);(case aF=>exact(fun k_ hk=>Kd.fresh' (Kd.R_lt (rpR AJ.o)) k_ hk));(case aO=>exact(rpR (rM An.o (fun _ hk=>hk.2))));(case aS=>exact(below_size bl));(case aL=>have:=BI.o;omega);intro CP Cf ho hb hg hat;rw[←BJ.o]at ho;replace U:=aK (blk_grown (g:=Aj) (o:=.cells #[.int .i64 D,.int .i64 J,.slice AB A1.length AC,.slice AD A2.length AE,.slice AF A3.length AG] 35 (0,0)) bk hg (Kd.R_ne An.o U.o (by decide)));replace X:=aK (blk_grown (g:=Aq) (o:=.cells #[.int .i64 A9,.int .i64 Aa,.string Ab] 69 (0,0)) bk hg (Kd.R_ne An.o X.o (by decide)))
     replace Z:=aK (blk_grown (g:=Ak) (o:=.cells #[.int .i64 Ac,.int .i64 Ad,.int .i64 Ae,.int .i64 Af,.slice AH A6.length AI] 52 (0,0)) bk hg (Kd.R_ne An.o Z.o (by decide)));replace AJ:=aK (Kd.R_after (ok:=(fun _=>True)) (rpR AJ.o) hg hat);replace HB:=aK (hb);have BR:=aK (ho);clear An;clear ho hb hg hat;refine hK.out _ _ hh (fun hHeld=>?_);clear hK K;refine nm 32 ?_;refine pV 8 6 (bo 9 511) ?_;refine done_ (done_of HT_.o (by kernel_rfl)) ?_;(try go_wp2)
     go_ret
     exact⟨_,fe,rpR (rM BR.o (fun _ hk=>trivial)),bl⟩
    ·rw[if_neg B_]at H;exact absurd H (by simp)
end Go.Proofs.YtndbmllnkjngnaaGreat.PDs
