/- Functions of the program, each with its contract, written by a program out of the translation. -/
import Derived.Test.YtndbmllnkjngnaaGreatPDsx0
import Derived.Test.YtndbmllnkjngnaaGreatPDsx31
import Derived.Test.YtndbmllnkjngnaaGreatPDsx4
import Derived.Test.YtndbmllnkjngnaaGreatPDsx45
import Derived.Test.YtndbmllnkjngnaaGreatPDsx46
import Derived.Test.YtndbmllnkjngnaaGreatZip
namespace Go.Proofs.YtndbmllnkjngnaaGreat.PDs
open Go.RowKit Go.Proofs.YtndbmllnkjngnaaGreatW.PrintWords Go.Proofs.YtndbmllnkjngnaaGreatW.PrintLast Go.Proofs.YtndbmllnkjngnaaGreatW.PrintMore Go.Proofs.YtndbmllnkjngnaaGreat.Zip
attribute [local go_sem] max2_int min2_int max_two min_two max_three min_three max_four min_four
set_option linter.unusedVariables false
set_option linter.unusedSimpArgs false
set_option maxHeartbeats 8000000
set_option maxRecDepth 100000
def spec_SnapOk.f (U:Int) (X:Int) (A0:ByteArray):Option (Bool):=if U=0 then(if X=0 then(some (A0.toList==([]:List UInt8)))else(some false))else((spec_l1In.f U 1 100000).bind fun AU=>(if AU=true then((spec_l1In.f X 1 100000).bind fun AV=>(if AV=true then(some (decide ((A0.size:Int)≤30000)))else(some false)))else(some false)))
theorem spec_SnapOk.z1 {p:Prop} (h:p:=by
 go_enter Tryz.func82,Tryz.ntmps82
 go_wp2_with (first|((with_reducible refine gd 1 ?_);(try (refine gate_guard rfl ?_;dsimp only));refine boxQ HB ?_;clear HB;intro C0 hg AW By C1 HB hb;clear hb hg;have:=cf3 By)|((with_reducible refine gc 99 ?_);refine goesW Tryz.func99 ?_;(with_reducible refine mo (spec_l1In.calls U 1 100000 _ _ A8.o) ?_);rintro _ ⟨nd,rfl⟩)|(go_at_call 99;(with_reducible refine(spec_l1In.calls X 1 100000 _ _ Bz.o).mono ?_);rintro e w' ⟨rfl,⟨nd,rfl⟩⟩))
 go_ret
 exact⟨fe,bl⟩):p:=h
theorem spec_SnapOk.calls (U:Int) (X:Int) (A0:ByteArray) (r:Bool) (w:World) (h:spec_SnapOk.f U X A0=some r) :
 Calls Tryz.prog 82 #[.agg #[.int .i64 U,.int .i64 X,.string A0]] w fun e w'=>e = .returned (.bool r)∧Below w.heap.size w w':=by
 have Bw:=Tryz.underlying69;have HB:=aK (Below.refl w.heap.size w);have H:=h;unfold spec_SnapOk.f at H;clear h;by_cases c2:U=0
 ·rw[if_pos c2]at H;have BM:=bT c2;have BN:=bE c2;clear c2;by_cases c3:X=0
  ·rw[if_pos c3]at H;have BO:=bT c3;have BP:=bE c3;clear c3;obtain rfl:=oj H
   exact spec_SnapOk.z1
  ·rw[if_neg c3]at H;have BO:=bN c3;have BP:=bQ c3;obtain rfl:=oj H
   exact spec_SnapOk.z1
 ·rw[if_neg c2]at H;have BM:=bN c2;have BN:=bQ c2;obtain⟨AU,A8,H⟩:=bd H;by_cases c9:AU=true
  ·subst c9;replace H:=iT H;obtain⟨AV,Bz,H⟩:=bd H;by_cases Al:AV=true
   ·subst Al;replace H:=iT H;obtain rfl:=oj H
    exact spec_SnapOk.z1
   ·replace Al:=bF Al;subst Al;replace H:=iF H;obtain rfl:=oj H
    exact spec_SnapOk.z1
  ·replace c9:=bF c9;subst c9;replace H:=iF H;obtain rfl:=oj H
   exact spec_SnapOk.z1
def spec_ShowSnap.j0:Nat→Bool→Int→Int→ByteArray→Option (ByteArray)
 | 0,_,_,_,_=>none
 |k+1,C2,AX,AY,Am=>if C2=true then(some (⟨#[]⟩:ByteArray))else((spec_Fixed.f k AX 4).bind fun Ae=>((spec_Fixed.f k AY 4).bind fun Af=>(if Ae.size+Af.size≤9223372036854775807 then((spec_Fixed.f k (Am.size:Int) 4).bind fun Ah=>(if(Ae.size+Af.size)+Ah.size≤9223372036854775807 then((spec_Crc.f k Am).bind fun AQ=>((spec_Fixed.f k AQ 4).bind fun Ao=>(if((Ae.size+Af.size)+Ah.size)+Ao.size≤9223372036854775807 then((spec_Frame.f k (((Ae++Af)++Ah)++Ao)).bind fun As=>(if As.size+Am.size≤9223372036854775807 then(some (As++Am))else(none)))else(none))))else(none)))else(none))))
def spec_ShowSnap.f (k:Nat) (U:Int) (X:Int) (A0:ByteArray):Option (ByteArray):=(spec_SnapOk.f U X A0).bind fun AZ=>(if AZ=true then(spec_ShowSnap.j0 k (U==0) U X A0)else(spec_ShowSnap.j0 k true U X A0))
def spec_ShowSnap.T3:Bool×List (List Nat×List Nat):=(true,[([],[]),([0],[0]),([1],[1]),([],[]),([3],[3]),([4,2],[4]),([2,5],[2,5]),([],[]),([7],[7]),([8],[8]),([9,5],[9]),([6,10],[6,10]),([],[]),([12],[12]),([13,10],[13]),([14,14],[14]),([11,15],[11,15]),([16,15],[16]),([],[]),([18],[18]),([17,19],[17,19]),([20,17,0,1,2,3,4,5,6,7,8,9,10,11,12,13,14,15,16,17,18,19,20],[20])])
def spec_ShowSnap.B3:List Nat:=[0,1,3,0,8,31,63,0,128,384,959,2047,0,4096,14271,30655,65535,131071,0,262144,1048575,2097151]
theorem spec_ShowSnap.tab3:rtab .any (opsOf Tryz.f83 3)=spec_ShowSnap.T3:=by kernel_rfl
theorem spec_ShowSnap.bits3:waitsOk spec_ShowSnap.T3.2 spec_ShowSnap.B3=true:=by kernel_rfl
theorem spec_ShowSnap.z1 {p:Prop} (h:p:=by
 go_wp2_with (first|((with_reducible refine gc 82 ?_);refine goesW Tryz.func82 ?_;(with_reducible refine mo (spec_SnapOk.calls U X A0 _ _ A4.o) ?_);intro AW hb;replace Z:=bv Z hb;replace HB:=bS HB hb;have:=cf3 Z))
 (first|(have _:=B_;go_meet;(case rel=>exact⟨_,((U==0)),fa,H',⟨by first|omega|exact Nat.le_refl _⟩,⟨bw Z⟩,⟨bl⟩⟩))|(have _:=B0;go_meet;(case rel=>exact⟨_,(true),fa,H',⟨by first|omega|exact Nat.le_refl _⟩,⟨bw Z⟩,⟨bl⟩⟩)))):p:=h
theorem spec_ShowSnap.calls (k:Nat) (U:Int) (X:Int) (A0:ByteArray) (r:ByteArray) (w:World) (h:spec_ShowSnap.f k U X A0=some r) :
 Calls Tryz.prog 83 #[.agg #[.int .i64 U,.int .i64 X,.string A0]] w fun e w'=>e = .returned (.string r)∧Below w.heap.size w w':=by
 have Bw:=Tryz.underlying69;have HB:=aK (Below.refl w.heap.size w);have H:=h;unfold spec_ShowSnap.f at H;clear h;have BA:=aK H;clear H
 go_enter Tryz.func83,Tryz.ntmps83
 go_upto_region 1 with(first|((with_reducible refine gd 1 ?_);refine boxQ HB ?_;clear HB;intro At hg w3 Z C3 HB hb;clear hb hg))
 (try simp only[Act.put,List.setIfInBounds_toArray,List.set_cons_zero,List.set_cons_succ])
 go_cut [10] (fun C4 wc=>∃(kq:Nat) (Au:Bool),C4 = .bool Au∧Aside0 (spec_ShowSnap.j0 kq Au U X A0=some r)∧Aside0 (kq≤k)∧Aside0 (wc.heap[At]? = some (.cells #[.int .i64 U,.int .i64 X,.string A0] 69 (0,0)))∧Aside0 (Below w.heap.size w wc))
 case first=>
  have H:=BA.o;clear BA;obtain⟨AZ,A4,H⟩:=bd H;by_cases c5:AZ=true
  ·subst c5;replace H:=iT H;have H':=aK H;clear H;have:=cf3 Z;have B_:=trivial;exact spec_ShowSnap.z1
  ·replace c5:=bF c5;subst c5;replace H:=iF H;have H':=aK H;clear H;have:=cf3 Z;have B0:=trivial;exact spec_ShowSnap.z1
 case rest=>
  clear BA;obtain⟨kq,Au,rfl,HA,CC,Z,HB⟩:=hcut;cases kq with
  |zero=>exact absurd HA.o (by simp[spec_ShowSnap.j0])
  |succ AT=>
   have H:=HA.o;clear HA;simp only[spec_ShowSnap.j0]at H;by_cases Al:Au=true
   ·subst Al;replace H:=iT H;obtain rfl:=oj H;go_wp2
    go_ret
    exact⟨fe,bl⟩
   ·replace Al:=bF Al;subst Al;replace H:=iF H;obtain⟨Ae,BB,H⟩:=bd H;obtain⟨Af,C5,H⟩:=bd H;by_cases B1:Ae.size+Af.size≤9223372036854775807
    ·rw[if_pos B1]at H;have C6:=eq_true B1;have C7:=dt B1;(try have C8:(9223372036854775807<Ae.size+Af.size)=False:=eq_false (Nat.not_lt.2 B1));obtain⟨Ah,C9,H⟩:=bd H;by_cases B2:(Ae.size+Af.size)+Ah.size≤9223372036854775807
     ·rw[if_pos B2]at H;have Ca:=eq_true B2;have Cb:=dt B2;(try have Cc:(9223372036854775807<(Ae.size+Af.size)+Ah.size)=False:=eq_false (Nat.not_lt.2 B2));obtain⟨AQ,Cd,H⟩:=bd H;obtain⟨Ao,Ce,H⟩:=bd H;by_cases B4:((Ae.size+Af.size)+Ah.size)+Ao.size≤9223372036854775807
      ·rw[if_pos B4]at H;have Cf:=eq_true B4;have Cg:=dt B4;(try have Ch:(9223372036854775807<((Ae.size+Af.size)+Ah.size)+Ao.size)=False:=eq_false (Nat.not_lt.2 B4));obtain⟨As,Ci,H⟩:=bd H;by_cases B5:As.size+A0.size≤9223372036854775807
       ·rw[if_pos B5]at H;have Cj:=eq_true B5;have Ck:=dt B5;(try have Cl:(9223372036854775807<As.size+A0.size)=False:=eq_false (Nat.not_lt.2 B5));obtain rfl:=oj H;(try go_wp2);replace Z:=dB Z;replace HB:=dW HB;refine start_ (n:=22) (S:=fun w'=>w'.cell? ⟨At,0,none⟩=some (.int .i64 U)∧w'.cell? ⟨At,1,none⟩=some (.int .i64 X)∧w'.cell? ⟨At,2,none⟩=some (.string A0)) (ds:=[]) (bo 22 0) (by kernel_rfl) rfl rfl hh (fun hHeld=>?_);refine with_tabW spec_ShowSnap.tab3 spec_ShowSnap.bits3 (fun HT_ HW_=>?_);generalize wc.drew=AW at Z HB hHeld ⊢;refine pv 0 ?_;refine pv 3 ?_;refine pv 7 ?_;refine pv 12 ?_;refine pv 18 ?_;refine tv 1 ?_;refine tv 4 ?_;refine tv 8 ?_;refine pv 9 ?_;refine tv 13 ?_;refine tv 19 ?_;refine oo 2 (fun K hK=>?_);refine goesV Tryz.func141 ?_;(with_reducible refine mo (spec_Fixed.calls AT U 4 Ae _ BB.o) ?_);intro BQ hb;replace Z:=bv Z hb;replace HB:=bS HB hb
        refine hK.out _ _ hh (fun hHeld=>?_);clear hK K;refine nm 13 ?_;refine oo 5 (fun K hK=>?_);refine goesV Tryz.func141 ?_;(with_reducible refine mo (spec_Fixed.calls AT X 4 Af _ C5.o) ?_);intro BR hb;replace Z:=bv Z hb;replace HB:=bS HB hb;refine hK.out _ _ hh (fun hHeld=>?_);clear hK K;refine nm 16 ?_;refine pv 6 ?_;refine oo 10 (fun K hK=>?_);refine goesV Tryz.func141 ?_;(with_reducible refine mo (spec_Fixed.calls AT (A0.size:Int) 4 Ah _ C9.o) ?_);intro Cm hb;replace Z:=bv Z hb;replace HB:=bS HB hb;refine hK.out _ _ hh (fun hHeld=>?_);clear hK K;refine nm 21 ?_;refine pv 11 ?_;refine oo 14 (fun K hK=>?_);refine goesV Tryz.func142 ?_;(with_reducible refine mo (spec_Crc.calls AT A0 AQ _ Cd.o) ?_);rintro _ ⟨nd,rfl⟩;refine hK.out _ _ hh (fun hHeld=>?_);clear hK K;refine nm 25 ?_
        refine oo 15 (fun K hK=>?_);refine goesV Tryz.func141 ?_;(with_reducible refine mo (spec_Fixed.calls AT AQ 4 Ao _ Ce.o) ?_);intro Cn hb;replace Z:=bv Z hb;replace HB:=bS HB hb;refine hK.out _ _ hh (fun hHeld=>?_);clear hK K;refine nm 26 ?_;refine pv 16 ?_;refine oo 17 (fun K hK=>?_);refine goesV Tryz.func132 ?_;(with_reducible refine mo (spec_Frame.calls AT (((Ae++Af)++Ah)++Ao) As _ Ci.o) ?_);intro CD hb;replace Z:=bv Z hb;replace HB:=bS HB hb;refine hK.out _ _ hh (fun hHeld=>?_);clear hK K;refine nm 28 ?_;refine pv 20 ?_;refine pv 21 ?_;refine done_ (done_of HT_.o (by kernel_rfl)) ?_;(try go_wp2)
        go_ret
        exact⟨fe,bl⟩
       ·exact no B5 H
      ·exact no B4 H
     ·exact no B2 H
    ·exact no B1 H
def spec_ReadSnap.j0:Nat→ByteArray→ByteArray→Int→Int→Bool→Option (Int×Int×ByteArray×Bool)
 | 0,_,_,_,_,_=>none
 |k+1,x0,x4,x5,x7,Av=>if Av=true then(some (0,0,(⟨#[]⟩:ByteArray),false))else(if 4≤(x4.size:Int)then((spec_ReadFixed.f k (x4.extract 4 x4.size) 4).bind fun Ab=>(if 0≤x5 then(if x5≤(x0.size:Int)then((spec_ShowSnap.f k x7 Ab.1 (x0.extract (x5:Int).toNat x0.size)).bind fun A5=>(if A5.toList=x0.toList then(some (x7,Ab.1,x0.extract (x5:Int).toNat x0.size,true))else(some (0,0,(⟨#[]⟩:ByteArray),false))))else(none))else(none)))else(none))
def spec_ReadSnap.f (k:Nat) (a0:ByteArray):Option (Int×Int×ByteArray×Bool):=(spec_Unframe.f k a0).bind fun X=>((spec_ReadFixed.f k X.1 4).bind fun Ac=>(if(X.1.size:Int)=16 then(spec_ReadSnap.j0 k a0 X.1 X.2.1 Ac.1 (decide ((wrap64 ((a0.size:Int)-X.2.1))>30000)))else(spec_ReadSnap.j0 k a0 X.1 X.2.1 Ac.1 true)))
theorem spec_ReadSnap.calls (k:Nat) (a0:ByteArray) (r1:Int) (r2:Int) (r3:ByteArray) (r4:Bool) (w:World) (h:spec_ReadSnap.f k a0=some (r1,r2,r3,r4)) :
 Calls Tryz.prog 88 #[.string a0] w fun e w'=>e = .returned (.tuple #[.agg #[.int .i64 r1,.int .i64 r2,.string r3],.bool r4])∧Below w.heap.size w w':=by
 have AD:=Tryz.underlying69;have HB:=aK (Below.refl w.heap.size w);have H:=h;unfold spec_ReadSnap.f at H;clear h;replace H:=oB H;obtain⟨⟨Y,U,Ao⟩,Ap,H⟩:=H;dsimp only at H;have A2:=aK Ap;clear Ap;replace H:=oB H;obtain⟨⟨A0,Aq⟩,Ar,H⟩:=H;dsimp only at H;have A3:=aK Ar;clear Ar;have Ak:=aK H;clear H
 go_enter Tryz.func88,Tryz.ntmps88
 go_upto_region 3 with(first|((with_reducible refine gd 2 ?_);(try (refine gate_guard rfl ?_;dsimp only));refine boxQ HB ?_;clear HB;intro J hg w5 D Aw HB hb;clear hb hg)|((with_reducible refine gc 150 ?_);refine goesW Tryz.func150 ?_;(with_reducible refine mo (spec_Unframe.calls k a0 Y U Ao _ A2.o) ?_);intro w6 hb;replace D:=bv D hb;replace HB:=bS HB hb)|((with_reducible refine gc 151 ?_);refine goesW Tryz.func151 ?_;(with_reducible refine mo (spec_ReadFixed.calls k Y 4 A0 Aq _ A3.o) ?_);rintro _ ⟨nd,rfl⟩))
 (try simp only[Act.put,List.setIfInBounds_toArray,List.set_cons_zero,List.set_cons_succ])
 go_cut [32] (fun Ax wc=>∃(kq:Nat) (A4:Bool),Ax = .bool A4∧Aside0 (spec_ReadSnap.j0 kq a0 Y U A0 A4=some (r1,r2,r3,r4))∧Aside0 (kq≤k)∧Aside0 (wc.heap[J]? = some (.cells #[.int .i64 0,.int .i64 0,.string (⟨#[]⟩:ByteArray)] 69 (0,0)))∧Aside0 (Below w.heap.size w wc))
 case first=>
  have H:=Ak.o;clear Ak;by_cases c7:(Y.size:Int)=16
  ·rw[if_pos c7]at H;have A6:=bT c7;have As:=bE c7;clear c7;(first|rw[A6]|(simp only[i64_w,i32_w];rw[A6])|skip);have H':=aK H;clear H
   go_wp2
   go_meet
   case rel=>exact⟨_,(decide ((wrap64 ((a0.size:Int)-U))>30000)),fa,H',⟨by first|omega|exact Nat.le_refl _⟩,⟨bw D⟩,⟨bl⟩⟩
  ·rw[if_neg c7]at H;have A6:=bN c7;have As:=bQ c7;(first|rw[A6]|(simp only[i64_w,i32_w];rw[A6])|skip);have H':=aK H;clear H
   go_wp2
   go_meet
   case rel=>exact⟨_,(true),fa,H',⟨by first|omega|exact Nat.le_refl _⟩,⟨bw D⟩,⟨bl⟩⟩
 case rest=>
  clear Ak;obtain⟨kq,A4,rfl,HA,AE,D,HB⟩:=hcut
  cases kq with
  |zero=>exact absurd HA.o (by simp[spec_ReadSnap.j0])
  |succ Ah=>
   have H:=HA.o;clear HA;simp only[spec_ReadSnap.j0]at H;by_cases c8:A4=true
   ·subst c8;replace H:=iT H;obtain⟨rfl,rfl,rfl,rfl⟩:=t4 H;have:=cf3 D
    go_wp2
    refine bodyPost_ret (results_ct rfl _ _ J 69 #[.int .i64 0,.int .i64 0,.string (⟨#[]⟩:ByteArray)] (0,0) _ rfl bkk Tryz.underlying69 rfl (by kernel_rfl)) rfl ?_;exact⟨fe,bl⟩
   ·replace c8:=bF c8;subst c8;replace H:=iF H;by_cases c10:4≤(Y.size:Int)
    ·rw[if_pos c10]at H;have Ay:=eq_true c10;have Az:=dt c10;clear c10;replace H:=oB H;obtain⟨⟨A1,Ai⟩,Aj,H⟩:=H;dsimp only at H;have At:=aK Aj;clear Aj;by_cases Ad:0≤U
     ·rw[if_pos Ad]at H;have A_:=eq_true Ad;have AA:=dt Ad;clear Ad;by_cases Ae:U≤(a0.size:Int)
      ·rw[if_pos Ae]at H;have AB:=eq_true Ae;have AC:=dt Ae;clear Ae;obtain⟨A5,Au,H⟩:=bd H;by_cases A7:A5.toList=a0.toList
       ·rw[if_pos A7]at H;have Al:=bT A7;have Am:=bE A7;clear A7;obtain⟨rfl,rfl,rfl,rfl⟩:=t4 H
        go_wp2_with (first|((with_reducible refine gc 151 ?_);refine goesW Tryz.func151 ?_;(with_reducible refine mo (spec_ReadFixed.calls Ah (Y.extract 4 Y.size) 4 A1 Ai _ At.o) ?_);rintro _ ⟨nd,rfl⟩;(try (rw[drewN_self wc];generalize hq_:World.drewN wc _=wc;have Af:Aside0 (wc.heap[J]? = some (.cells #[.int .i64 0,.int .i64 0,.string (⟨#[]⟩:ByteArray)] 69 (0,0))):=⟨by rw[←hq_];exact bk⟩;have Ag:Aside0 (Below w.heap.size w wc):=⟨by rw[←hq_];exact bl⟩;clear D HB hq_;have D:=Af;have HB:=Ag;clear Af Ag)))|((with_reducible refine gd 11 ?_);(try (refine gate_guard rfl ?_;dsimp only));refine boxQ HB ?_;clear HB;intro A8 hg AF Z An HB hb;have A9:=nL D hg;have Aa:=nR D hg;replace D:=bv D hb;clear hb hg;have:=cf3 Z)|((with_reducible refine gc 83 ?_);refine goesW Tryz.func83 ?_;(with_reducible refine mo (spec_ShowSnap.calls Ah A0 A1 (a0.extract (U:Int).toNat a0.size) A5 _ Au.o) ?_);intro AG hb;replace D:=aK (blk_below (g:=J) (o:=.cells #[.int .i64 0,.int .i64 0,.string (⟨#[]⟩:ByteArray)] 69 (0,0)) bkk hb);replace Z:=aK (blk_below (g:=A8) (o:=.cells #[.int .i64 A0,.int .i64 A1,.string (a0.extract (U:Int).toNat a0.size)] 69 (0,0)) bkk hb);replace HB:=bS HB hb;have:=cf3 Z;have:=cf3 D))
        refine bodyPost_ret (results_ct rfl _ _ J 69 #[.int .i64 A0,.int .i64 A1,.string (a0.extract (U:Int).toNat a0.size)] (0,0) _ rfl bkk Tryz.underlying69 rfl (by kernel_rfl)) rfl ?_;exact⟨fe,bl⟩
       ·rw[if_neg A7]at H;have Al:=bN A7;have Am:=bQ A7;obtain⟨rfl,rfl,rfl,rfl⟩:=t4 H
        go_wp2_with (first|((with_reducible refine gc 151 ?_);refine goesW Tryz.func151 ?_;(with_reducible refine mo (spec_ReadFixed.calls Ah (Y.extract 4 Y.size) 4 A1 Ai _ At.o) ?_);rintro _ ⟨nd,rfl⟩;(try (rw[drewN_self wc];generalize hq_:World.drewN wc _=wc;have Af:Aside0 (wc.heap[J]? = some (.cells #[.int .i64 0,.int .i64 0,.string (⟨#[]⟩:ByteArray)] 69 (0,0))):=⟨by rw[←hq_];exact bk⟩;have Ag:Aside0 (Below w.heap.size w wc):=⟨by rw[←hq_];exact bl⟩;clear D HB hq_;have D:=Af;have HB:=Ag;clear Af Ag)))|((with_reducible refine gd 11 ?_);(try (refine gate_guard rfl ?_;dsimp only));refine boxQ HB ?_;clear HB;intro A8 hg AH Z An HB hb;have A9:=nL D hg;have Aa:=nR D hg;replace D:=bv D hb;clear hb hg;have:=cf3 Z)|((with_reducible refine gc 83 ?_);refine goesW Tryz.func83 ?_;(with_reducible refine mo (spec_ShowSnap.calls Ah A0 A1 (a0.extract (U:Int).toNat a0.size) A5 _ Au.o) ?_);intro AI hb;replace D:=aK (blk_below (g:=J) (o:=.cells #[.int .i64 0,.int .i64 0,.string (⟨#[]⟩:ByteArray)] 69 (0,0)) bkk hb);replace Z:=aK (blk_below (g:=A8) (o:=.cells #[.int .i64 A0,.int .i64 A1,.string (a0.extract (U:Int).toNat a0.size)] 69 (0,0)) bkk hb);replace HB:=bS HB hb;have:=cf3 D))
        refine bodyPost_ret (results_ct rfl _ _ J 69 #[.int .i64 0,.int .i64 0,.string (⟨#[]⟩:ByteArray)] (0,0) _ rfl bkk Tryz.underlying69 rfl (by kernel_rfl)) rfl ?_;exact⟨fe,bl⟩
      ·exact no Ae H
     ·exact no Ad H
    ·exact no c10 H
end Go.Proofs.YtndbmllnkjngnaaGreat.PDs
