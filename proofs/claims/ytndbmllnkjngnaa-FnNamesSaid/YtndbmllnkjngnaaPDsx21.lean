/- Functions of the program, each with its contract, written by a program out of the translation. -/
import Derived.Test.YtndbmllnkjngnaaPDsx0
import Derived.Test.YtndbmllnkjngnaaPDsxH
import Derived.Test.YtndbmllnkjngnaaPDsx1
import Derived.Test.YtndbmllnkjngnaaZup
namespace Go.Proofs.Ytndbmllnkjngnaa.PDs
open Go.RowKit Go.Proofs.YtndbmllnkjngnaaW.PrintWords Go.Proofs.YtndbmllnkjngnaaW.PrintLast Go.Proofs.YtndbmllnkjngnaaW.PrintMore Go.Proofs.Ytndbmllnkjngnaa.Zip
attribute [local go_sem] max2_int min2_int max_two min_two max_three min_three max_four min_four
set_option linter.unusedVariables false
set_option linter.unusedSimpArgs false
set_option maxHeartbeats 8000000
set_option maxRecDepth 100000
def impl_applied.j0:Nat→List (S37)→Int→Bool→Int→ByteArray→ByteArray→Int→Option ((List (S37))×Bool)
 | 0,_,_,_,_,_,_,_=>none
 |k+1,x0,x6,B1,AR,As,At,AS=>if B1=true then(some (([]:List (S37)),false))else((impl_unlinked.f x0 As).bind fun Aq=>(if 0≤x6 then(if x6<(x0.length:Int)then((impl_linked.f Aq At ((rd_T37 x0 x6).f1)).bind fun Au=>(some (Au,true)))else(none))else(none)))
def impl_applied.f (k:Nat) (l0:List (S37)) (Y:Int) (J:ByteArray) (X:ByteArray) (Z:Int):Option ((List (S37))×Bool):=(impl_linkAt.f l0 J).bind fun A2=>(if Y=1 then((impl_linked.f l0 J Z).bind fun Ar=>(if A2.2=true then(some (Ar,false))else(some (Ar,(X.toList==([]:List UInt8))))))else(if Y=2 then(if A2.2=true then(if Z=0 then((impl_nameOk.f k X).bind fun Av=>(if Av=true then(impl_applied.j0 k l0 A2.1 (X.toList==J.toList) Y J X Z)else(impl_applied.j0 k l0 A2.1 true Y J X Z)))else(impl_applied.j0 k l0 A2.1 true Y J X Z))else(impl_applied.j0 k l0 A2.1 true Y J X Z))else(if Y=3 then((impl_unlinked.f l0 J).bind fun Af=>(if A2.2=true then(if X.toList=([]:List UInt8)then(some (Af,(Z==0)))else(some (Af,false)))else(some (Af,false))))else(some (([]:List (S37)),false)))))
def impl_applied.T4:Bool×List (List Nat×List Nat):=(true,[([],[]),([],[]),([1],[1]),([],[]),([3],[3]),([2,4],[2,4]),([0,5],[0,5]),([],[]),([7],[7]),([8,6],[8]),([9],[9]),([10,9],[9,10]),([11,9],[9,11]),([9,12],[9,12]),([6,9,0,1,2,3,4,5,6],[6]),([13,14,0,1,2,3,4,5,6,7,8,9,10,11,12,13,14],[13])])
def impl_applied.B4:List Nat:=[0,0,2,0,8,30,63,0,128,511,1023,2047,4095,8191,1023,32767]
theorem impl_applied.tab4:rtab .any (opsOf Try.f47 4)=impl_applied.T4:=by kernel_rfl
theorem impl_applied.bits4:waitsOk impl_applied.T4.2 impl_applied.B4=true:=by kernel_rfl
def impl_applied.T8:Bool×List (List Nat×List Nat):=(true,[([],[]),([],[]),([1],[1]),([0,2],[0,2]),([],[]),([4],[4]),([],[]),([],[]),([6,7],[6,7]),([8],[8]),([9],[9]),([5,10],[5,10]),([3,11,3],[3,11]),([12,12,0,1,2,3,4,5,6,7,8,9,10,11,12],[12]),([13,0,1,2,3,4,5,6,7,8,9,10,11,12,13],[])])
def impl_applied.B8:List Nat:=[0,0,2,7,0,16,0,0,192,448,960,2032,4095,8191,16383]
theorem impl_applied.tab8:rtab .any (opsOf Try.f47 8)=impl_applied.T8:=by kernel_rfl
theorem impl_applied.bits8:waitsOk impl_applied.T8.2 impl_applied.B8=true:=by kernel_rfl
def impl_applied.T10:Bool×List (List Nat×List Nat):=(true,[([],[]),([],[]),([1],[1]),([0,2],[0,2]),([],[]),([4,3],[4]),([5],[5]),([6,5],[5,6]),([7,5],[5,7]),([5,8],[5,8]),([9,5],[9]),([10],[10]),([11,10],[10,11]),([12,10],[10,12]),([10,13],[10,13]),([3,10,0,1,2,3],[3]),([14,15,0,1,2,3,4,5,6,7,8,9,10,11,12,13,14,15],[14])])
def impl_applied.B10:List Nat:=[0,0,2,7,0,31,63,127,255,511,1023,2047,4095,8191,16383,2047,65535]
theorem impl_applied.tab10:rtab .any (opsOf Try.f47 10)=impl_applied.T10:=by kernel_rfl
theorem impl_applied.bits10:waitsOk impl_applied.T10.2 impl_applied.B10=true:=by kernel_rfl
theorem impl_applied.calls (k:Nat) (A0:Option Addr) (c0:Nat) (l0:List (S37)) (Y:Int) (J:ByteArray) (X:ByteArray) (Z:Int) (r1:List (S37)) (r2:Bool) (w:World) (AT:Kd.C k37 w A0 l0.length l0) (AU:l0.length≤c0) (h:impl_applied.f k l0 Y J X Z=some (r1,r2)) :
 Calls Try.prog 47 #[.slice A0 l0.length c0,.agg #[.int .i64 Y,.string J,.string X,.int .i64 Z]] w fun e w'=>∃AV:Value,e = .returned (.tuple #[AV,.bool r2])∧Kd.R k37 37 w' w.heap.size (fun _=>True) AV r1∧Below w.heap.size w w':=by
 have Bg:=Try.underlying39;have Bh:=Try.underlying37;have Ag:=aK AT;have Ak:=aK AU;clear AT AU;have HB:=aK (Below.refl w.heap.size w);have H:=h;unfold impl_applied.f at H;clear h;replace H:=oB H;obtain⟨⟨A1,Ah⟩,AW,H⟩:=H
 dsimp only at H;have A3:=aK AW;clear AW;by_cases c4:Y=1
 ·rw[if_pos c4]at H;have AI:=bT c4;have AJ:=bE c4;clear c4;obtain⟨Ar,A5,H⟩:=bd H;have Hq_:=aK H;clear H
  go_enter Try.func47,Try.ntmps47
  (try go_wp2_with (first|((with_reducible refine gD 3 rfl ?_);refine boxW ?_;intro U hg AL hbox hb;have D:=aK hbox;have Al:=gW HB hg;replace HB:=bS HB hb;clear hb hbox hg;have:=cf4 D)|((with_reducible refine gC 83 rfl ?_);refine goesW Try.func83 ?_;(with_reducible refine(impl_linkAt.calls _ _ l0 J A1 _ _ ?_ ?_ A3.o).mono ?_);exact cB Ag HB;exact Ak.o;rintro e Aw ⟨rfl,hb⟩;refine⟨_,rfl,?_⟩;replace D:=bv D hb;replace HB:=bS HB hb;(try clear hb);have:=cf4 D)));replace D:=dB D;replace HB:=dW HB;refine start_ (n:=16) (S:=fun w'=>w'.cell? ⟨U,0,none⟩=some (.int .i64 Y)∧w'.cell? ⟨U,1,none⟩=some (.string J)∧w'.cell? ⟨U,2,none⟩=some (.string X)∧w'.cell? ⟨U,3,none⟩=some (.int .i64 Z)) (ds:=[]) (bo 16 0) (by kernel_rfl) rfl rfl hh (fun hHeld=>?_);refine with_tabW impl_applied.tab4 impl_applied.bits4 (fun HT_ HW_=>?_);generalize Aw.drew=B2 at D HB hHeld ⊢;refine pV 0 19 (bo 16 1) ?_;refine pV 1 20 (bo 16 3) ?_;refine pV 3 22 (bo 16 11) ?_;refine pV 7 26 (bo 16 139) ?_;refine pV 8 27 (bo 16 395) ?_;refine tV 2 21 (bo 16 399) ?_;refine tV 4 23 (bo 16 415) ?_
  refine pV 5 24 (bo 16 447) ?_;refine o1 6 25 (bo 16 511) (fun K hK=>?_);refine goesV Try.func84 ?_;(with_reducible refine(impl_linked.calls _ _ l0 J Z Ar _ ?_ ?_ A5.o).mono ?_);exact cB Ag HB;exact Ak.o;rintro e B3 ⟨Bi,rfl,A6,hb⟩;refine⟨_,rfl,?_⟩;have Ax:=rl HB A6;replace D:=bv D hb;replace HB:=bS HB hb;(try clear hb AM hk hi A6);refine hK.out _ _ hh (fun hHeld=>?_);clear hK K;refine nm 25 ?_;refine pV 9 28 (bo 16 1023) ?_;have H:=Hq_.o;clear Hq_;by_cases c6:Ah=true
  ·subst c6;replace H:=iT H;simp only[Option.some.injEq,Prod.mk.injEq]at H;obtain⟨rfl,rfl⟩:=H;refine pU 10 29 (bo 16 2047) ?_;refine pU 11 30 (bo 16 4095) ?_;refine pU 12 31 (bo 16 8191) ?_;refine pV 13 32 (bo 16 16383) ?_;refine pV 14 4 (bo 16 32767) ?_;refine pV 15 5 (bo 16 65535) ?_;refine done_ (done_of HT_.o (by kernel_rfl)) ?_;(try go_wp2)
   go_ret2
   exact⟨_,fe,rpR Ax.o,bl⟩
  ·replace c6:=bF c6;subst c6;replace H:=iF H;simp only[Option.some.injEq,Prod.mk.injEq]at H;obtain⟨rfl,rfl⟩:=H;refine pV 10 29 (bo 16 2047) ?_;refine pV 14 4 (bo 16 18431) ?_;refine tV 11 30 (bo 16 20479) ?_;refine pV 12 31 (bo 16 24575) ?_;refine pV 13 32 (bo 16 32767) ?_;refine pV 15 5 (bo 16 65535) ?_;refine done_ (done_of HT_.o (by kernel_rfl)) ?_;(try go_wp2)
   go_ret2
   exact⟨_,fe,rpR Ax.o,bl⟩
 ·rw[if_neg c4]at H;have AI:=bN c4;have AJ:=bQ c4;by_cases Ai:Y=2
  ·rw[if_pos Ai]at H;have Ay:=bT Ai;have Az:=bE Ai;clear Ai;have A_:=aK H;clear H
   go_enter Try.func47,Try.ntmps47
   go_upto_region 6 with(first|((with_reducible refine gD 3 rfl ?_);refine boxW ?_;intro U hg AL hbox hb;have D:=aK hbox;have Al:=gW HB hg;replace HB:=bS HB hb;clear hb hbox hg;have:=cf4 D)|((with_reducible refine gC 83 rfl ?_);refine goesW Try.func83 ?_;(with_reducible refine(impl_linkAt.calls _ _ l0 J A1 Ah _ ?_ ?_ A3.o).mono ?_);exact cB Ag HB;exact Ak.o;rintro e Aw ⟨rfl,hb⟩;refine⟨_,rfl,?_⟩;replace D:=bv D hb;replace HB:=bS HB hb;(try clear hb);have:=cf4 D))
   (try simp only[Act.put,List.setIfInBounds_toArray,List.set_cons_zero,List.set_cons_succ])
   go_cut [54] (fun B5 wc=>∃(kq:Nat) (A7:Bool),B5 = .bool A7∧Aside0 (impl_applied.j0 kq l0 A1 A7 Y J X Z=some (r1,r2))∧Aside0 (kq≤k)∧Aside0 (wc.heap[U]? = some (.cells #[.int .i64 Y,.string J,.string X,.int .i64 Z] 39 (0,0)))∧Aside0 (Below w.heap.size w wc))
   case first=>
    have H:=A_.o;clear A_;by_cases AA:Ah=true
    ·subst AA;replace H:=iT H;by_cases Aj:Z=0
     ·rw[if_pos Aj]at H;have A4:=bT Aj;have AB:=bE Aj;clear Aj;(first|rw[A4]|(simp only[i64_w,i32_w];rw[A4])|skip);obtain⟨Av,AX,H⟩:=bd H;by_cases AC:Av=true
      ·subst AC;replace H:=iT H;have H':=aK H;clear H;have:=cf4 D;go_wp2_with (first|(go_at_call 44;(with_reducible refine(impl_nameOk.calls k X _ _ AX.o).mono ?_);rintro e w' ⟨rfl,⟨nd,rfl⟩⟩))
       go_meet
       case rel=>exact⟨_,((X.toList==J.toList)),fa,H',⟨by first|omega|exact Nat.le_refl _⟩,⟨bw D⟩,⟨bl⟩⟩
      ·replace AC:=bF AC;subst AC;replace H:=iF H;have H':=aK H;clear H;have:=cf4 D;go_wp2_with (first|(go_at_call 44;(with_reducible refine(impl_nameOk.calls k X _ _ AX.o).mono ?_);rintro e w' ⟨rfl,⟨nd,rfl⟩⟩))
       go_meet
       case rel=>exact⟨_,(true),fa,H',⟨by first|omega|exact Nat.le_refl _⟩,⟨bw D⟩,⟨bl⟩⟩
     ·rw[if_neg Aj]at H;have A4:=bN Aj;have AB:=bQ Aj;(first|rw[A4]|(simp only[i64_w,i32_w];rw[A4])|skip);have H':=aK H;clear H;have:=cf4 D;go_wp2
      go_meet
      case rel=>exact⟨_,(true),fa,H',⟨by first|omega|exact Nat.le_refl _⟩,⟨bw D⟩,⟨bl⟩⟩
    ·replace AA:=bF AA;subst AA;replace H:=iF H;have H':=aK H;clear H;go_wp2
     go_meet
     case rel=>exact⟨_,(true),fa,H',⟨by first|omega|exact Nat.le_refl _⟩,⟨bw D⟩,⟨bl⟩⟩
   case rest=>
    clear A_;(try clear c1);(try clear c2);(try clear p2);(try clear c4);(try clear AI);(try clear AJ);(try clear c6);(try clear c8);(try clear Ai);(try clear Ay);(try clear Az);(try clear AA);(try clear Aj);(try clear A4);(try clear AB);(try clear AC);obtain⟨kq,A7,rfl,HA,Bj,D,HB⟩:=hcut;cases kq with
    |zero=>exact absurd HA.o (by simp[impl_applied.j0])
    |succ Bk=>
     have H:=HA.o;clear HA;simp only[impl_applied.j0]at H;by_cases AE:A7=true
     ·subst AE;replace H:=iT H;simp only[Option.some.injEq,Prod.mk.injEq]at H;obtain⟨rfl,rfl⟩:=H;go_wp2
      go_ret2
      exact⟨_,fe,by first|exact Kd.R_nil _ _ _ _ _|exact Kd.N_nil _ _ _ _ _|exact Kd.V_nil _ _ _ _ _|exact Kd.Q_nil _ _ _ _ _|exact Kd.S_nil _ _ _ _ _,bl⟩
     ·replace AE:=bF AE;subst AE;replace H:=iF H;obtain⟨Aq,B6,H⟩:=bd H;by_cases AF:0≤A1
      ·rw[if_pos AF]at H;have B7:=dt AF;clear AF;by_cases AG:A1<(l0.length:Int)
       ·rw[if_pos AG]at H;have B9:=dt AG;clear AG;obtain⟨Au,Ba,H⟩:=bd H;simp only[Option.some.injEq,Prod.mk.injEq]at H;obtain⟨rfl,rfl⟩:=H;(try go_wp2);replace D:=dB D;replace HB:=dW HB;have AN:0≤(A1:Int):=dT am;have AO:A1<(l0.length:Int):=dT am;obtain⟨AD,Bb,A8,A9⟩:=at_T37 Ag.o A1 AN AO;have Ad:=A9;have Ae:=A8;cases Bb;replace A8:=cz HB A8;replace A9:=cz HB A9;replace AN:=eq_true AN;replace AO:=eq_true AO;refine start_ (n:=15) (S:=fun w'=>w'.cell? ⟨U,0,none⟩=some (.int .i64 Y)∧w'.cell? ⟨U,1,none⟩=some (.string J)∧w'.cell? ⟨U,2,none⟩=some (.string X)∧w'.cell? ⟨U,3,none⟩=some (.int .i64 Z)∧w'.cell? (AD.add ((A1).toNat*2))=some (.string ((rd_T37 l0 A1).f0))∧w'.cell? ⟨(AD.add ((A1).toNat*2)).block,(AD.add ((A1).toNat*2)).off+1,none⟩=some (.int .i64 ((rd_T37 l0 A1).f1))) (ds:=[]) (bo 15 0) (by kernel_rfl) rfl rfl ⟨cb 0 D,cb 1 D,cb 2 D,cb 3 D,(cy HB Ae),(cy HB Ad)⟩ (fun hHeld=>?_);refine with_tabW impl_applied.tab8 impl_applied.bits8 (fun HT_ HW_=>?_);generalize wc.drew=Bo at D HB A8 A9 hHeld ⊢;refine pV 0 55 (bo 15 1) ?_;refine pV 1 56 (bo 15 3) ?_;refine pV 4 59 (bo 15 19) ?_;refine pV 6 61 (bo 15 83) ?_
        refine pV 7 62 (bo 15 211) ?_;refine pV 8 63 (bo 15 467) ?_;refine pV 9 64 (bo 15 979) ?_;refine tV 2 57 (bo 15 983) ?_;refine tV 5 60 (bo 15 1015) ?_;refine tV 10 65 (bo 15 2039) ?_;refine pV 11 66 (bo 15 4087) ?_;refine o1 3 58 (bo 15 4095) (fun K hK=>?_);refine goesV Try.func85 ?_;(with_reducible refine(impl_unlinked.calls _ _ l0 J Aq _ ?_ ?_ B6.o).mono ?_);exact cB Ag HB;exact Ak.o;rintro e Bp ⟨Bq,rfl,A6,hb⟩;refine⟨_,rfl,?_⟩;have Ac:=rl HB A6;replace D:=bv D hb;replace HB:=bS HB hb;(try clear hb AM hk hi A6);obtain⟨Bl,Bm,AK⟩:=rs Ac;(first|subst AK|(injection AK with AY Bc AZ;have Bd:=AY.symm;have Be:=AZ.symm;clear AY Bc AZ;subst Bd;subst Be));refine hK.out _ _ ⟨cb 0 D,cb 1 D,cb 2 D,cb 3 D,(cy HB Ae),(cy HB Ad)⟩ (fun hHeld=>?_);clear hK K;refine nm 58 ?_;refine o1 12 67 (bo 15 8191) (fun K hK=>?_);refine goesV Try.func84 ?_;(with_reducible refine(impl_linked.calls _ _ Aq X ((rd_T37 l0 A1).f1) Au _ ?_ ?_ Ba.o).mono ?_);exact ca (cR Ac.o);exact cl Ac;rintro e Br ⟨Bs,rfl,A6,hb⟩;refine⟨_,rfl,?_⟩;have B0:=rl HB (Kd.R_new' A6 (Kd.R_lt (rpR Ac.o)));replace Ac:=re Ac.o A6 hb
        replace D:=bv D hb;replace HB:=bS HB hb;(try clear hb AM hk hi A6);refine hK.out _ _ ⟨cb 0 D,cb 1 D,cb 2 D,cb 3 D,(cy HB Ae),(cy HB Ad)⟩ (fun hHeld=>?_);clear hK K;refine nm 67 ?_;refine pV 13 4 (bo 15 16383) ?_;refine pV 14 5 (bo 15 32767) ?_;refine done_ (done_of HT_.o (by kernel_rfl)) ?_;(try go_wp2)
        go_ret2
        exact⟨_,fe,rpR (rM B0.o (fun _ hk=>trivial)),bl⟩
       ·rw[if_neg AG]at H;exact absurd H (by simp)
      ·rw[if_neg AF]at H;exact absurd H (by simp)
  ·rw[if_neg Ai]at H;have Ay:=bN Ai;have Az:=bQ Ai;by_cases Am:Y=3
   ·rw[if_pos Am]at H;have AP:=bT Am;have AQ:=bE Am;clear Am;obtain⟨Af,Bf,H⟩:=bd H;have Hq_:=aK H;clear H
    go_enter Try.func47,Try.ntmps47
    (try go_wp2_with (first|((with_reducible refine gD 3 rfl ?_);refine boxW ?_;intro U hg AL hbox hb;have D:=aK hbox;have Al:=gW HB hg;replace HB:=bS HB hb;clear hb hbox hg;have:=cf4 D)|((with_reducible refine gC 83 rfl ?_);refine goesW Try.func83 ?_;(with_reducible refine(impl_linkAt.calls _ _ l0 J A1 _ _ ?_ ?_ A3.o).mono ?_);exact cB Ag HB;exact Ak.o;rintro e Aw ⟨rfl,hb⟩;refine⟨_,rfl,?_⟩;replace D:=bv D hb;replace HB:=bS HB hb;(try clear hb);have:=cf4 D)));replace D:=dB D;replace HB:=dW HB;refine start_ (n:=17) (S:=fun w'=>w'.cell? ⟨U,0,none⟩=some (.int .i64 Y)∧w'.cell? ⟨U,1,none⟩=some (.string J)∧w'.cell? ⟨U,2,none⟩=some (.string X)∧w'.cell? ⟨U,3,none⟩=some (.int .i64 Z)) (ds:=[]) (bo 17 0) (by kernel_rfl) rfl rfl hh (fun hHeld=>?_);refine with_tabW impl_applied.tab10 impl_applied.bits10 (fun HT_ HW_=>?_);generalize Aw.drew=B2 at D HB hHeld ⊢;refine pV 0 70 (bo 17 1) ?_;refine pV 1 71 (bo 17 3) ?_;refine pV 4 74 (bo 17 19) ?_;refine tV 2 72 (bo 17 23) ?_;refine o1 3 73 (bo 17 31) (fun K hK=>?_)
    refine goesV Try.func85 ?_;(with_reducible refine(impl_unlinked.calls _ _ l0 J Af _ ?_ ?_ Bf.o).mono ?_);exact cB Ag HB;exact Ak.o;rintro e B3 ⟨Bn,rfl,A6,hb⟩;refine⟨_,rfl,?_⟩;have An:=rl HB A6;replace D:=bv D hb;replace HB:=bS HB hb;(try clear hb AM hk hi A6);refine hK.out _ _ hh (fun hHeld=>?_);clear hK K;refine nm 73 ?_;refine pV 5 75 (bo 17 63) ?_;have H:=Hq_.o;clear Hq_;by_cases AH:Ah=true
    ·subst AH;replace H:=iT H;have Hq_:=aK H;clear H;refine pV 6 76 (bo 17 127) ?_;refine tV 7 77 (bo 17 255) ?_;refine pV 8 78 (bo 17 511) ?_;refine pV 9 79 (bo 17 1023) ?_;refine pV 10 80 (bo 17 2047) ?_;have H:=Hq_.o;clear Hq_;by_cases Ao:X.toList=([]:List UInt8)
     ·rw[if_pos Ao]at H;have Aa:=bT Ao;(try rw[Aa]);have Ab:=Aa;simp only[show ∀l_:List UInt8,(l_ == [])=l_.isEmpty from fun l_=>by cases l_<;>rfl]at Ab;(try rw[Ab]);have Ap:=bE Ao;(try rw[Ap]);clear Ao;simp only[Option.some.injEq,Prod.mk.injEq]at H;obtain⟨rfl,rfl⟩:=H;refine pV 11 81 (bo 17 4095) ?_;refine pV 15 4 (bo 17 36863) ?_;refine tV 12 82 (bo 17 40959) ?_;refine pV 13 83 (bo 17 49151) ?_;refine pV 14 84 (bo 17 65535) ?_;refine pV 16 5 (bo 17 131071) ?_;refine done_ (done_of HT_.o (by kernel_rfl)) ?_;(try go_wp2)
      go_ret2
      exact⟨_,fe,rpR An.o,bl⟩
     ·rw[if_neg Ao]at H;have Aa:=bN Ao;(try rw[Aa]);have Ab:=Aa;simp only[show ∀l_:List UInt8,(l_ == [])=l_.isEmpty from fun l_=>by cases l_<;>rfl]at Ab;(try rw[Ab]);have Ap:=bQ Ao;(try rw[Ap]);simp only[Option.some.injEq,Prod.mk.injEq]at H;obtain⟨rfl,rfl⟩:=H;refine pU 11 81 (bo 17 4095) ?_;refine pU 12 82 (bo 17 8191) ?_;refine pU 13 83 (bo 17 16383) ?_;refine pV 14 84 (bo 17 32767) ?_;refine pV 15 4 (bo 17 65535) ?_;refine pV 16 5 (bo 17 131071) ?_;refine done_ (done_of HT_.o (by kernel_rfl)) ?_;(try go_wp2)
      go_ret2
      exact⟨_,fe,rpR An.o,bl⟩
    ·replace AH:=bF AH;subst AH;replace H:=iF H;simp only[Option.some.injEq,Prod.mk.injEq]at H;obtain⟨rfl,rfl⟩:=H;refine pU 6 76 (bo 17 127) ?_;refine pU 7 77 (bo 17 255) ?_;refine pU 8 78 (bo 17 511) ?_;refine pV 9 79 (bo 17 1023) ?_;refine pV 10 80 (bo 17 2047) ?_;refine pU 11 81 (bo 17 4095) ?_;refine pU 12 82 (bo 17 8191) ?_;refine pU 13 83 (bo 17 16383) ?_;refine pV 14 84 (bo 17 32767) ?_;refine pV 15 4 (bo 17 65535) ?_;refine pV 16 5 (bo 17 131071) ?_;refine done_ (done_of HT_.o (by kernel_rfl)) ?_;(try go_wp2)
     go_ret2
     exact⟨_,fe,rpR An.o,bl⟩
   ·rw[if_neg Am]at H;have AP:=bN Am;have AQ:=bQ Am;simp only[Option.some.injEq,Prod.mk.injEq]at H;obtain⟨rfl,rfl⟩:=H
    go_enter Try.func47,Try.ntmps47
    go_wp2_with (first|((with_reducible refine gD 3 rfl ?_);refine boxW ?_;intro U hg AL hbox hb;have D:=aK hbox;have Al:=gW HB hg;replace HB:=bS HB hb;clear hb hbox hg;have:=cf4 D)|((with_reducible refine gC 83 rfl ?_);refine goesW Try.func83 ?_;(with_reducible refine(impl_linkAt.calls _ _ l0 J A1 Ah _ ?_ ?_ A3.o).mono ?_);exact cB Ag HB;exact Ak.o;rintro e Aw ⟨rfl,hb⟩;refine⟨_,rfl,?_⟩;replace D:=bv D hb;replace HB:=bS HB hb;(try clear hb);have:=cf4 D))
    go_ret2
    exact⟨_,fe,by first|exact Kd.R_nil _ _ _ _ _|exact Kd.N_nil _ _ _ _ _|exact Kd.V_nil _ _ _ _ _|exact Kd.Q_nil _ _ _ _ _|exact Kd.S_nil _ _ _ _ _,bl⟩
end Go.Proofs.Ytndbmllnkjngnaa.PDs
