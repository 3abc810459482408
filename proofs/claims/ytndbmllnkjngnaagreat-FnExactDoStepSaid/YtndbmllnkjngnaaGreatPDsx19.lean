/- Functions of the program, each with its contract, written by a program out of the translation. -/
import Derived.Test.YtndbmllnkjngnaaGreatPDsx0
import Derived.Test.YtndbmllnkjngnaaGreatPDsxH
import Derived.Test.YtndbmllnkjngnaaGreatPDsx1
import Derived.Test.YtndbmllnkjngnaaGreatZop
namespace Go.Proofs.YtndbmllnkjngnaaGreat.PDs
open Go.RowKit Go.Proofs.YtndbmllnkjngnaaGreatW.PrintWords Go.Proofs.YtndbmllnkjngnaaGreatW.PrintLast Go.Proofs.YtndbmllnkjngnaaGreatW.PrintMore Go.Proofs.YtndbmllnkjngnaaGreat.Zip
attribute [local go_sem] max2_int min2_int max_two min_two max_three min_three max_four min_four
set_option linter.unusedVariables false
set_option linter.unusedSimpArgs false
set_option maxHeartbeats 8000000
set_option maxRecDepth 100000
def impl_applied.j0:Nat→List (S133)→Int→Bool→Int→ByteArray→ByteArray→Int→Option ((List (S133))×Bool)
 | 0,_,_,_,_,_,_,_=>none
 |k+1,x0,x6,B3,AR,At,Au,AS=>if B3=true then(some (([]:List (S133)),false))else((impl_unlinked.f x0 At).bind fun Af=>(if 0≤x6 then(if x6<(x0.length:Int)then((impl_linked.f Af Au ((rd_T133 x0 x6).f1)).bind fun Av=>(some (Av,true)))else(none))else(none)))
def impl_applied.f (k:Nat) (l0:List (S133)) (X:Int) (J:ByteArray) (U:ByteArray) (Y:Int):Option ((List (S133))×Bool):=(impl_linkAt.f l0 J).bind fun A2=>(if X=1 then((impl_linked.f l0 J Y).bind fun Ar=>(if A2.2=true then(some (Ar,false))else(some (Ar,(U.toList==([]:List UInt8))))))else(if X=2 then(if A2.2=true then(if Y=0 then((impl_nameOk.f k U).bind fun Aw=>(if Aw=true then(impl_applied.j0 k l0 A2.1 (U.toList==J.toList) X J U Y)else(impl_applied.j0 k l0 A2.1 true X J U Y)))else(impl_applied.j0 k l0 A2.1 true X J U Y))else(impl_applied.j0 k l0 A2.1 true X J U Y))else(if X=3 then((impl_unlinked.f l0 J).bind fun Ag=>(if A2.2=true then(if U.toList=([]:List UInt8)then(some (Ag,(Y==0)))else(some (Ag,false)))else(some (Ag,false))))else(some (([]:List (S133)),false)))))
def impl_applied.T4:Bool×List (List Nat×List Nat):=(true,[([],[]),([],[]),([1],[1]),([],[]),([3],[3]),([2,4],[2,4]),([0,5],[0,5]),([],[]),([7],[7]),([8,6],[8]),([9],[9]),([10,9],[9,10]),([11,9],[9,11]),([9,12],[9,12]),([6,9,0,1,2,3,4,5,6],[6]),([13,14,0,1,2,3,4,5,6,7,8,9,10,11,12,13,14],[13])])
def impl_applied.B4:List Nat:=[0,0,2,0,8,30,63,0,128,511,1023,2047,4095,8191,1023,32767]
theorem impl_applied.tab4:rtab .any (opsOf Tryz.f123 4)=impl_applied.T4:=by kernel_rfl
theorem impl_applied.bits4:waitsOk impl_applied.T4.2 impl_applied.B4=true:=by kernel_rfl
def impl_applied.T8:Bool×List (List Nat×List Nat):=(true,[([],[]),([],[]),([1],[1]),([0,2],[0,2]),([],[]),([4],[4]),([],[]),([],[]),([6,7],[6,7]),([8],[8]),([9],[9]),([5,10],[5,10]),([3,11,3],[3,11]),([12,12,0,1,2,3,4,5,6,7,8,9,10,11,12],[12]),([13,0,1,2,3,4,5,6,7,8,9,10,11,12,13],[])])
def impl_applied.B8:List Nat:=[0,0,2,7,0,16,0,0,192,448,960,2032,4095,8191,16383]
theorem impl_applied.tab8:rtab .any (opsOf Tryz.f123 8)=impl_applied.T8:=by kernel_rfl
theorem impl_applied.bits8:waitsOk impl_applied.T8.2 impl_applied.B8=true:=by kernel_rfl
def impl_applied.T10:Bool×List (List Nat×List Nat):=(true,[([],[]),([],[]),([1],[1]),([0,2],[0,2]),([],[]),([4,3],[4]),([5],[5]),([6,5],[5,6]),([7,5],[5,7]),([5,8],[5,8]),([9,5],[9]),([10],[10]),([11,10],[10,11]),([12,10],[10,12]),([10,13],[10,13]),([3,10,0,1,2,3],[3]),([14,15,0,1,2,3,4,5,6,7,8,9,10,11,12,13,14,15],[14])])
def impl_applied.B10:List Nat:=[0,0,2,7,0,31,63,127,255,511,1023,2047,4095,8191,16383,2047,65535]
theorem impl_applied.tab10:rtab .any (opsOf Tryz.f123 10)=impl_applied.T10:=by kernel_rfl
theorem impl_applied.bits10:waitsOk impl_applied.T10.2 impl_applied.B10=true:=by kernel_rfl
theorem impl_applied.calls (k:Nat) (A0:Option Addr) (c0:Nat) (l0:List (S133)) (X:Int) (J:ByteArray) (U:ByteArray) (Y:Int) (r1:List (S133)) (r2:Bool) (w:World) (AT:Kd.C k133 w A0 l0.length l0) (AU:l0.length≤c0) (h:impl_applied.f k l0 X J U Y=some (r1,r2)) :
 Calls Tryz.prog 123 #[.slice A0 l0.length c0,.agg #[.int .i64 X,.string J,.string U,.int .i64 Y]] w fun e w'=>∃AV:Value,e = .returned (.tuple #[AV,.bool r2])∧Kd.R k133 133 w' w.heap.size (fun _=>True) AV r1∧Below w.heap.size w w':=by
 have B5:=Tryz.underlying135;have B6:=Tryz.underlying133;have Ah:=aK AT;have Al:=aK AU;clear AT AU;have HB:=aK (Below.refl w.heap.size w);have H:=h;unfold impl_applied.f at H;clear h;replace H:=oB H;obtain⟨⟨A1,Ai⟩,AW,H⟩:=H
 dsimp only at H;have A3:=aK AW;clear AW;by_cases c4:X=1
 ·rw[if_pos c4]at H;have AI:=bT c4;have AJ:=bE c4;clear c4;obtain⟨Ar,A5,H⟩:=bd H;have Hq_:=aK H;clear H
  go_enter Tryz.func123,Tryz.ntmps123
  (try go_wp2_with (first|((with_reducible refine gD 3 rfl ?_);refine boxZ 3 #[.int .i64 X,.string J,.string U,.int .i64 Y] 135 ?_;intro Z hg AL hbox hb;have D:=aK hbox;have Am:=gW HB hg;replace HB:=bS HB hb;clear hb hbox hg;obtain⟨_,_,_,_,_,_,_,_⟩:=cf4 D)|((with_reducible refine gC 157 rfl ?_);refine goesZ (some 12) rfl Tryz.func157 #[.slice A0 l0.length c0,.string J] ?_;(with_reducible refine(impl_linkAt.calls _ _ l0 J A1 _ _ ?_ ?_ A3.o).mono ?_);exact cB Ah HB;exact Al.o;rintro e Ax ⟨rfl,hb⟩;refine⟨_,rfl,?_⟩;replace D:=bv D hb;replace HB:=bS HB hb;(try clear hb);obtain⟨_,_,_,_,_,_,_,_⟩:=cf4 D)));replace D:=dB D;replace HB:=dW HB;refine start_ (n:=16) (S:=fun w'=>w'.cell? ⟨Z,0,none⟩=some (.int .i64 X)∧w'.cell? ⟨Z,1,none⟩=some (.string J)∧w'.cell? ⟨Z,2,none⟩=some (.string U)∧w'.cell? ⟨Z,3,none⟩=some (.int .i64 Y)) (ds:=[]) (bo 16 0) (by kernel_rfl) rfl rfl ⟨cb 0 D,cb 1 D,cb 2 D,cb 3 D⟩ (fun hHeld=>?_);refine with_tabW impl_applied.tab4 impl_applied.bits4 (fun HT_ HW_=>?_);generalize Ax.drew=B7 at D HB hHeld ⊢;refine pV 0 19 (bo 16 1) ?_;refine pV 1 20 (bo 16 3) ?_;refine pV 3 22 (bo 16 11) ?_;refine pV 7 26 (bo 16 139) ?_;refine pV 8 27 (bo 16 395) ?_;refine tV 2 21 (bo 16 399) ?_;refine tV 4 23 (bo 16 415) ?_
  refine pV 5 24 (bo 16 447) ?_;refine o1 6 25 (bo 16 511) (fun K hK=>?_);refine goes_ Tryz.func170 (by kernel_rfl) rfl #[.slice A0 l0.length c0,.agg #[.string J,.int .i64 Y]] (by rfl) rfl rfl sa ?_;(with_reducible refine(impl_linked.calls _ _ l0 J Y Ar _ ?_ ?_ A5.o).mono ?_);exact cB Ah HB;exact Al.o;rintro e B9 ⟨Bk,rfl,A6,hb⟩;refine⟨_,rfl,?_⟩;have Ay:=rl HB A6;replace D:=bv D hb;replace HB:=bS HB hb;(try clear hb AM hk hi A6);refine hK.out _ _ ⟨cb 0 D,cb 1 D,cb 2 D,cb 3 D⟩ (fun hHeld=>?_);clear hK K;refine nm 25 ?_;refine pV 9 28 (bo 16 1023) ?_;have H:=Hq_.o;clear Hq_;by_cases c6:Ai=true
  ·subst c6;replace H:=iT H;simp only[Option.some.injEq,Prod.mk.injEq]at H;obtain⟨rfl,rfl⟩:=H;refine pU 10 29 (bo 16 2047) ?_;refine pU 11 30 (bo 16 4095) ?_;refine pU 12 31 (bo 16 8191) ?_;refine pV 13 32 (bo 16 16383) ?_;refine pV 14 4 (bo 16 32767) ?_;refine pV 15 5 (bo 16 65535) ?_;refine done_ (done_of HT_.o (by kernel_rfl)) ?_;(try go_wp2)
   go_ret2
   exact⟨_,fe,rpR Ay.o,bl⟩
  ·replace c6:=bF c6;subst c6;replace H:=iF H;simp only[Option.some.injEq,Prod.mk.injEq]at H;obtain⟨rfl,rfl⟩:=H;refine pV 10 29 (bo 16 2047) ?_;refine pV 14 4 (bo 16 18431) ?_;refine tV 11 30 (bo 16 20479) ?_;refine pV 12 31 (bo 16 24575) ?_;refine pV 13 32 (bo 16 32767) ?_;refine pV 15 5 (bo 16 65535) ?_;refine done_ (done_of HT_.o (by kernel_rfl)) ?_;(try go_wp2)
   go_ret2
   exact⟨_,fe,rpR Ay.o,bl⟩
 ·rw[if_neg c4]at H;have AI:=bN c4;have AJ:=bQ c4;by_cases Aj:X=2
  ·rw[if_pos Aj]at H;have Az:=bT Aj;have A_:=bE Aj;clear Aj;have AA:=aK H;clear H
   go_enter Tryz.func123,Tryz.ntmps123
   go_upto_region 6 with(first|((with_reducible refine gD 3 rfl ?_);refine boxZ 3 #[.int .i64 X,.string J,.string U,.int .i64 Y] 135 ?_;intro Z hg AL hbox hb;have D:=aK hbox;have Am:=gW HB hg;replace HB:=bS HB hb;clear hb hbox hg;obtain⟨_,_,_,_,_,_,_,_⟩:=cf4 D)|((with_reducible refine gC 157 rfl ?_);refine goesZ (some 12) rfl Tryz.func157 #[.slice A0 l0.length c0,.string J] ?_;(with_reducible refine(impl_linkAt.calls _ _ l0 J A1 Ai _ ?_ ?_ A3.o).mono ?_);exact cB Ah HB;exact Al.o;rintro e Ax ⟨rfl,hb⟩;refine⟨_,rfl,?_⟩;replace D:=bv D hb;replace HB:=bS HB hb;(try clear hb);obtain⟨_,_,_,_,_,_,_,_⟩:=cf4 D))
   (try simp only[Act.put,List.setIfInBounds_toArray,List.set_cons_zero,List.set_cons_succ])
   go_cut [54] (fun Ba wc=>∃(kq:Nat) (A7:Bool),Ba = .bool A7∧Aside0 (impl_applied.j0 kq l0 A1 A7 X J U Y=some (r1,r2))∧Aside0 (kq≤k)∧Aside0 (wc.heap[Z]? = some (.cells #[.int .i64 X,.string J,.string U,.int .i64 Y] 135 (0,0)))∧Aside0 (Below w.heap.size w wc))
   case first=>
    have H:=AA.o;clear AA;by_cases AB:Ai=true
    ·subst AB;replace H:=iT H;by_cases Ak:Y=0
     ·rw[if_pos Ak]at H;have A4:=bT Ak;have AC:=bE Ak;clear Ak;(first|rw[A4]|(simp only[i64_w,i32_w];rw[A4])|skip);obtain⟨Aw,AX,H⟩:=bd H;by_cases AD:Aw=true
      ·subst AD;replace H:=iT H;have H':=aK H;clear H;obtain⟨_,_,_,_,_,_,_,_⟩:=cf4 D;go_wp2_with (first|(go_at_call 114;(with_reducible refine(impl_nameOk.calls k U _ _ AX.o).mono ?_);rintro e w' ⟨rfl,⟨nd,rfl⟩⟩))
       go_meet
       case rel=>exact⟨_,((U.toList==J.toList)),fa,H',⟨by first|omega|exact Nat.le_refl _⟩,⟨bw D⟩,⟨bl⟩⟩
      ·replace AD:=bF AD;subst AD;replace H:=iF H;have H':=aK H;clear H;obtain⟨_,_,_,_,_,_,_,_⟩:=cf4 D;go_wp2_with (first|(go_at_call 114;(with_reducible refine(impl_nameOk.calls k U _ _ AX.o).mono ?_);rintro e w' ⟨rfl,⟨nd,rfl⟩⟩))
       go_meet
       case rel=>exact⟨_,(true),fa,H',⟨by first|omega|exact Nat.le_refl _⟩,⟨bw D⟩,⟨bl⟩⟩
     ·rw[if_neg Ak]at H;have A4:=bN Ak;have AC:=bQ Ak;(first|rw[A4]|(simp only[i64_w,i32_w];rw[A4])|skip);have H':=aK H;clear H;obtain⟨_,_,_,_,_,_,_,_⟩:=cf4 D;go_wp2
      go_meet
      case rel=>exact⟨_,(true),fa,H',⟨by first|omega|exact Nat.le_refl _⟩,⟨bw D⟩,⟨bl⟩⟩
    ·replace AB:=bF AB;subst AB;replace H:=iF H;have H':=aK H;clear H;go_wp2
     go_meet
     case rel=>exact⟨_,(true),fa,H',⟨by first|omega|exact Nat.le_refl _⟩,⟨bw D⟩,⟨bl⟩⟩
   case rest=>
    clear AA;(try clear c1);(try clear c2);(try clear p2);(try clear c4);(try clear AI);(try clear AJ);(try clear c6);(try clear Bo);(try clear Bp);(try clear Bq);(try clear Aj);(try clear Az);(try clear A_);(try clear AB);(try clear Ak);(try clear A4);(try clear AC);(try clear AD);obtain⟨kq,A7,rfl,HA,Bl,D,HB⟩:=hcut;cases kq with
    |zero=>exact absurd HA.o (by simp[impl_applied.j0])
    |succ Bm=>
     have H:=HA.o;clear HA;simp only[impl_applied.j0]at H;by_cases AE:A7=true
     ·subst AE;replace H:=iT H;simp only[Option.some.injEq,Prod.mk.injEq]at H;obtain⟨rfl,rfl⟩:=H;go_wp2
      go_ret2
      exact⟨_,fe,by first|exact Kd.R_nil _ _ _ _ _|exact Kd.N_nil _ _ _ _ _|exact Kd.V_nil _ _ _ _ _|exact Kd.Q_nil _ _ _ _ _|exact Kd.S_nil _ _ _ _ _,bl⟩
     ·replace AE:=bF AE;subst AE;replace H:=iF H;obtain⟨Af,Bb,H⟩:=bd H;by_cases AF:0≤A1
      ·rw[if_pos AF]at H;have Bc:=dt AF;clear AF;by_cases AG:A1<(l0.length:Int)
       ·rw[if_pos AG]at H;have Bd:=dt AG;clear AG;obtain⟨Av,Be,H⟩:=bd H;simp only[Option.some.injEq,Prod.mk.injEq]at H;obtain⟨rfl,rfl⟩:=H;(try go_wp2);replace D:=dB D;replace HB:=dW HB;have AN:0≤(A1:Int):=dT am;have AO:A1<(l0.length:Int):=dT am;obtain⟨As,Bf,A8,A9⟩:=at_T133 Ah.o A1 AN AO;have Ad:=A9;have Ae:=A8;cases Bf;replace A8:=cz HB A8;replace A9:=cz HB A9;replace AN:=eq_true AN;replace AO:=eq_true AO;refine start_ (n:=15) (S:=fun w'=>w'.cell? ⟨Z,0,none⟩=some (.int .i64 X)∧w'.cell? ⟨Z,1,none⟩=some (.string J)∧w'.cell? ⟨Z,2,none⟩=some (.string U)∧w'.cell? ⟨Z,3,none⟩=some (.int .i64 Y)∧w'.cell? (As.add ((A1).toNat*2))=some (.string ((rd_T133 l0 A1).f0))∧w'.cell? ⟨(As.add ((A1).toNat*2)).block,(As.add ((A1).toNat*2)).off+1,none⟩=some (.int .i64 ((rd_T133 l0 A1).f1))) (ds:=[]) (bo 15 0) (by kernel_rfl) rfl rfl ⟨cb 0 D,cb 1 D,cb 2 D,cb 3 D,(cy HB Ae),(cy HB Ad)⟩ (fun hHeld=>?_);refine with_tabW impl_applied.tab8 impl_applied.bits8 (fun HT_ HW_=>?_);generalize wc.drew=Br at D HB A8 A9 hHeld ⊢;refine pV 0 55 (bo 15 1) ?_;refine pV 1 56 (bo 15 3) ?_;refine pV 4 59 (bo 15 19) ?_;refine pV 6 61 (bo 15 83) ?_
        refine pV 7 62 (bo 15 211) ?_;refine pV 8 63 (bo 15 467) ?_;refine pV 9 64 (bo 15 979) ?_;refine tV 2 57 (bo 15 983) ?_;refine tV 5 60 (bo 15 1015) ?_;refine tV 10 65 (bo 15 2039) ?_;refine pV 11 66 (bo 15 4087) ?_;refine o1 3 58 (bo 15 4095) (fun K hK=>?_);refine goes_ Tryz.func171 (by kernel_rfl) rfl #[.slice (some As) l0.length c0,.string J] (by rfl) rfl rfl sa ?_;(with_reducible refine(impl_unlinked.calls _ _ l0 J Af _ ?_ ?_ Bb.o).mono ?_);exact cB Ah HB;exact Al.o;rintro e Bs ⟨Bt,rfl,A6,hb⟩;refine⟨_,rfl,?_⟩;have Ac:=rl HB A6;replace D:=bv D hb;replace HB:=bS HB hb;(try clear hb AM hk hi A6);obtain⟨AY,AZ,AK⟩:=rs Ac;(first|subst AK|(injection AK with B0 Bg B1;have Bh:=B0.symm;have Bi:=B1.symm;clear B0 Bg B1;subst Bh;subst Bi));refine hK.out _ _ ⟨cb 0 D,cb 1 D,cb 2 D,cb 3 D,(cy HB Ae),(cy HB Ad)⟩ (fun hHeld=>?_);clear hK K;refine nm 58 ?_;refine o1 12 67 (bo 15 8191) (fun K hK=>?_);refine goes_ Tryz.func170 (by kernel_rfl) rfl #[.slice AY Af.length AZ,.agg #[.string U,.int .i64 ((rd_T133 l0 A1).f1)]] (by rfl) rfl rfl sa ?_;(with_reducible refine(impl_linked.calls _ _ Af U ((rd_T133 l0 A1).f1) Av _ ?_ ?_ Be.o).mono ?_);exact ca (cR Ac.o);exact cl Ac;rintro e Bu ⟨Bv,rfl,A6,hb⟩;refine⟨_,rfl,?_⟩;have B2:=rl HB (Kd.R_new' A6 (Kd.R_lt (rpR Ac.o)));replace Ac:=re Ac.o A6 hb
        replace D:=bv D hb;replace HB:=bS HB hb;(try clear hb AM hk hi A6);refine hK.out _ _ ⟨cb 0 D,cb 1 D,cb 2 D,cb 3 D,(cy HB Ae),(cy HB Ad)⟩ (fun hHeld=>?_);clear hK K;refine nm 67 ?_;refine pV 13 4 (bo 15 16383) ?_;refine pV 14 5 (bo 15 32767) ?_;refine done_ (done_of HT_.o (by kernel_rfl)) ?_;(try go_wp2)
        go_ret2
        exact⟨_,fe,rpR (rM B2.o (fun _ hk=>trivial)),bl⟩
       ·rw[if_neg AG]at H;exact absurd H (by simp)
      ·rw[if_neg AF]at H;exact absurd H (by simp)
  ·rw[if_neg Aj]at H;have Az:=bN Aj;have A_:=bQ Aj;by_cases An:X=3
   ·rw[if_pos An]at H;have AP:=bT An;have AQ:=bE An;clear An;obtain⟨Ag,Bj,H⟩:=bd H;have Hq_:=aK H;clear H
    go_enter Tryz.func123,Tryz.ntmps123
    (try go_wp2_with (first|((with_reducible refine gD 3 rfl ?_);refine boxZ 3 #[.int .i64 X,.string J,.string U,.int .i64 Y] 135 ?_;intro Z hg AL hbox hb;have D:=aK hbox;have Am:=gW HB hg;replace HB:=bS HB hb;clear hb hbox hg;obtain⟨_,_,_,_,_,_,_,_⟩:=cf4 D)|((with_reducible refine gC 157 rfl ?_);refine goesZ (some 12) rfl Tryz.func157 #[.slice A0 l0.length c0,.string J] ?_;(with_reducible refine(impl_linkAt.calls _ _ l0 J A1 _ _ ?_ ?_ A3.o).mono ?_);exact cB Ah HB;exact Al.o;rintro e Ax ⟨rfl,hb⟩;refine⟨_,rfl,?_⟩;replace D:=bv D hb;replace HB:=bS HB hb;(try clear hb);obtain⟨_,_,_,_,_,_,_,_⟩:=cf4 D)));replace D:=dB D;replace HB:=dW HB;refine start_ (n:=17) (S:=fun w'=>w'.cell? ⟨Z,0,none⟩=some (.int .i64 X)∧w'.cell? ⟨Z,1,none⟩=some (.string J)∧w'.cell? ⟨Z,2,none⟩=some (.string U)∧w'.cell? ⟨Z,3,none⟩=some (.int .i64 Y)) (ds:=[]) (bo 17 0) (by kernel_rfl) rfl rfl ⟨cb 0 D,cb 1 D,cb 2 D,cb 3 D⟩ (fun hHeld=>?_);refine with_tabW impl_applied.tab10 impl_applied.bits10 (fun HT_ HW_=>?_);generalize Ax.drew=B7 at D HB hHeld ⊢;refine pV 0 70 (bo 17 1) ?_;refine pV 1 71 (bo 17 3) ?_;refine pV 4 74 (bo 17 19) ?_;refine tV 2 72 (bo 17 23) ?_;refine o1 3 73 (bo 17 31) (fun K hK=>?_)
    refine goes_ Tryz.func171 (by kernel_rfl) rfl #[.slice A0 l0.length c0,.string J] (by rfl) rfl rfl sa ?_;(with_reducible refine(impl_unlinked.calls _ _ l0 J Ag _ ?_ ?_ Bj.o).mono ?_);exact cB Ah HB;exact Al.o;rintro e B9 ⟨Bn,rfl,A6,hb⟩;refine⟨_,rfl,?_⟩;have Ao:=rl HB A6;replace D:=bv D hb;replace HB:=bS HB hb;(try clear hb AM hk hi A6);refine hK.out _ _ ⟨cb 0 D,cb 1 D,cb 2 D,cb 3 D⟩ (fun hHeld=>?_);clear hK K;refine nm 73 ?_;refine pV 5 75 (bo 17 63) ?_;have H:=Hq_.o;clear Hq_;by_cases AH:Ai=true
    ·subst AH;replace H:=iT H;have Hq_:=aK H;clear H;refine pV 6 76 (bo 17 127) ?_;refine tV 7 77 (bo 17 255) ?_;refine pV 8 78 (bo 17 511) ?_;refine pV 9 79 (bo 17 1023) ?_;refine pV 10 80 (bo 17 2047) ?_;have H:=Hq_.o;clear Hq_;by_cases Ap:U.toList=([]:List UInt8)
     ·rw[if_pos Ap]at H;have Aa:=bT Ap;(try rw[Aa]);have Ab:=Aa;simp only[show ∀l_:List UInt8,(l_ == [])=l_.isEmpty from fun l_=>by cases l_<;>rfl]at Ab;(try rw[Ab]);have Aq:=bE Ap;(try rw[Aq]);clear Ap;simp only[Option.some.injEq,Prod.mk.injEq]at H;obtain⟨rfl,rfl⟩:=H;refine pV 11 81 (bo 17 4095) ?_;refine pV 15 4 (bo 17 36863) ?_;refine tV 12 82 (bo 17 40959) ?_;refine pV 13 83 (bo 17 49151) ?_;refine pV 14 84 (bo 17 65535) ?_;refine pV 16 5 (bo 17 131071) ?_;refine done_ (done_of HT_.o (by kernel_rfl)) ?_;(try go_wp2)
      go_ret2
      exact⟨_,fe,rpR Ao.o,bl⟩
     ·rw[if_neg Ap]at H;have Aa:=bN Ap;(try rw[Aa]);have Ab:=Aa;simp only[show ∀l_:List UInt8,(l_ == [])=l_.isEmpty from fun l_=>by cases l_<;>rfl]at Ab;(try rw[Ab]);have Aq:=bQ Ap;(try rw[Aq]);simp only[Option.some.injEq,Prod.mk.injEq]at H;obtain⟨rfl,rfl⟩:=H;refine pU 11 81 (bo 17 4095) ?_;refine pU 12 82 (bo 17 8191) ?_;refine pU 13 83 (bo 17 16383) ?_;refine pV 14 84 (bo 17 32767) ?_;refine pV 15 4 (bo 17 65535) ?_;refine pV 16 5 (bo 17 131071) ?_;refine done_ (done_of HT_.o (by kernel_rfl)) ?_;(try go_wp2)
      go_ret2
      exact⟨_,fe,rpR Ao.o,bl⟩
    ·replace AH:=bF AH;subst AH;replace H:=iF H;simp only[Option.some.injEq,Prod.mk.injEq]at H;obtain⟨rfl,rfl⟩:=H;refine pU 6 76 (bo 17 127) ?_;refine pU 7 77 (bo 17 255) ?_;refine pU 8 78 (bo 17 511) ?_;refine pV 9 79 (bo 17 1023) ?_;refine pV 10 80 (bo 17 2047) ?_;refine pU 11 81 (bo 17 4095) ?_;refine pU 12 82 (bo 17 8191) ?_;refine pU 13 83 (bo 17 16383) ?_;refine pV 14 84 (bo 17 32767) ?_;refine pV 15 4 (bo 17 65535) ?_;refine pV 16 5 (bo 17 131071) ?_;refine done_ (done_of HT_.o (by kernel_rfl)) ?_;(try go_wp2)
     go_ret2
     exact⟨_,fe,rpR Ao.o,bl⟩
   ·rw[if_neg An]at H;have AP:=bN An;have AQ:=bQ An;simp only[Option.some.injEq,Prod.mk.injEq]at H;obtain⟨rfl,rfl⟩:=H
    go_enter Tryz.func123,Tryz.ntmps123
    go_wp2_with (first|((with_reducible refine gD 3 rfl ?_);refine boxZ 3 #[.int .i64 X,.string J,.string U,.int .i64 Y] 135 ?_;intro Z hg AL hbox hb;have D:=aK hbox;have Am:=gW HB hg;replace HB:=bS HB hb;clear hb hbox hg;obtain⟨_,_,_,_,_,_,_,_⟩:=cf4 D)|((with_reducible refine gC 157 rfl ?_);refine goesZ (some 12) rfl Tryz.func157 #[.slice A0 l0.length c0,.string J] ?_;(with_reducible refine(impl_linkAt.calls _ _ l0 J A1 Ai _ ?_ ?_ A3.o).mono ?_);exact cB Ah HB;exact Al.o;rintro e Ax ⟨rfl,hb⟩;refine⟨_,rfl,?_⟩;replace D:=bv D hb;replace HB:=bS HB hb;(try clear hb);obtain⟨_,_,_,_,_,_,_,_⟩:=cf4 D))
    go_ret2
    exact⟨_,fe,by first|exact Kd.R_nil _ _ _ _ _|exact Kd.N_nil _ _ _ _ _|exact Kd.V_nil _ _ _ _ _|exact Kd.Q_nil _ _ _ _ _|exact Kd.S_nil _ _ _ _ _,bl⟩
end Go.Proofs.YtndbmllnkjngnaaGreat.PDs
