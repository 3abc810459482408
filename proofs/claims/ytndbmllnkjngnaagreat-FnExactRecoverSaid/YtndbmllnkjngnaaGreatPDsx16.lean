/- Functions of the program, each with its contract, written by a program out of the translation. -/
import Derived.Test.YtndbmllnkjngnaaGreatPDsx0
import Derived.Test.YtndbmllnkjngnaaGreatZip
import Derived.Test.YtndbmllnkjngnaaGreatPDsx12
namespace Go.Proofs.YtndbmllnkjngnaaGreat.PDs
open Go.RowKit Go.Proofs.YtndbmllnkjngnaaGreatW.PrintWords Go.Proofs.YtndbmllnkjngnaaGreatW.PrintLast Go.Proofs.YtndbmllnkjngnaaGreatW.PrintMore Go.Proofs.YtndbmllnkjngnaaGreat.Zip
attribute [local go_sem] max2_int min2_int max_two min_two max_three min_three max_four min_four
set_option linter.unusedVariables false
set_option linter.unusedSimpArgs false
set_option maxHeartbeats 8000000
set_option maxRecDepth 100000
def impl_from.f (J:Int) (a1:Int) (a2:Int):Option (Bool):=if J≥a1 then(some (decide (J≤a2)))else(some false)
theorem impl_from.calls (J:Int) (a1:Int) (a2:Int) (r:Bool) (w:World) (h:impl_from.f J a1 a2=some r) :
 Calls Tryz.prog 119 #[.int .i64 J,.int .i64 a1,.int .i64 a2] w fun e w'=>e = .returned (.bool r)∧Drawn0 w w':=by
 have H:=h;unfold impl_from.f at H;clear h;by_cases c4:J≥a1
 ·rw[if_pos c4]at H;have Al:=dt c4;clear c4;obtain rfl:=oj H
  go_enter Tryz.func119,Tryz.ntmps119
  go_wp2
  go_ret
  exact⟨fa,fd⟩
 ·rw[if_neg c4]at H;have Al:=df c4;clear c4;obtain rfl:=oj H
  go_enter Tryz.func119,Tryz.ntmps119
  go_wp2
  go_ret
  exact⟨fa,fd⟩
def impl_nameOk.l0:Nat→ByteArray→Int→Int→Option (Bool)
 | 0,_,_,_=>none
 |k+1,Y,x5,X=>if X<x5 then(if 0≤X then(if X<(Y.size:Int)then(if(bt Y X)<97 then(if(bt Y X)<48 then(if(bt Y X)=46 then(impl_nameOk.l0 k Y x5 (wrap64 (X+1)))else(some false))else(if(bt Y X)>57 then(if(bt Y X)=46 then(impl_nameOk.l0 k Y x5 (wrap64 (X+1)))else(some false))else(impl_nameOk.l0 k Y x5 (wrap64 (X+1)))))else(if(bt Y X)>122 then(if(bt Y X)<48 then(if(bt Y X)=46 then(impl_nameOk.l0 k Y x5 (wrap64 (X+1)))else(some false))else(if(bt Y X)>57 then(if(bt Y X)=46 then(impl_nameOk.l0 k Y x5 (wrap64 (X+1)))else(some false))else(impl_nameOk.l0 k Y x5 (wrap64 (X+1)))))else(impl_nameOk.l0 k Y x5 (wrap64 (X+1)))))else(none))else(none))else((impl_from.f (Y.size:Int) 1 12).bind fun Ai=>(some Ai))
def impl_nameOk.f (k:Nat) (J:ByteArray):Option (Bool):=impl_nameOk.l0 k J (J.size:Int) 0
theorem impl_nameOk.calls (k:Nat) (J:ByteArray) (r:Bool) (w:World) (h:impl_nameOk.f k J=some r) :
 Calls Tryz.prog 114 #[.string J] w fun e w'=>e = .returned (.bool r)∧Drawn0 w w':=by
 have H:=h;unfold impl_nameOk.f at H;clear h;have H':=aK H;clear H
 go_enter Tryz.func114,Tryz.ntmps114
 go_wp2
 go_loopg [6] k (fun kq v6 w'=>∃(D:Int),v6 = .int .i64 D∧Aside0 (impl_nameOk.l0 kq J (J.size:Int) D=some r)∧Aside0 (kq≤k)∧Drawn0 w w')
 case atStart=>exact⟨(0),fa,H',⟨Nat.le_refl _⟩,fd⟩
 case round=>
  clear H';obtain⟨D,rfl,HA,U,⟨m1,rfl⟩⟩:=hrel;cases gk with
  |zero=>exact absurd HA.o (by simp[impl_nameOk.l0])
  |succ k1=>
   have H:=HA.o;clear HA;simp only[impl_nameOk.l0]at H;by_cases c2:D<(J.size:Int)
   ·rw[if_pos c2]at H;have Am:=dt c2;clear c2;by_cases c3:0≤D
    ·rw[if_pos c3]at H;have AB:=dt c3;clear c3;by_cases c4:D<(J.size:Int)
     ·rw[if_pos c4]at H;have Al:=dt c4;clear c4;have Hq_:=aK H;clear H;have p5:0≤(D:Int):=dT am;have q5:D<(J.size:Int):=dT am;have AJ:=bt_at J D;replace p5:=eq_true p5;replace q5:=eq_true q5;have H:=Hq_.o;clear Hq_;by_cases c6:(bt J D)<97
      ·rw[if_pos c6]at H;have Aj:=dt c6;(try rw[Aj]);clear c6;have Hq_:=aK H;clear H;have p7:0≤(D:Int):=dT am;have q7:D<(J.size:Int):=dT am;have AK:=bt_at J D;replace p7:=eq_true p7;replace q7:=eq_true q7;have H:=Hq_.o;clear Hq_;by_cases c8:(bt J D)<48
       ·rw[if_pos c8]at H;have Ak:=dt c8;(try rw[Ak]);clear c8;have Hq_:=aK H;clear H;have p9:0≤(D:Int):=dT am;have q9:D<(J.size:Int):=dT am;have AL:=bt_at J D;replace p9:=eq_true p9;replace q9:=eq_true q9;have H:=Hq_.o;clear Hq_;by_cases c10:(bt J D)=46
        ·rw[if_pos c10]at H;have Z:=bT c10;(try rw[Z]);have A0:=bE c10;(try rw[A0]);clear c10;have H':=aK H;clear H;go_wp2
         go_roundg k1
         case measure=>have:=U.o;omega
         case rel=>exact⟨(wrap64 (D+1)),fa,H',⟨by have:=U.o;omega⟩,fd⟩
        ·rw[if_neg c10]at H;have Z:=bN c10;(try rw[Z]);have A0:=bQ c10;(try rw[A0]);obtain rfl:=oj H;go_wp2
         go_ret
         exact⟨fa,fd⟩
       ·rw[if_neg c8]at H;have Ak:=df c8;(try rw[Ak]);clear c8;have Hq_:=aK H;clear H;have An:0≤(D:Int):=dT am;have Ao:D<(J.size:Int):=dT am;have AC:=bt_at J D;replace An:=eq_true An;replace Ao:=eq_true Ao;have H:=Hq_.o;clear Hq_;by_cases Ae:(bt J D)>57
        ·rw[if_pos Ae]at H;have A1:=dt Ae;(try rw[A1]);clear Ae;have Hq_:=aK H;clear H;have Ap:0≤(D:Int):=dT am;have Aq:D<(J.size:Int):=dT am;have AD:=bt_at J D;replace Ap:=eq_true Ap;replace Aq:=eq_true Aq;have H:=Hq_.o;clear Hq_;by_cases A2:(bt J D)=46
         ·rw[if_pos A2]at H;have A3:=bT A2;(try rw[A3]);have A4:=bE A2;(try rw[A4]);clear A2;have H':=aK H;clear H;go_wp2
          go_roundg k1
          case measure=>have:=U.o;omega
          case rel=>exact⟨(wrap64 (D+1)),fa,H',⟨by have:=U.o;omega⟩,fd⟩
         ·rw[if_neg A2]at H;have A3:=bN A2;(try rw[A3]);have A4:=bQ A2;(try rw[A4]);obtain rfl:=oj H;go_wp2
          go_ret
          exact⟨fa,fd⟩
        ·rw[if_neg Ae]at H;have A1:=df Ae;(try rw[A1]);clear Ae;have H':=aK H;clear H;go_wp2
         go_roundg k1
         case measure=>have:=U.o;omega
         case rel=>exact⟨(wrap64 (D+1)),fa,H',⟨by have:=U.o;omega⟩,fd⟩
      ·rw[if_neg c6]at H;have Aj:=df c6;(try rw[Aj]);clear c6;have Hq_:=aK H;clear H;have Ar:0≤(D:Int):=dT am;have As:D<(J.size:Int):=dT am;have AE:=bt_at J D;replace Ar:=eq_true Ar;replace As:=eq_true As;have H:=Hq_.o;clear Hq_;by_cases Af:(bt J D)>122
       ·rw[if_pos Af]at H;have A5:=dt Af;(try rw[A5]);clear Af;have Hq_:=aK H;clear H;have At:0≤(D:Int):=dT am;have Au:D<(J.size:Int):=dT am;have AF:=bt_at J D;replace At:=eq_true At;replace Au:=eq_true Au;have H:=Hq_.o;clear Hq_;by_cases Ag:(bt J D)<48
        ·rw[if_pos Ag]at H;have A6:=dt Ag;(try rw[A6]);clear Ag;have Hq_:=aK H;clear H;have Av:0≤(D:Int):=dT am;have Aw:D<(J.size:Int):=dT am;have AG:=bt_at J D;replace Av:=eq_true Av;replace Aw:=eq_true Aw;have H:=Hq_.o;clear Hq_;by_cases A7:(bt J D)=46
         ·rw[if_pos A7]at H;have A8:=bT A7;(try rw[A8]);have A9:=bE A7;(try rw[A9]);clear A7;have H':=aK H;clear H;go_wp2
          go_roundg k1
          case measure=>have:=U.o;omega
          case rel=>exact⟨(wrap64 (D+1)),fa,H',⟨by have:=U.o;omega⟩,fd⟩
         ·rw[if_neg A7]at H;have A8:=bN A7;(try rw[A8]);have A9:=bQ A7;(try rw[A9]);obtain rfl:=oj H;go_wp2
          go_ret
          exact⟨fa,fd⟩
        ·rw[if_neg Ag]at H;have A6:=df Ag;(try rw[A6]);clear Ag;have Hq_:=aK H;clear H;have Ax:0≤(D:Int):=dT am;have Ay:D<(J.size:Int):=dT am;have AH:=bt_at J D;replace Ax:=eq_true Ax;replace Ay:=eq_true Ay;have H:=Hq_.o;clear Hq_;by_cases Ah:(bt J D)>57
         ·rw[if_pos Ah]at H;have Aa:=dt Ah;(try rw[Aa]);clear Ah;have Hq_:=aK H;clear H;have Az:0≤(D:Int):=dT am;have A_:D<(J.size:Int):=dT am;have AI:=bt_at J D;replace Az:=eq_true Az;replace A_:=eq_true A_;have H:=Hq_.o;clear Hq_;by_cases Ab:(bt J D)=46
          ·rw[if_pos Ab]at H;have Ac:=bT Ab;(try rw[Ac]);have Ad:=bE Ab;(try rw[Ad]);clear Ab;have H':=aK H;clear H;go_wp2
           go_roundg k1
           case measure=>have:=U.o;omega
           case rel=>exact⟨(wrap64 (D+1)),fa,H',⟨by have:=U.o;omega⟩,fd⟩
          ·rw[if_neg Ab]at H;have Ac:=bN Ab;(try rw[Ac]);have Ad:=bQ Ab;(try rw[Ad]);obtain rfl:=oj H;go_wp2
           go_ret
           exact⟨fa,fd⟩
         ·rw[if_neg Ah]at H;have Aa:=df Ah;(try rw[Aa]);clear Ah;have H':=aK H;clear H;go_wp2
          go_roundg k1
          case measure=>have:=U.o;omega
          case rel=>exact⟨(wrap64 (D+1)),fa,H',⟨by have:=U.o;omega⟩,fd⟩
       ·rw[if_neg Af]at H;have A5:=df Af;(try rw[A5]);clear Af;have H':=aK H;clear H;go_wp2
        go_roundg k1
        case measure=>have:=U.o;omega
        case rel=>exact⟨(wrap64 (D+1)),fa,H',⟨by have:=U.o;omega⟩,fd⟩
     ·exact no c4 H
    ·exact no c3 H
   ·rw[if_neg c2]at H;have Am:=df c2;clear c2;obtain⟨Ai,AA,H⟩:=bd H;obtain rfl:=oj H;go_wp2_with (first|((with_reducible refine gc 119 ?_);refine goesW Tryz.func119 ?_;(with_reducible refine mo (impl_from.calls (J.size:Int) 1 12 Ai _ AA.o) ?_);rintro _ ⟨nd,rfl⟩))
    go_ret
    exact⟨fa,fd⟩
def impl_inodesOk.l0:Nat→Int→List (S130)→Int→Int→Int→Int→List (S130)→List (S133)→List (S135)→Option (Bool)
 | 0,_,_,_,_,_,_,_,_,_=>none
 |k+1,x3,x7,x8,x9,Ac,Ad,A5,Am,An=>if x9<x8 then(if 0≤x9 then(if x9<(x7.length:Int)then((impl_from.f ((rd_T130 x7 x9).f0) 1 (wrap64 (Ad-1))).bind fun Av=>(if Av=true then(if x9>0 then(if 0≤(wrap64 (x9-1))then(if(wrap64 (x9-1))<(A5.length:Int)then(if((rd_T130 A5 (wrap64 (x9-1))).f0)≥((rd_T130 x7 x9).f0)then(some false)else((impl_from.f ((rd_T130 x7 x9).f2) 0 (((rd_T130 x7 x9).f1).size:Int)).bind fun Aw=>(if Aw=true then(impl_inodesOk.l0 k (wrap64 (x3+(((rd_T130 x7 x9).f1).size:Int))) x7 x8 (wrap64 (x9+1)) Ac Ad A5 Am An)else(some false))))else(none))else(none))else((impl_from.f ((rd_T130 x7 x9).f2) 0 (((rd_T130 x7 x9).f1).size:Int)).bind fun Ax=>(if Ax=true then(impl_inodesOk.l0 k (wrap64 (x3+(((rd_T130 x7 x9).f1).size:Int))) x7 x8 (wrap64 (x9+1)) Ac Ad A5 Am An)else(some false))))else(some false)))else(none))else(none))else(if(A5.length:Int)≤10 then(some (decide (x3≤Ac)))else(some false))
def impl_inodesOk.f (k:Nat) (A6:Int) (A2:Int) (D:List (S130)) (A3:List (S133)) (A4:List (S135)):Option (Bool):=impl_inodesOk.l0 k 0 D (D.length:Int) 0 A6 A2 D A3 A4
def impl_inodesOk.T5:Bool×List (List Nat×List Nat):=(true,[([],[]),([0],[0]),([],[]),([2],[2]),([3],[3]),([1,4],[1,4]),([5],[5]),([6,5],[6]),([7],[7]),([8,7],[7,8]),([9,7,7],[7,9]),([10],[10]),([11,10],[10,11]),([10],[10]),([13,10],[10,13]),([12,14,10],[10,12,14]),([15,10],[10,15]),([16,10],[10,16]),([10],[10]),([18,10],[10,18]),([17,19,10],[10,17,19]),([10,20,7],[7,10,20]),([7,21],[7,21]),([22,10],[22]),([23],[23]),([24,23],[23,24]),([23],[23]),([26,23],[23,26]),([27,23],[23,27]),([25,28,23,23],[23,25,28]),([29,23],[23,29]),([23,30],[23,30])])
def impl_inodesOk.B5:List Nat:=[0,1,0,4,12,31,63,127,255,511,1023,2047,4095,2047,10239,32767,65535,131071,2047,264191,1048575,2097151,4194303,8388607,16777215,33554431,16777215,83886079,218103807,536870911,1073741823,2147483647]
theorem impl_inodesOk.tab5:rtab .any (opsOf Tryz.f120 5)=impl_inodesOk.T5:=by kernel_rfl
theorem impl_inodesOk.bits5:waitsOk impl_inodesOk.T5.2 impl_inodesOk.B5=true:=by kernel_rfl
theorem impl_inodesOk.calls (k:Nat) (A6:Int) (A2:Int) (Ay:Option Addr) (Ae:Nat) (D:List (S130)) (Af:Option Addr) (Ag:Nat) (A3:List (S133)) (Ah:Option Addr) (Ai:Nat) (A4:List (S135)) (r:Bool) (w:World) (Az:Kd.C k130 w Ay D.length D) (A_:D.length≤Ae) (AA:Kd.C k133 w Af A3.length A3) (AB:A3.length≤Ag) (AC:Kd.C k135 w Ah A4.length A4) (AD:A4.length≤Ai) (h:impl_inodesOk.f k A6 A2 D A3 A4=some r) :
 Calls Tryz.prog 120 #[.agg #[.int .i64 A6,.int .i64 A2,.slice Ay D.length Ae,.slice Af A3.length Ag,.slice Ah A4.length Ai]] w fun e w'=>e = .returned (.bool r)∧Below w.heap.size w w':=by
 have Bh:=Tryz.underlying35;have B7:=Tryz.underlying130;have AE:=aK Az;have B8:=aK A_;clear Az A_;have B9:=aK AA;have Ba:=aK AB;clear AA AB;have Bb:=aK AC;have Bc:=aK AD;clear AC AD;have HB:=aK (Below.refl w.heap.size w);have H:=h;unfold impl_inodesOk.f at H;clear h;have H':=aK H;clear H
 go_enter Tryz.func120,Tryz.ntmps120
 go_wp2_with (first|((with_reducible refine gd 1 ?_);(try (refine gate_guard rfl ?_;dsimp only));refine boxQ HB ?_;clear HB;intro Z hg w2 U Bd HB hb;clear hb hg;have:=cf5 U))
 go_loopg [3,9] k (fun kq v3 v9 w'=>∃(Ao:Int) (J:Int),v3 = .int .i64 Ao∧v9 = .int .i64 J∧Aside0 (impl_inodesOk.l0 kq Ao D (D.length:Int) J A6 A2 D A3 A4=some r)∧Aside0 (kq≤k)∧Aside0 (w'.heap[Z]? = some (.cells #[.int .i64 A6,.int .i64 A2,(.slice Ay D.length Ae),(.slice Af A3.length Ag),(.slice Ah A4.length Ai)] 35 (0,0)))∧Aside0 (Below w.heap.size w w'))
 case atStart=>exact⟨(0),(0),fa,fa,H',⟨Nat.le_refl _⟩,⟨bw U⟩,⟨bl⟩⟩
 case round=>
  clear H';obtain⟨Ao,J,rfl,rfl,HA,AK,U,HB⟩:=hrel;cases gk with
  |zero=>exact absurd HA.o (by simp[impl_inodesOk.l0])
  |succ k1=>
   have H:=HA.o;clear HA;simp only[impl_inodesOk.l0]at H;by_cases c4:J<(D.length:Int)
   ·rw[if_pos c4]at H;have B1:=dt c4;clear c4;by_cases c5:0≤J
    ·rw[if_pos c5]at H;have Bi:=dt c5;clear c5;by_cases c6:J<(D.length:Int)
     ·rw[if_pos c6]at H;have Bj:=dt c6;clear c6;obtain⟨Av,A7,H⟩:=bd H;have Hq_:=aK H;clear H;have AF:0≤(J:Int):=dT am;have AG:J<(D.length:Int):=dT am;obtain⟨A1,B2,Ap,Aq,Ar⟩:=at_T130 AE.o J AF AG;cases B2;replace Ap:=cz HB Ap;replace Aq:=cz HB Aq;replace Ar:=cz HB Ar;replace AF:=eq_true AF;replace AG:=eq_true AG;(try go_wp2_with (first|((with_reducible refine gd 5 ?_);(try (refine gate_guard rfl ?_;dsimp only));refine boxQ HB ?_;clear HB;intro X hg AL Y Be HB hb;have AQ:=nL U hg;have AR:=nR U hg;replace U:=bv U hb;clear hb hg;have:=cf3 Y)));have AS:Aside0 ((((AL.setCell ⟨X,0,none⟩ (.int .i64 ((rd_T130 D J).f0))).setCell ⟨X,1,none⟩ (.string ((rd_T130 D J).f1))).setCell ⟨X,2,none⟩ (.int .i64 ((rd_T130 D J).f2))).heap[Z]? = some (.cells #[.int .i64 A6,.int .i64 A2,.slice (some A1) D.length Ae,.slice Af A3.length Ag,.slice Ah A4.length Ai] 35 (0,0))):=⟨bkk⟩
      have AT:Aside0 ((((AL.setCell ⟨X,0,none⟩ (.int .i64 ((rd_T130 D J).f0))).setCell ⟨X,1,none⟩ (.string ((rd_T130 D J).f1))).setCell ⟨X,2,none⟩ (.int .i64 ((rd_T130 D J).f2))).heap[X]? = some (.cells #[.int .i64 ((rd_T130 D J).f0),.string ((rd_T130 D J).f1),.int .i64 ((rd_T130 D J).f2)] 130 (0,0))):=⟨bkk⟩;have AU:Aside0 (Below w.heap.size w (((AL.setCell ⟨X,0,none⟩ (.int .i64 ((rd_T130 D J).f0))).setCell ⟨X,1,none⟩ (.string ((rd_T130 D J).f1))).setCell ⟨X,2,none⟩ (.int .i64 ((rd_T130 D J).f2)))):=⟨bl⟩;generalize (((AL.setCell ⟨X,0,none⟩ (.int .i64 ((rd_T130 D J).f0))).setCell ⟨X,1,none⟩ (.string ((rd_T130 D J).f1))).setCell ⟨X,2,none⟩ (.int .i64 ((rd_T130 D J).f2)))=AV at AS AT AU ⊢;have U:=AS;have Y:=AT;have HB:=AU;clear AS AT AU;replace U:=dB U;replace Y:=dB Y;replace HB:=dW HB;have H:=Hq_.o;clear Hq_;by_cases c8:Av=true
      ·subst c8;replace H:=iT H;by_cases c9:J>0
       ·rw[if_pos c9]at H;have AH:=dt c9;(try rw[AH]);clear c9;obtain⟨A0,Ab⟩:∃j_:Int,(wrap64 (J-1))=j_:=⟨_,rfl⟩;(first|rw[Ab]at H|simp only[Ab]at H)
        (try rw[Ab]at A7);have B6:(IntKind.i64.wrap (J-1))=A0:=(i64_w _).trans Ab;by_cases AM:0≤(A0)
        ·rw[if_pos AM]at H;have AW:=dt AM;(try rw[AW]);clear AM;by_cases AN:(A0)<(D.length:Int)
         ·rw[if_pos AN]at H;have AX:=dt AN;(try rw[AX]);clear AN;have Hq_:=aK H;clear H;have AI:0≤((A0):Int):=dT am;have AJ:(A0)<(D.length:Int):=dT am;obtain⟨AY,B3,A8,A9,Aa⟩:=at_T130 AE.o (A0) AI AJ;have Aj:=Aa;have Ak:=A9;have Al:=A8;obtain rfl:A1=AY:=(by injection B3);replace A8:=cz HB A8;replace A9:=cz HB A9;replace Aa:=cz HB Aa;replace AI:=eq_true AI;replace AJ:=eq_true AJ
          refine start_ (n:=32) (S:=fun w'=>w'.cell? ⟨X,0,none⟩=some (.int .i64 ((rd_T130 D J).f0))∧w'.cell? ⟨X,1,none⟩=some (.string ((rd_T130 D J).f1))∧w'.cell? ⟨X,2,none⟩=some (.int .i64 ((rd_T130 D J).f2))∧w'.cell? ⟨Z,0,none⟩=some (.int .i64 A6)∧w'.cell? ⟨Z,1,none⟩=some (.int .i64 A2)∧w'.cell? ⟨Z,2,none⟩=some (.slice (some A1) D.length Ae)∧w'.cell? ⟨Z,3,none⟩=some (.slice Af A3.length Ag)∧w'.cell? ⟨Z,4,none⟩=some (.slice Ah A4.length Ai)∧w'.cell? (A1.add (((A0)).toNat*3))=some (.int .i64 ((rd_T130 D (A0)).f0))∧w'.cell? ⟨(A1.add (((A0)).toNat*3)).block,(A1.add (((A0)).toNat*3)).off+1,none⟩=some (.string ((rd_T130 D (A0)).f1))∧w'.cell? ⟨(A1.add (((A0)).toNat*3)).block,(A1.add (((A0)).toNat*3)).off+2,none⟩=some (.int .i64 ((rd_T130 D (A0)).f2))) (ds:=[]) (bo 32 0) (by kernel_rfl) rfl rfl ⟨cb 0 Y,cb 1 Y,cb 2 Y,cb 0 U,cb 1 U,cb 2 U,cb 3 U,cb 4 U,(cy HB Al),(cy HB Ak),(cy HB Aj)⟩ (fun hHeld=>?_);refine with_tabW impl_inodesOk.tab5 impl_inodesOk.bits5 (fun HT_ HW_=>?_);generalize AV.drew=B4 at U Y HB A8 A9 Aa hHeld ⊢;refine pv 0 ?_;refine pv 2 ?_;refine tv 1 ?_;refine tv 3 ?_;refine pv 4 ?_;refine oo 5 (fun K hK=>?_)
          refine goesV Tryz.func119 ?_;(with_reducible refine mo (impl_from.calls ((rd_T130 D J).f0) 1 (wrap64 (A2-1)) _ _ A7.o) ?_);rintro _ ⟨nd,rfl⟩;refine hK.out _ _ ⟨cb 0 Y,cb 1 Y,cb 2 Y,cb 0 U,cb 1 U,cb 2 U,cb 3 U,cb 4 U,(cy HB Al),(cy HB Ak),(cy HB Aj)⟩ (fun hHeld=>?_);clear hK K;refine nm 19 ?_;refine pv 6 ?_;refine pv 7 ?_;refine pv 8 ?_;refine pv 9 ?_;refine pv 10 ?_;refine pv 11 ?_;refine pv 13 ?_;refine pv 14 ?_;refine pv 18 ?_;refine tv 12 ?_;refine pv 15 ?_;refine pv 16 ?_;refine tv 17 ?_;refine tv 19 ?_;refine pv 20 ?_;refine pv 21 ?_;refine pv 22 ?_;refine pv 23 ?_;have H:=Hq_.o;clear Hq_;by_cases At:((rd_T130 D (A0)).f0)≥((rd_T130 D J).f0)
          ·rw[if_pos At]at H;have As:=dt At;(try rw[As]);clear At;obtain rfl:=oj H;refine pu 24 ?_;refine pu 25 ?_;refine pu 26 ?_;refine pu 27 ?_;refine pu 28 ?_;refine pu 29 ?_;refine pu 30 ?_;refine pv 31 ?_;refine done_ (done_of HT_.o (by kernel_rfl)) ?_;(try go_wp2)
           go_ret
           exact⟨by first|rfl|(simp[errW_none,errW_some]<;>rfl)|(simp only[←Ab];first|rfl|(simp[errW_none,errW_some]<;>rfl))|(simp[*,errW_none,errW_some]<;>rfl),bl⟩
          ·rw[if_neg At]at H;have As:=df At;(try rw[As]);clear At;obtain⟨Aw,Bf,H⟩:=bd H;have Hq_:=aK H;clear H;refine pv 24 ?_;refine pv 26 ?_;refine tv 25 ?_;refine tv 27 ?_;refine pv 28 ?_;refine oo 29 (fun K hK=>?_);refine goesV Tryz.func119 ?_;(with_reducible refine mo (impl_from.calls ((rd_T130 D J).f2) 0 (((rd_T130 D J).f1).size:Int) _ _ Bf.o) ?_);rintro _ ⟨nd,rfl⟩;refine hK.out _ _ ⟨cb 0 Y,cb 1 Y,cb 2 Y,cb 0 U,cb 1 U,cb 2 U,cb 3 U,cb 4 U,(cy HB Al),(cy HB Ak),(cy HB Aj)⟩ (fun hHeld=>?_);clear hK K;refine nm 43 ?_;refine pv 30 ?_;refine pv 31 ?_;have H:=Hq_.o;clear Hq_;by_cases AO:Aw=true
           ·subst AO;replace H:=iT H;have H':=aK H;clear H;refine done_ (done_of HT_.o (by kernel_rfl)) ?_;have:=cf3 Y;(try go_wp2)
            go_roundg k1
            case measure=>have:=AK.o;omega
            case rel=>exact⟨(wrap64 (Ao+(((rd_T130 D J).f1).size:Int))),(wrap64 (J+1)),fa,fa,H',⟨by have:=AK.o;omega⟩,⟨bw U⟩,⟨bl⟩⟩
           ·replace AO:=bF AO;subst AO;replace H:=iF H;obtain rfl:=oj H;refine done_ (done_of HT_.o (by kernel_rfl)) ?_;(try go_wp2)
            go_ret
            exact⟨by first|rfl|(simp[errW_none,errW_some]<;>rfl)|(simp only[←Ab];first|rfl|(simp[errW_none,errW_some]<;>rfl))|(simp[*,errW_none,errW_some]<;>rfl),bl⟩
         ·exact no AN H
        ·exact no AM H
       ·rw[if_neg c9]at H;have AH:=df c9;(try rw[AH]);clear c9;obtain⟨Ax,Bg,H⟩:=bd H;have Hq_:=aK H;clear H;refine start_ (n:=32) (S:=fun w'=>w'.cell? ⟨X,0,none⟩=some (.int .i64 ((rd_T130 D J).f0))∧w'.cell? ⟨X,1,none⟩=some (.string ((rd_T130 D J).f1))∧w'.cell? ⟨X,2,none⟩=some (.int .i64 ((rd_T130 D J).f2))∧w'.cell? ⟨Z,0,none⟩=some (.int .i64 A6)∧w'.cell? ⟨Z,1,none⟩=some (.int .i64 A2)∧w'.cell? ⟨Z,2,none⟩=some (.slice (some A1) D.length Ae)∧w'.cell? ⟨Z,3,none⟩=some (.slice Af A3.length Ag)∧w'.cell? ⟨Z,4,none⟩=some (.slice Ah A4.length Ai)) (ds:=[]) (bo 32 0) (by kernel_rfl) rfl rfl hh (fun hHeld=>?_);refine with_tabW impl_inodesOk.tab5 impl_inodesOk.bits5 (fun HT_ HW_=>?_);generalize AV.drew=B4 at U Y HB hHeld ⊢;refine pv 0 ?_;refine pv 2 ?_;refine tv 1 ?_;refine tv 3 ?_;refine pv 4 ?_;refine oo 5 (fun K hK=>?_);refine goesV Tryz.func119 ?_;(with_reducible refine(impl_from.calls ((rd_T130 D J).f0) 1 (wrap64 (A2-1)) _ _ A7.o).mono ?_);rintro e w' ⟨rfl,⟨nd,rfl⟩⟩
        refine⟨_,rfl,?_⟩;refine hK.out _ _ hh (fun hHeld=>?_);clear hK K;refine nm 19 ?_;refine pv 6 ?_;refine pv 7 ?_;refine pv 8 ?_;refine pv 9 ?_;refine pv 10 ?_;refine pu 11 ?_;refine pu 12 ?_;refine pu 13 ?_;refine pu 14 ?_;refine pu 15 ?_;refine pu 16 ?_;refine pu 17 ?_;refine pu 18 ?_;refine pu 19 ?_;refine pu 20 ?_;refine pv 21 ?_;refine pv 22 ?_;refine pv 23 ?_;refine pv 24 ?_;refine pv 26 ?_;refine tv 25 ?_;refine tv 27 ?_;refine pv 28 ?_;refine oo 29 (fun K hK=>?_);refine goesV Tryz.func119 ?_;(with_reducible refine mo (impl_from.calls ((rd_T130 D J).f2) 0 (((rd_T130 D J).f1).size:Int) _ _ Bg.o) ?_);rintro _ ⟨nd,rfl⟩
        refine hK.out _ _ hh (fun hHeld=>?_);clear hK K;refine nm 43 ?_;refine pv 30 ?_;refine pv 31 ?_;have H:=Hq_.o;clear Hq_;by_cases AP:Ax=true
        ·subst AP;replace H:=iT H;have H':=aK H;clear H;refine done_ (done_of HT_.o (by kernel_rfl)) ?_;have:=cf3 Y;(try go_wp2)
         go_roundg k1
         case measure=>have:=AK.o;omega
         case rel=>exact⟨(wrap64 (Ao+(((rd_T130 D J).f1).size:Int))),(wrap64 (J+1)),fa,fa,H',⟨by have:=AK.o;omega⟩,⟨bw U⟩,⟨bl⟩⟩
        ·replace AP:=bF AP;subst AP;replace H:=iF H;obtain rfl:=oj H;refine done_ (done_of HT_.o (by kernel_rfl)) ?_;(try go_wp2)
         go_ret
         exact⟨fe,bl⟩
      ·replace c8:=bF c8;subst c8;replace H:=iF H;obtain rfl:=oj H;refine start_ (n:=32) (S:=fun w'=>w'.cell? ⟨X,0,none⟩=some (.int .i64 ((rd_T130 D J).f0))∧w'.cell? ⟨X,1,none⟩=some (.string ((rd_T130 D J).f1))∧w'.cell? ⟨X,2,none⟩=some (.int .i64 ((rd_T130 D J).f2))∧w'.cell? ⟨Z,0,none⟩=some (.int .i64 A6)∧w'.cell? ⟨Z,1,none⟩=some (.int .i64 A2)∧w'.cell? ⟨Z,2,none⟩=some (.slice (some A1) D.length Ae)∧w'.cell? ⟨Z,3,none⟩=some (.slice Af A3.length Ag)∧w'.cell? ⟨Z,4,none⟩=some (.slice Ah A4.length Ai)) (ds:=[]) (bo 32 0) (by kernel_rfl) rfl rfl hh (fun hHeld=>?_);refine with_tabW impl_inodesOk.tab5 impl_inodesOk.bits5 (fun HT_ HW_=>?_);generalize AV.drew=B4 at U Y HB hHeld ⊢;refine pv 0 ?_;refine pv 2 ?_;refine tv 1 ?_;refine tv 3 ?_;refine pv 4 ?_;refine oo 5 (fun K hK=>?_);refine goesV Tryz.func119 ?_;(with_reducible refine mo (impl_from.calls ((rd_T130 D J).f0) 1 (wrap64 (A2-1)) _ _ A7.o) ?_);rintro _ ⟨nd,rfl⟩
       refine hK.out _ _ hh (fun hHeld=>?_);clear hK K;refine nm 19 ?_;refine pv 6 ?_;refine pv 7 ?_;refine pu 8 ?_;refine pu 9 ?_;refine pu 10 ?_;refine pu 11 ?_;refine pu 12 ?_;refine pu 13 ?_;refine pu 14 ?_;refine pu 15 ?_;refine pu 16 ?_;refine pu 17 ?_;refine pu 18 ?_;refine pu 19 ?_;refine pu 20 ?_;refine pu 21 ?_;refine pv 22 ?_;refine pv 23 ?_;refine pu 24 ?_;refine pu 25 ?_;refine pu 26 ?_;refine pu 27 ?_;refine pu 28 ?_;refine pu 29 ?_;refine pu 30 ?_;refine pv 31 ?_;refine done_ (done_of HT_.o (by kernel_rfl)) ?_;(try go_wp2)
       go_ret
       exact⟨fe,bl⟩
     ·exact no c6 H
    ·exact no c5 H
   ·rw[if_neg c4]at H;have B1:=df c4;clear c4;by_cases Au:(D.length:Int)≤10
    ·rw[if_pos Au]at H;have AZ:=dt Au;have B0:decide (D.length≤10)=true:=dt (by omega);clear Au;obtain rfl:=oj H;have:=cf5 U;go_wp2
     go_ret
     exact⟨fe,bl⟩
    ·rw[if_neg Au]at H;have AZ:=df Au;have B0:decide (D.length≤10)=false:=df (by omega);clear Au;obtain rfl:=oj H;have:=cf5 U;go_wp2
     go_ret
     exact⟨fe,bl⟩
def slices_Index_int_int.l0:Nat→List Int→Int→Int→Int→Option (Int)
 | 0,_,_,_,_=>none
 |k+1,x0,x1,x7,x8=>if x8<x7 then(if 0≤x8 then(if x8<(x0.length:Int)then(if x1=(rd x0 x8)then(some x8)else(slices_Index_int_int.l0 k x0 x1 x7 (wrap64 (x8+1))))else(none))else(none))else(some (-1))
def slices_Index_int_int.f (k:Nat) (l0:List Int) (J:Int):Option (Int):=slices_Index_int_int.l0 k l0 J (l0.length:Int) 0
theorem slices_Index_int_int.calls (k:Nat) (A0:Option Addr) (c0:Nat) (l0:List Int) (J:Int) (r:Int) (w:World) (U:Kd.C (Kd.int .i64) w A0 l0.length l0) (X:l0.length≤c0) (h:slices_Index_int_int.f k l0 J=some r) :
 Calls Tryz.prog 169 #[.slice A0 l0.length c0,.int .i64 J] w fun e w'=>e = .returned (.int .i64 r)∧Drawn0 w w':=by
 have A5:=aK U;have A6:=aK X;clear U X;have H:=h;unfold slices_Index_int_int.f at H;clear h;have H':=aK H;clear H
 go_enter Tryz.func169,Tryz.ntmps169
 go_wp2
 go_loopg [8] k (fun kq v8 w'=>∃(D:Int),v8 = .int .i64 D∧Aside0 (slices_Index_int_int.l0 kq l0 J (l0.length:Int) D=some r)∧Aside0 (kq≤k)∧Drawn0 w w')
 case atStart=>exact⟨(0),fa,H',⟨Nat.le_refl _⟩,fd⟩
 case round=>
  clear H';obtain⟨D,rfl,HA,A7,⟨m1,rfl⟩⟩:=hrel;cases gk with
  |zero=>exact absurd HA.o (by simp[slices_Index_int_int.l0])
  |succ k1=>
   have H:=HA.o;clear HA;simp only[slices_Index_int_int.l0]at H;by_cases c3:D<(l0.length:Int)
   ·rw[if_pos c3]at H;have A8:=dt c3;clear c3;by_cases c4:0≤D
    ·rw[if_pos c4]at H;have Ac:=dt c4;clear c4;by_cases c5:D<(l0.length:Int)
     ·rw[if_pos c5]at H;have Ad:=dt c5;clear c5;have Hq_:=aK H;clear H;have Y:0≤(D:Int):=dT am;have Z:D<(l0.length:Int):=dT am;obtain⟨Ab,A9,Aa⟩:=Kd.at_int A5.o D Y Z;cases A9;replace Y:=eq_true Y;replace Z:=eq_true Z;have H:=Hq_.o;clear Hq_;by_cases c6:J=(rd l0 D)
      ·rw[if_pos c6]at H;have A1:=bT c6;(try rw[A1]);have A2:=bE c6;(try rw[A2]);clear c6;obtain rfl:=oj H;go_wp2
       go_ret
       exact⟨fa,fd⟩
      ·rw[if_neg c6]at H;have A1:=bN c6;(try rw[A1]);have A2:=bQ c6;(try rw[A2]);have H':=aK H;clear H;go_wp2
       go_roundg k1
       case measure=>have:=A7.o;omega
       case rel=>exact⟨(wrap64 (D+1)),fa,H',⟨by have:=A7.o;omega⟩,fd⟩
     ·exact no c5 H
    ·exact no c4 H
   ·rw[if_neg c3]at H;have A8:=df c3;clear c3;obtain rfl:=oj H;go_wp2
    go_ret
    exact⟨fa,fd⟩
def slices_Contains_int_int.f (k:Nat) (l0:List Int) (J:Int):Option (Bool):=(slices_Index_int_int.f k l0 J).bind fun A4=>(some (decide (A4≥0)))
theorem slices_Contains_int_int.calls (k:Nat) (A0:Option Addr) (c0:Nat) (l0:List Int) (J:Int) (r:Bool) (w:World) (U:Kd.C (Kd.int .i64) w A0 l0.length l0) (X:l0.length≤c0) (h:slices_Contains_int_int.f k l0 J=some r) :
 Calls Tryz.prog 122 #[.slice A0 l0.length c0,.int .i64 J] w fun e w'=>e = .returned (.bool r)∧Drawn0 w w':=by
 have A5:=aK U;have A6:=aK X;clear U X;have H:=h;unfold slices_Contains_int_int.f at H;clear h;obtain⟨A4,A3,H⟩:=bd H;obtain rfl:=oj H
 go_enter Tryz.func122,Tryz.ntmps122
 go_wp2_with (first|((with_reducible refine gc 169 ?_);refine goesW Tryz.func169 ?_;(with_reducible refine mo (slices_Index_int_int.calls k _ _ l0 J A4 _ ?_ ?_ A3.o) ?_);exact ca A5.o;exact A6.o;rintro _ ⟨nd,rfl⟩))
 go_ret
 exact⟨fa,fd⟩
def impl_applied.j0:Nat→List (S133)→Int→Bool→Int→ByteArray→ByteArray→Int→Option ((List (S133))×Bool)
 | 0,_,_,_,_,_,_,_=>none
 |k+1,x0,x6,B0,AO,As,At,AP=>if B0=true then(some (([]:List (S133)),false))else((impl_unlinked.f x0 As).bind fun Aq=>(if 0≤x6 then(if x6<(x0.length:Int)then((impl_linked.f Aq At ((rd_T133 x0 x6).f1)).bind fun Au=>(some (Au,true)))else(none))else(none)))
def impl_applied.f (k:Nat) (l0:List (S133)) (Y:Int) (J:ByteArray) (X:ByteArray) (Z:Int):Option ((List (S133))×Bool):=(impl_linkAt.f l0 J).bind fun A2=>(if Y=1 then((impl_linked.f l0 J Z).bind fun Ar=>(if A2.2=true then(some (Ar,false))else(some (Ar,(X.toList==([]:List UInt8))))))else(if Y=2 then(if A2.2=true then(if Z=0 then((impl_nameOk.f k X).bind fun Av=>(if Av=true then(impl_applied.j0 k l0 A2.1 (X.toList==J.toList) Y J X Z)else(impl_applied.j0 k l0 A2.1 true Y J X Z)))else(impl_applied.j0 k l0 A2.1 true Y J X Z))else(impl_applied.j0 k l0 A2.1 true Y J X Z))else(if Y=3 then((impl_unlinked.f l0 J).bind fun Ae=>(if A2.2=true then(if X.toList=([]:List UInt8)then(some (Ae,(Z==0)))else(some (Ae,false)))else(some (Ae,false))))else(some (([]:List (S133)),false)))))
def impl_applied.T4:Bool×List (List Nat×List Nat):=(true,[([],[]),([],[]),([1],[1]),([],[]),([3],[3]),([2,4],[2,4]),([0,5],[0,5]),([],[]),([7],[7]),([8,6],[8]),([9],[9]),([10,9],[9,10]),([11,9],[9,11]),([9,12],[9,12]),([6,9,0,1,2,3,4,5,6],[6]),([13,14,0,1,2,3,4,5,6,7,8,9,10,11,12,13,14],[13])])
def impl_applied.B4:List Nat:=[0,0,2,0,8,30,63,0,128,511,1023,2047,4095,8191,1023,32767]
theorem impl_applied.tab4:rtab .any (opsOf Tryz.f123 4)=impl_applied.T4:=by kernel_rfl
theorem impl_applied.bits4:waitsOk impl_applied.T4.2 impl_applied.B4=true:=by kernel_rfl
def impl_applied.T8:Bool×List (List Nat×List Nat):=(true,[([],[]),([],[]),([1],[1]),([0,2],[0,2]),([],[]),([4],[4]),([],[]),([],[]),([6,7],[6,7]),([8],[8]),([9],[9]),([5,10],[5,10]),([3,11,3],[3,11]),([12,12,0,1,2,3,4,5,6,7,8,9,10,11,12],[12]),([13,0,1,2,3,4,5,6,7,8,9,10,11,12,13],[])])
def impl_applied.B8:List Nat:=[0,0,2,7,0,16,0,0,192,448,960,2032,4095,8191,16383]
theorem impl_applied.tab8:rtab .any (opsOf Tryz.f123 8)=impl_applied.T8:=by kernel_rfl
theorem impl_applied.bits8:waitsOk impl_applied.T8.2 impl_applied.B8=true:=by kernel_rfl
def impl_applied.T10:Bool×List (List Nat×List Nat):=(true,[([],[]),([],[]),([1],[1]),([0,2],[0,2]),([],[]),([4,3],[4]),([5],[5]),([6,5],[5,6]),([7,5],[5,7]),([5,8],[5,8]),([9,5],[9]),([10],[10]),([11,10],[10,11]),([12,10],[10,12]),([10,13],[10,13]),([3,10,0,1,2,3],[3]),([14,15,0,1,2,3,4,5,6,7,8,9,10,11,12,13,14,15],[14])])
def impl_applied.B10:List Nat:=[0,0,2,7,0,31,63,127,255,511,1023,2047,4095,8191,16383,2047,65535]
theorem impl_applied.tab10:rtab .any (opsOf Tryz.f123 10)=impl_applied.T10:=by kernel_rfl
theorem impl_applied.bits10:waitsOk impl_applied.T10.2 impl_applied.B10=true:=by kernel_rfl
theorem impl_applied.calls (k:Nat) (A0:Option Addr) (c0:Nat) (l0:List (S133)) (Y:Int) (J:ByteArray) (X:ByteArray) (Z:Int) (r1:List (S133)) (r2:Bool) (w:World) (AQ:Kd.C k133 w A0 l0.length l0) (AR:l0.length≤c0) (h:impl_applied.f k l0 Y J X Z=some (r1,r2)) :
 Calls Tryz.prog 123 #[.slice A0 l0.length c0,.agg #[.int .i64 Y,.string J,.string X,.int .i64 Z]] w fun e w'=>∃AS:Value,e = .returned (.tuple #[AS,.bool r2])∧Kd.R k133 133 w' w.heap.size (fun _=>True) AS r1∧Below w.heap.size w w':=by
 have B1:=Tryz.underlying135;have B2:=Tryz.underlying133;have Af:=aK AQ;have Ai:=aK AR;clear AQ AR;have HB:=aK (Below.refl w.heap.size w);have H:=h;unfold impl_applied.f at H;clear h;replace H:=oB H;obtain⟨⟨A1,Ag⟩,AT,H⟩:=H
 dsimp only at H;have A3:=aK AT;clear AT;by_cases c4:Y=1
 ·rw[if_pos c4]at H;have AU:=bT c4;have AV:=bE c4;clear c4;obtain⟨Ar,A5,H⟩:=bd H;have Hq_:=aK H;clear H
  go_enter Tryz.func123,Tryz.ntmps123
  (try go_wp2_with (first|((with_reducible refine gd 3 ?_);refine boxQ HB ?_;clear HB;intro U hg AG D Aj HB hb;clear hb hg;have:=cf4 D)|((with_reducible refine gc 157 ?_);refine goesW Tryz.func157 ?_;(with_reducible refine mo (impl_linkAt.calls _ _ l0 J A1 _ _ ?_ ?_ A3.o) ?_);exact cB Af HB;exact Ai.o;intro Aw hb;replace D:=bv D hb;replace HB:=bS HB hb;have:=cf4 D)));replace D:=dB D;replace HB:=dW HB;refine start_ (n:=16) (S:=fun w'=>w'.cell? ⟨U,0,none⟩=some (.int .i64 Y)∧w'.cell? ⟨U,1,none⟩=some (.string J)∧w'.cell? ⟨U,2,none⟩=some (.string X)∧w'.cell? ⟨U,3,none⟩=some (.int .i64 Z)) (ds:=[]) (bo 16 0) (by kernel_rfl) rfl rfl hh (fun hHeld=>?_);refine with_tabW impl_applied.tab4 impl_applied.bits4 (fun HT_ HW_=>?_);generalize Aw.drew=B3 at D HB hHeld ⊢;refine pv 0 ?_;refine pv 1 ?_;refine pv 3 ?_;refine pv 7 ?_;refine pv 8 ?_;refine tv 2 ?_;refine tv 4 ?_
  refine pv 5 ?_;refine oo 6 (fun K hK=>?_);refine goesV Tryz.func170 ?_;(with_reducible refine(impl_linked.calls _ _ l0 J Z Ar _ ?_ ?_ A5.o).mono ?_);exact cB Af HB;exact Ai.o;rintro e B5 ⟨Bh,rfl,Ah,hb⟩;refine⟨_,rfl,?_⟩;have Ax:=rl HB Ah;replace D:=bv D hb;replace HB:=bS HB hb;refine hK.out _ _ hh (fun hHeld=>?_);clear hK K;refine nm 25 ?_;refine pv 9 ?_;have H:=Hq_.o;clear Hq_;by_cases c6:Ag=true
  ·subst c6;replace H:=iT H;obtain⟨rfl,rfl⟩:=t2 H;refine pu 10 ?_;refine pu 11 ?_;refine pu 12 ?_;refine pv 13 ?_;refine pv 14 ?_;refine pv 15 ?_;refine done_ (done_of HT_.o (by kernel_rfl)) ?_;(try go_wp2)
   go_ret2
   exact⟨_,fe,rpR Ax.o,bl⟩
  ·replace c6:=bF c6;subst c6;replace H:=iF H;obtain⟨rfl,rfl⟩:=t2 H;refine pv 10 ?_;refine pv 14 ?_;refine tv 11 ?_;refine pv 12 ?_;refine pv 13 ?_;refine pv 15 ?_;refine done_ (done_of HT_.o (by kernel_rfl)) ?_;(try go_wp2)
   go_ret2
   exact⟨_,fe,rpR Ax.o,bl⟩
 ·rw[if_neg c4]at H;have AU:=bN c4;have AV:=bQ c4;by_cases Ak:Y=2
  ·rw[if_pos Ak]at H;have AH:=bT Ak;have AI:=bE Ak;clear Ak;have Ay:=aK H;clear H
   go_enter Tryz.func123,Tryz.ntmps123
   go_upto_region 6 with(first|((with_reducible refine gd 3 ?_);refine boxQ HB ?_;clear HB;intro U hg AG D Aj HB hb;clear hb hg;have:=cf4 D)|((with_reducible refine gc 157 ?_);refine goesW Tryz.func157 ?_;(with_reducible refine mo (impl_linkAt.calls _ _ l0 J A1 Ag _ ?_ ?_ A3.o) ?_);exact cB Af HB;exact Ai.o;intro Aw hb;replace D:=bv D hb;replace HB:=bS HB hb;have:=cf4 D))
   (try simp only[Act.put,List.setIfInBounds_toArray,List.set_cons_zero,List.set_cons_succ])
   go_cut [54] (fun B6 wc=>∃(kq:Nat) (A4:Bool),B6 = .bool A4∧Aside0 (impl_applied.j0 kq l0 A1 A4 Y J X Z=some (r1,r2))∧Aside0 (kq≤k)∧Aside0 (wc.heap[U]? = some (.cells #[.int .i64 Y,.string J,.string X,.int .i64 Z] 135 (0,0)))∧Aside0 (Below w.heap.size w wc))
   case first=>
    have H:=Ay.o;clear Ay;by_cases A_:Ag=true
    ·subst A_;replace H:=iT H;by_cases Al:Z=0
     ·rw[if_pos Al]at H;have A8:=bT Al;have AJ:=bE Al;clear Al;(first|rw[A8]|(simp only[i64_w,i32_w];rw[A8])|skip);obtain⟨Av,AW,H⟩:=bd H;by_cases AA:Av=true
      ·subst AA;replace H:=iT H;have H':=aK H;clear H;have:=cf4 D;go_wp2_with (first|(go_at_call 114;(with_reducible refine(impl_nameOk.calls k X _ _ AW.o).mono ?_);rintro e w' ⟨rfl,⟨nd,rfl⟩⟩))
       go_meet
       case rel=>exact⟨_,((X.toList==J.toList)),fa,H',⟨by first|omega|exact Nat.le_refl _⟩,⟨bw D⟩,⟨bl⟩⟩
      ·replace AA:=bF AA;subst AA;replace H:=iF H;have H':=aK H;clear H;have:=cf4 D;go_wp2_with (first|(go_at_call 114;(with_reducible refine(impl_nameOk.calls k X _ _ AW.o).mono ?_);rintro e w' ⟨rfl,⟨nd,rfl⟩⟩))
       go_meet
       case rel=>exact⟨_,(true),fa,H',⟨by first|omega|exact Nat.le_refl _⟩,⟨bw D⟩,⟨bl⟩⟩
     ·rw[if_neg Al]at H;have A8:=bN Al;have AJ:=bQ Al;(first|rw[A8]|(simp only[i64_w,i32_w];rw[A8])|skip);have H':=aK H;clear H;have:=cf4 D;go_wp2
      go_meet
      case rel=>exact⟨_,(true),fa,H',⟨by first|omega|exact Nat.le_refl _⟩,⟨bw D⟩,⟨bl⟩⟩
    ·replace A_:=bF A_;subst A_;replace H:=iF H;have H':=aK H;clear H;go_wp2
     go_meet
     case rel=>exact⟨_,(true),fa,H',⟨by first|omega|exact Nat.le_refl _⟩,⟨bw D⟩,⟨bl⟩⟩
   case rest=>
    clear Ay;obtain⟨kq,A4,rfl,HA,Bi,D,HB⟩:=hcut;cases kq with
    |zero=>exact absurd HA.o (by simp[impl_applied.j0])
    |succ Bj=>
     have H:=HA.o;clear HA;simp only[impl_applied.j0]at H;by_cases AB:A4=true
     ·subst AB;replace H:=iT H;obtain⟨rfl,rfl⟩:=t2 H;go_wp2
      go_ret2
      exact⟨_,fe,by first|exact Kd.R_nil _ _ _ _ _|exact Kd.N_nil _ _ _ _ _|exact Kd.V_nil _ _ _ _ _|exact Kd.Q_nil _ _ _ _ _|exact Kd.S_nil _ _ _ _ _,bl⟩
     ·replace AB:=bF AB;subst AB;replace H:=iF H;obtain⟨Aq,B7,H⟩:=bd H;by_cases AC:0≤A1
      ·rw[if_pos AC]at H;have B9:=dt AC;clear AC;by_cases AD:A1<(l0.length:Int)
       ·rw[if_pos AD]at H;have Ba:=dt AD;clear AD;obtain⟨Au,Bb,H⟩:=bd H;obtain⟨rfl,rfl⟩:=t2 H;(try go_wp2);replace D:=dB D;replace HB:=dW HB;have AK:0≤(A1:Int):=dT am;have AL:A1<(l0.length:Int):=dT am;obtain⟨Az,Bc,A6,A7⟩:=at_T133 Af.o A1 AK AL;have Ac:=A7;have Ad:=A6;cases Bc;replace A6:=cz HB A6;replace A7:=cz HB A7;replace AK:=eq_true AK;replace AL:=eq_true AL;refine start_ (n:=15) (S:=fun w'=>w'.cell? ⟨U,0,none⟩=some (.int .i64 Y)∧w'.cell? ⟨U,1,none⟩=some (.string J)∧w'.cell? ⟨U,2,none⟩=some (.string X)∧w'.cell? ⟨U,3,none⟩=some (.int .i64 Z)∧w'.cell? (Az.add ((A1).toNat*2))=some (.string ((rd_T133 l0 A1).f0))∧w'.cell? ⟨(Az.add ((A1).toNat*2)).block,(Az.add ((A1).toNat*2)).off+1,none⟩=some (.int .i64 ((rd_T133 l0 A1).f1))) (ds:=[]) (bo 15 0) (by kernel_rfl) rfl rfl ⟨cb 0 D,cb 1 D,cb 2 D,cb 3 D,(cy HB Ad),(cy HB Ac)⟩ (fun hHeld=>?_);refine with_tabW impl_applied.tab8 impl_applied.bits8 (fun HT_ HW_=>?_);generalize wc.drew=Bn at D HB A6 A7 hHeld ⊢;refine pv 0 ?_;refine pv 1 ?_;refine pv 4 ?_;refine pv 6 ?_
        refine pv 7 ?_;refine pv 8 ?_;refine pv 9 ?_;refine tv 2 ?_;refine tv 5 ?_;refine tv 10 ?_;refine pv 11 ?_;refine oo 3 (fun K hK=>?_);refine goesV Tryz.func171 ?_;(with_reducible refine(impl_unlinked.calls _ _ l0 J Aq _ ?_ ?_ B7.o).mono ?_);exact cB Af HB;exact Ai.o;rintro e Bo ⟨Bp,rfl,Ah,hb⟩;refine⟨_,rfl,?_⟩;have Ab:=rl HB Ah;replace D:=bv D hb;replace HB:=bS HB hb;obtain⟨Bk,Bl,AF⟩:=rs Ab;(first|subst AF|(injection AF with AX Bd AY;have Be:=AX.symm;have Bf:=AY.symm;clear AX Bd AY;subst Be;subst Bf));refine hK.out _ _ ⟨cb 0 D,cb 1 D,cb 2 D,cb 3 D,(cy HB Ad),(cy HB Ac)⟩ (fun hHeld=>?_);clear hK K;refine nm 58 ?_;refine oo 12 (fun K hK=>?_);refine goesV Tryz.func170 ?_;(with_reducible refine(impl_linked.calls _ _ Aq X ((rd_T133 l0 A1).f1) Au _ ?_ ?_ Bb.o).mono ?_);exact ca (cR Ab.o);exact cl Ab;rintro e Bq ⟨Br,rfl,Ah,hb⟩;refine⟨_,rfl,?_⟩;have AZ:=rl HB (Kd.R_new' Ah (Kd.R_lt (rpR Ab.o)));replace Ab:=re Ab.o Ah hb
        replace D:=bv D hb;replace HB:=bS HB hb;refine hK.out _ _ ⟨cb 0 D,cb 1 D,cb 2 D,cb 3 D,(cy HB Ad),(cy HB Ac)⟩ (fun hHeld=>?_);clear hK K;refine nm 67 ?_;refine pv 13 ?_;refine pv 14 ?_;refine done_ (done_of HT_.o (by kernel_rfl)) ?_;(try go_wp2)
        go_ret2
        exact⟨_,fe,rpR (rM AZ.o (fun _ hk=>trivial)),bl⟩
       ·exact no AD H
      ·exact no AC H
  ·rw[if_neg Ak]at H;have AH:=bN Ak;have AI:=bQ Ak;by_cases Am:Y=3
   ·rw[if_pos Am]at H;have AM:=bT Am;have AN:=bE Am;clear Am;obtain⟨Ae,Bg,H⟩:=bd H;have Hq_:=aK H;clear H
    go_enter Tryz.func123,Tryz.ntmps123
    (try go_wp2_with (first|((with_reducible refine gd 3 ?_);refine boxQ HB ?_;clear HB;intro U hg AG D Aj HB hb;clear hb hg;have:=cf4 D)|((with_reducible refine gc 157 ?_);refine goesW Tryz.func157 ?_;(with_reducible refine mo (impl_linkAt.calls _ _ l0 J A1 _ _ ?_ ?_ A3.o) ?_);exact cB Af HB;exact Ai.o;intro Aw hb;replace D:=bv D hb;replace HB:=bS HB hb;have:=cf4 D)));replace D:=dB D;replace HB:=dW HB;refine start_ (n:=17) (S:=fun w'=>w'.cell? ⟨U,0,none⟩=some (.int .i64 Y)∧w'.cell? ⟨U,1,none⟩=some (.string J)∧w'.cell? ⟨U,2,none⟩=some (.string X)∧w'.cell? ⟨U,3,none⟩=some (.int .i64 Z)) (ds:=[]) (bo 17 0) (by kernel_rfl) rfl rfl hh (fun hHeld=>?_);refine with_tabW impl_applied.tab10 impl_applied.bits10 (fun HT_ HW_=>?_);generalize Aw.drew=B3 at D HB hHeld ⊢;refine pv 0 ?_;refine pv 1 ?_;refine pv 4 ?_;refine tv 2 ?_;refine oo 3 (fun K hK=>?_)
    refine goesV Tryz.func171 ?_;(with_reducible refine(impl_unlinked.calls _ _ l0 J Ae _ ?_ ?_ Bg.o).mono ?_);exact cB Af HB;exact Ai.o;rintro e B5 ⟨Bm,rfl,Ah,hb⟩;refine⟨_,rfl,?_⟩;have An:=rl HB Ah;replace D:=bv D hb;replace HB:=bS HB hb;refine hK.out _ _ hh (fun hHeld=>?_);clear hK K;refine nm 73 ?_;refine pv 5 ?_;have H:=Hq_.o;clear Hq_;by_cases AE:Ag=true
    ·subst AE;replace H:=iT H;have Hq_:=aK H;clear H;refine pv 6 ?_;refine tv 7 ?_;refine pv 8 ?_;refine pv 9 ?_;refine pv 10 ?_;have H:=Hq_.o;clear Hq_;by_cases Ao:X.toList=([]:List UInt8)
     ·rw[if_pos Ao]at H;have A9:=bT Ao;(try rw[A9]);have Aa:=A9;simp only[show ∀l_:List UInt8,(l_ == [])=l_.isEmpty from fun l_=>by cases l_<;>rfl]at Aa;(try rw[Aa]);have Ap:=bE Ao;(try rw[Ap]);clear Ao;obtain⟨rfl,rfl⟩:=t2 H;refine pv 11 ?_;refine pv 15 ?_;refine tv 12 ?_;refine pv 13 ?_;refine pv 14 ?_;refine pv 16 ?_;refine done_ (done_of HT_.o (by kernel_rfl)) ?_;(try go_wp2)
      go_ret2
      exact⟨_,fe,rpR An.o,bl⟩
     ·rw[if_neg Ao]at H;have A9:=bN Ao;(try rw[A9]);have Aa:=A9;simp only[show ∀l_:List UInt8,(l_ == [])=l_.isEmpty from fun l_=>by cases l_<;>rfl]at Aa;(try rw[Aa]);have Ap:=bQ Ao;(try rw[Ap]);obtain⟨rfl,rfl⟩:=t2 H;refine pu 11 ?_;refine pu 12 ?_;refine pu 13 ?_;refine pv 14 ?_;refine pv 15 ?_;refine pv 16 ?_;refine done_ (done_of HT_.o (by kernel_rfl)) ?_;(try go_wp2)
      go_ret2
      exact⟨_,fe,rpR An.o,bl⟩
    ·replace AE:=bF AE;subst AE;replace H:=iF H;obtain⟨rfl,rfl⟩:=t2 H;refine pu 6 ?_;refine pu 7 ?_;refine pu 8 ?_;refine pv 9 ?_;refine pv 10 ?_;refine pu 11 ?_;refine pu 12 ?_;refine pu 13 ?_;refine pv 14 ?_;refine pv 15 ?_;refine pv 16 ?_;refine done_ (done_of HT_.o (by kernel_rfl)) ?_;(try go_wp2)
     go_ret2
     exact⟨_,fe,rpR An.o,bl⟩
   ·rw[if_neg Am]at H;have AM:=bN Am;have AN:=bQ Am;obtain⟨rfl,rfl⟩:=t2 H
    go_enter Tryz.func123,Tryz.ntmps123
    go_wp2_with (first|((with_reducible refine gd 3 ?_);refine boxQ HB ?_;clear HB;intro U hg AG D Aj HB hb;clear hb hg;have:=cf4 D)|((with_reducible refine gc 157 ?_);refine goesW Tryz.func157 ?_;(with_reducible refine mo (impl_linkAt.calls _ _ l0 J A1 Ag _ ?_ ?_ A3.o) ?_);exact cB Af HB;exact Ai.o;intro Aw hb;replace D:=bv D hb;replace HB:=bS HB hb;have:=cf4 D))
    go_ret2
    exact⟨_,fe,by first|exact Kd.R_nil _ _ _ _ _|exact Kd.N_nil _ _ _ _ _|exact Kd.V_nil _ _ _ _ _|exact Kd.Q_nil _ _ _ _ _|exact Kd.S_nil _ _ _ _ _,bl⟩
end Go.Proofs.YtndbmllnkjngnaaGreat.PDs
