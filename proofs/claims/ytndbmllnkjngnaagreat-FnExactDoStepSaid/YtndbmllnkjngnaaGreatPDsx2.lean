/- Functions of the program, each with its contract, written by a program out of the translation. -/
import Derived.Test.YtndbmllnkjngnaaGreatPDsx0
import Derived.Test.YtndbmllnkjngnaaGreatZop
namespace Go.Proofs.YtndbmllnkjngnaaGreat.PDs
open Go.RowKit Go.Proofs.YtndbmllnkjngnaaGreatW.PrintWords Go.Proofs.YtndbmllnkjngnaaGreatW.PrintLast Go.Proofs.YtndbmllnkjngnaaGreatW.PrintMore Go.Proofs.YtndbmllnkjngnaaGreat.Zip
attribute [local go_sem] max2_int min2_int max_two min_two max_three min_three max_four min_four
set_option linter.unusedVariables false
set_option linter.unusedSimpArgs false
set_option maxHeartbeats 8000000
set_option maxRecDepth 100000
def spec_l1In.f (a0:Int) (a1:Int) (a2:Int):Option (Bool):=if a0≥a1 then(some (decide (a0≤a2)))else(some false)
theorem spec_l1In.calls (a0:Int) (a1:Int) (a2:Int) (r:Bool) (w:World) (h:spec_l1In.f a0 a1 a2=some r) :
 Calls Tryz.prog 99 #[.int .i64 a0,.int .i64 a1,.int .i64 a2] w fun e w'=>e = .returned (.bool r)∧Drawn0 w w':=by
 have H:=h;unfold spec_l1In.f at H;clear h;by_cases c4:a0≥a1
 ·rw[if_pos c4]at H;have AA:=dt c4;clear c4;obtain rfl:=oj H
  go_enter Tryz.func99,Tryz.ntmps99
  go_wp2
  go_ret
  exact⟨fa,fd⟩
 ·rw[if_neg c4]at H;have AA:=df c4;clear c4;obtain rfl:=oj H
  go_enter Tryz.func99,Tryz.ntmps99
  go_wp2
  go_ret
  exact⟨fa,fd⟩
def spec_l4Bytes.l0:Nat→Int→Int→Int→Int→List (S130)→List (S133)→List (S135)→Option (Int)
 | 0,_,_,_,_,_,_,_=>none
 |k+1,x3,x4,BM,BN,AR,BO,BP=>if x4<(AR.length:Int)then(if 0≤x4 then(spec_l4Bytes.l0 k (wrap64 (x3+(((rd_T130 AR x4).f1).size:Int))) (wrap64 (x4+1)) BM BN AR BO BP)else(none))else(some x3)
def spec_l4Bytes.f (k:Nat) (Ap:Int) (Aq:Int) (A9:List (S130)) (Ab:List (S133)) (Ac:List (S135)):Option (Int):=spec_l4Bytes.l0 k 0 0 Ap Aq A9 Ab Ac
theorem spec_l4Bytes.calls (k:Nat) (Ap:Int) (Aq:Int) (AB:Option Addr) (AC:Nat) (A9:List (S130)) (AD:Option Addr) (AE:Nat) (Ab:List (S133)) (AF:Option Addr) (AG:Nat) (Ac:List (S135)) (r:Int) (w:World) (AS:Kd.C k130 w AB A9.length A9) (AT:A9.length≤AC) (AU:Kd.C k133 w AD Ab.length Ab) (AV:Ab.length≤AE) (AW:Kd.C k135 w AF Ac.length Ac) (AX:Ac.length≤AG) (h:spec_l4Bytes.f k Ap Aq A9 Ab Ac=some r) :
 Calls Tryz.prog 100 #[.agg #[.int .i64 Ap,.int .i64 Aq,.slice AB A9.length AC,.slice AD Ab.length AE,.slice AF Ac.length AG]] w fun e w'=>e = .returned (.int .i64 r)∧Below w.heap.size w w':=by
 have CF:=Tryz.underlying35;have Bo:=aK AS;have Cs:=aK AT;clear AS AT;have Ct:=aK AU;have Cu:=aK AV;clear AU AV;have Cv:=aK AW;have Cw:=aK AX;clear AW AX;have HB:=aK (Below.refl w.heap.size w);have H:=h;unfold spec_l4Bytes.f at H;clear h;have H':=aK H;clear H
 go_enter Tryz.func100,Tryz.ntmps100
 go_wp2_with (first|((with_reducible refine gD 1 rfl ?_);refine boxZ 1 #[.int .i64 Ap,.int .i64 Aq,.slice AB A9.length AC,.slice AD Ab.length AE,.slice AF Ac.length AG] 35 ?_;intro Cx hg w2 hbox hb;have AY:=aK hbox;have D4:=gW HB hg;replace HB:=bS HB hb;clear hb hbox hg))
 go_loopg [3,4] k (fun kq v3 v4 w'=>∃(A6:Int) (Ax:Int),v3 = .int .i64 A6∧v4 = .int .i64 Ax∧Aside0 (spec_l4Bytes.l0 kq A6 Ax Ap Aq A9 Ab Ac=some r)∧Aside0 (kq≤k)∧Aside0 (w'.heap[Cx]? = some (.cells #[.int .i64 Ap,.int .i64 Aq,(.slice AB A9.length AC),(.slice AD Ab.length AE),(.slice AF Ac.length AG)] 35 (0,0)))∧Aside0 (Below w.heap.size w w'))
 case atStart=>exact⟨(0),(0),fa,fa,H',⟨Nat.le_refl _⟩,⟨bw AY⟩,⟨bl⟩⟩
 case round=>
  clear H';(try clear c1);(try clear p2);obtain⟨A6,Ax,rfl,rfl,HA,A8,AY,HB⟩:=hrel;cases gk with
  |zero=>exact absurd HA.o (by simp[spec_l4Bytes.l0])
  |succ k1=>
   have H:=HA.o;clear HA;simp only[spec_l4Bytes.l0]at H;by_cases c3:Ax<(A9.length:Int)
   ·rw[if_pos c3]at H;have AZ:=dt c3;clear c3;by_cases c4:0≤Ax
    ·rw[if_pos c4]at H;have AA:=dt c4;clear c4;have H':=aK H;clear H;obtain⟨_,_,_,_,_,_,_,_,_,_⟩:=cf5 AY;have Ak:0≤(Ax:Int):=dT am;have Al:Ax<(A9.length:Int):=dT am;obtain⟨As,AK,An,Ao,BI⟩:=at_T130 Bo.o Ax Ak Al;cases AK;replace An:=cz HB An;replace Ao:=cz HB Ao;replace BI:=cz HB BI;replace Ak:=eq_true Ak;replace Al:=eq_true Al;go_wp2
     go_roundg k1
     case measure=>have:=A8.o;omega
     case rel=>exact⟨(wrap64 (A6+(((rd_T130 A9 Ax).f1).size:Int))),(wrap64 (Ax+1)),fa,fa,H',⟨by have:=A8.o;omega⟩,⟨bw AY⟩,⟨bl⟩⟩
    ·rw[if_neg c4]at H;exact absurd H (by simp)
   ·rw[if_neg c3]at H;have AZ:=df c3;clear c3;obtain rfl:=oj H;obtain⟨_,_,_,_,_,_,_,_,_,_⟩:=cf5 AY;go_wp2
    go_ret
    exact⟨fe,bl⟩
def spec_l4Linked.l0:Nat→List (S133)→Int→Int→Option (Bool)
 | 0,_,_,_=>none
 |k+1,x0,x1,x5=>if x5<(x0.length:Int)then(if 0≤x5 then(if((rd_T133 x0 x5).f1)=x1 then(some true)else(spec_l4Linked.l0 k x0 x1 (wrap64 (x5+1))))else(none))else(some false)
def spec_l4Linked.f (k:Nat) (l0:List (S133)) (a1:Int):Option (Bool):=spec_l4Linked.l0 k l0 a1 0
theorem spec_l4Linked.calls (k:Nat) (A0:Option Addr) (c0:Nat) (l0:List (S133)) (a1:Int) (r:Bool) (w:World) (AH:Kd.C k133 w A0 l0.length l0) (AI:l0.length≤c0) (h:spec_l4Linked.f k l0 a1=some r) :
 Calls Tryz.prog 101 #[.slice A0 l0.length c0,.int .i64 a1] w fun e w'=>e = .returned (.bool r)∧Drawn0 w w':=by
 have AL:=aK AH;have Bp:=aK AI;clear AH AI;have H:=h;unfold spec_l4Linked.f at H;clear h;have H':=aK H;clear H
 go_enter Tryz.func101,Tryz.ntmps101
 go_wp2
 go_loopg [5] k (fun kq v5 w'=>∃(X:Int),v5 = .int .i64 X∧Aside0 (spec_l4Linked.l0 kq l0 a1 X=some r)∧Aside0 (kq≤k)∧Drawn0 w w')
 case atStart=>exact⟨(0),fa,H',⟨Nat.le_refl _⟩,fd⟩
 case round=>
  clear H';(try clear c1);(try clear p2);obtain⟨X,rfl,HA,A8,⟨m1,rfl⟩⟩:=hrel;cases gk with
  |zero=>exact absurd HA.o (by simp[spec_l4Linked.l0])
  |succ k1=>
   have H:=HA.o;clear HA;simp only[spec_l4Linked.l0]at H;by_cases c3:X<(l0.length:Int)
   ·rw[if_pos c3]at H;have AZ:=dt c3;clear c3;by_cases c4:0≤X
    ·rw[if_pos c4]at H;have AA:=dt c4;clear c4;have Hq_:=aK H;clear H;have BQ:0≤(X:Int):=dT am;have BR:X<(l0.length:Int):=dT am;obtain⟨D5,CG,CH,CI⟩:=at_T133 AL.o X BQ BR;cases CG;replace BQ:=eq_true BQ;replace BR:=eq_true BR;have H:=Hq_.o;clear Hq_;by_cases c5:((rd_T133 l0 X).f1)=a1
     ·rw[if_pos c5]at H;have Ar:=bT c5;(try rw[Ar]);have Au:=bE c5;(try rw[Au]);clear c5;obtain rfl:=oj H;go_wp2
      go_ret
      exact⟨fa,fd⟩
     ·rw[if_neg c5]at H;have Ar:=bN c5;(try rw[Ar]);have Au:=bQ c5;(try rw[Au]);have H':=aK H;clear H;go_wp2
      go_roundg k1
      case measure=>have:=A8.o;omega
      case rel=>exact⟨(wrap64 (X+1)),fa,H',⟨by have:=A8.o;omega⟩,fd⟩
    ·rw[if_neg c4]at H;exact absurd H (by simp)
   ·rw[if_neg c3]at H;have AZ:=df c3;clear c3;obtain rfl:=oj H;go_wp2
    go_ret
    exact⟨fa,fd⟩
def spec_l4Made.l0:Nat→List (S135)→Int→Int→Option (Bool)
 | 0,_,_,_=>none
 |k+1,x0,x1,x5=>if x5<(x0.length:Int)then(if 0≤x5 then(if((rd_T135 x0 x5).f0)=1 then(if((rd_T135 x0 x5).f3)=x1 then(some true)else(spec_l4Made.l0 k x0 x1 (wrap64 (x5+1))))else(spec_l4Made.l0 k x0 x1 (wrap64 (x5+1))))else(none))else(some false)
def spec_l4Made.f (k:Nat) (l0:List (S135)) (a1:Int):Option (Bool):=spec_l4Made.l0 k l0 a1 0
theorem spec_l4Made.calls (k:Nat) (A0:Option Addr) (c0:Nat) (l0:List (S135)) (a1:Int) (r:Bool) (w:World) (AH:Kd.C k135 w A0 l0.length l0) (AI:l0.length≤c0) (h:spec_l4Made.f k l0 a1=some r) :
 Calls Tryz.prog 102 #[.slice A0 l0.length c0,.int .i64 a1] w fun e w'=>e = .returned (.bool r)∧Drawn0 w w':=by
 have AL:=aK AH;have Bp:=aK AI;clear AH AI;have H:=h;unfold spec_l4Made.f at H;clear h;have H':=aK H;clear H
 go_enter Tryz.func102,Tryz.ntmps102
 go_wp2
 go_loopg [5] k (fun kq v5 w'=>∃(X:Int),v5 = .int .i64 X∧Aside0 (spec_l4Made.l0 kq l0 a1 X=some r)∧Aside0 (kq≤k)∧Drawn0 w w')
 case atStart=>exact⟨(0),fa,H',⟨Nat.le_refl _⟩,fd⟩
 case round=>
  clear H';(try clear c1);(try clear p2);obtain⟨X,rfl,HA,A8,⟨m1,rfl⟩⟩:=hrel;cases gk with
  |zero=>exact absurd HA.o (by simp[spec_l4Made.l0])
  |succ k1=>
   have H:=HA.o;clear HA;simp only[spec_l4Made.l0]at H;by_cases c3:X<(l0.length:Int)
   ·rw[if_pos c3]at H;have AZ:=dt c3;clear c3;by_cases c4:0≤X
    ·rw[if_pos c4]at H;have AA:=dt c4;clear c4;have Hq_:=aK H;clear H;have BS:0≤(X:Int):=dT am;have BT:X<(l0.length:Int):=dT am;obtain⟨Cy,CJ,CK,CL,CM,CN⟩:=at_T135 AL.o X BS BT;cases CJ;replace BS:=eq_true BS;replace BT:=eq_true BT;have H:=Hq_.o;clear Hq_;by_cases c5:((rd_T135 l0 X).f0)=1
     ·rw[if_pos c5]at H;have Ar:=bT c5;(try rw[Ar]);have Au:=bE c5;(try rw[Au]);clear c5;have Hq_:=aK H;clear H;have BU:0≤(X:Int):=dT am;have BV:X<(l0.length:Int):=dT am;obtain⟨Cz,CO,CP,CQ,CR,CS⟩:=at_T135 AL.o X BU BV;obtain rfl:Cy=Cz:=(by injection CO);replace BU:=eq_true BU;replace BV:=eq_true BV;have H:=Hq_.o;clear Hq_;by_cases c6:((rd_T135 l0 X).f3)=a1
      ·rw[if_pos c6]at H;have AN:=bT c6;(try rw[AN]);have B0:=bE c6;(try rw[B0]);clear c6;obtain rfl:=oj H;go_wp2
       go_ret
       exact⟨fa,fd⟩
      ·rw[if_neg c6]at H;have AN:=bN c6;(try rw[AN]);have B0:=bQ c6;(try rw[B0]);have H':=aK H;clear H;go_wp2
       go_roundg k1
       case measure=>have:=A8.o;omega
       case rel=>exact⟨(wrap64 (X+1)),fa,H',⟨by have:=A8.o;omega⟩,fd⟩
     ·rw[if_neg c5]at H;have Ar:=bN c5;(try rw[Ar]);have Au:=bQ c5;(try rw[Au]);have H':=aK H;clear H;go_wp2
      go_roundg k1
      case measure=>have:=A8.o;omega
      case rel=>exact⟨(wrap64 (X+1)),fa,H',⟨by have:=A8.o;omega⟩,fd⟩
    ·rw[if_neg c4]at H;exact absurd H (by simp)
   ·rw[if_neg c3]at H;have AZ:=df c3;clear c3;obtain rfl:=oj H;go_wp2
    go_ret
    exact⟨fa,fd⟩
def spec_l4Name.l0:Nat→ByteArray→Int→Option (Bool)
 | 0,_,_=>none
 |k+1,x0,x3=>if x3<(x0.size:Int)then(if 0≤x3 then(if(bt x0 x3)≥97 then(if(bt x0 x3)≤122 then(spec_l4Name.l0 k x0 (wrap64 (x3+1)))else(if(bt x0 x3)≥48 then(if(bt x0 x3)≤57 then(spec_l4Name.l0 k x0 (wrap64 (x3+1)))else(if((bt x0 x3)=46)then(spec_l4Name.l0 k x0 (wrap64 (x3+1)))else(some false)))else(if((bt x0 x3)=46)then(spec_l4Name.l0 k x0 (wrap64 (x3+1)))else(some false))))else(if(bt x0 x3)≥48 then(if(bt x0 x3)≤57 then(spec_l4Name.l0 k x0 (wrap64 (x3+1)))else(if((bt x0 x3)=46)then(spec_l4Name.l0 k x0 (wrap64 (x3+1)))else(some false)))else(if((bt x0 x3)=46)then(spec_l4Name.l0 k x0 (wrap64 (x3+1)))else(some false))))else(none))else(some true)
def spec_l4Name.f (k:Nat) (a0:ByteArray):Option (Bool):=(spec_l1In.f (a0.size:Int) 1 12).bind fun BW=>(if BW=true then(spec_l4Name.l0 k a0 0)else(some false))
theorem spec_l4Name.calls (k:Nat) (a0:ByteArray) (r:Bool) (w:World) (h:spec_l4Name.f k a0=some r) :
 Calls Tryz.prog 103 #[.string a0] w fun e w'=>e = .returned (.bool r)∧Drawn0 w w':=by
 have H:=h;unfold spec_l4Name.f at H;clear h;obtain⟨BW,A2,H⟩:=bd H;by_cases c3:BW=true
 ·subst c3;replace H:=iT H;have H':=aK H;clear H
  go_enter Tryz.func103,Tryz.ntmps103
  go_wp2_with (first|((with_reducible refine gC 99 rfl ?_);refine goesZ (some 7) rfl Tryz.func99 #[.int .i64 (a0.size:Int),.int .i64 1,.int .i64 12] ?_;(with_reducible refine(spec_l1In.calls (a0.size:Int) 1 12 _ _ A2.o).mono ?_);rintro e w' ⟨rfl,⟨nd,rfl⟩⟩;refine⟨_,rfl,?_⟩))
  go_loopg [3] k (fun kq v3 w'=>∃(A6:Int),v3 = .int .i64 A6∧Aside0 (spec_l4Name.l0 kq a0 A6=some r)∧Aside0 (kq≤k)∧Drawn0 w w')
  case atStart=>exact⟨(0),fa,H',⟨Nat.le_refl _⟩,fd⟩
  case round=>
   clear H';(try clear c1);(try clear p2);(try clear c3);obtain⟨A6,rfl,HA,A8,⟨m1,rfl⟩⟩:=hrel;cases gk with
   |zero=>exact absurd HA.o (by simp[spec_l4Name.l0])
   |succ k1=>
    have H:=HA.o;clear HA;simp only[spec_l4Name.l0]at H;by_cases c4:A6<(a0.size:Int)
    ·rw[if_pos c4]at H;have AA:=dt c4;clear c4;by_cases c5:0≤A6
     ·rw[if_pos c5]at H;have Ar:=dt c5;clear c5;have Hq_:=aK H;clear H;have p6:0≤(A6:Int):=dT am;have q6:A6<(a0.size:Int):=dT am;have Db:=bt_at a0 A6;replace p6:=eq_true p6;replace q6:=eq_true q6;have H:=Hq_.o;clear Hq_;by_cases c7:(bt a0 A6)≥97
      ·rw[if_pos c7]at H;have B1:=dt c7;(try rw[B1]);clear c7;by_cases c8:(bt a0 A6)≤122
       ·rw[if_pos c8]at H;have BX:=dt c8;(try rw[BX]);clear c8;have H':=aK H;clear H;go_wp2
        go_roundg k1
        case measure=>have:=A8.o;omega
        case rel=>exact⟨(wrap64 (A6+1)),fa,H',⟨by have:=A8.o;omega⟩,fd⟩
       ·rw[if_neg c8]at H;have BX:=df c8;(try rw[BX]);clear c8;by_cases c9:(bt a0 A6)≥48
        ·rw[if_pos c9]at H;have Bi:=dt c9;(try rw[Bi]);clear c9;by_cases c10:(bt a0 A6)≤57
         ·rw[if_pos c10]at H;have Bq:=dt c10;(try rw[Bq]);clear c10;have H':=aK H;clear H;go_wp2
          go_roundg k1
          case measure=>have:=A8.o;omega
          case rel=>exact⟨(wrap64 (A6+1)),fa,H',⟨by have:=A8.o;omega⟩,fd⟩
         ·rw[if_neg c10]at H;have Bq:=df c10;(try rw[Bq]);clear c10;by_cases AO:((bt a0 A6)=46)
          ·rw[if_pos AO]at H;have Bg:=bT AO;(try rw[Bg]);have Br:=bE AO;(try rw[Br]);clear AO;have H':=aK H;clear H;go_wp2
           go_roundg k1
           case measure=>have:=A8.o;omega
           case rel=>exact⟨(wrap64 (A6+1)),fa,H',⟨by have:=A8.o;omega⟩,fd⟩
          ·rw[if_neg AO]at H;have Bg:=bN AO;(try rw[Bg]);have Br:=bQ AO;(try rw[Br]);obtain rfl:=oj H;go_wp2
           go_ret
           exact⟨fa,fd⟩
        ·rw[if_neg c9]at H;have Bi:=df c9;(try rw[Bi]);clear c9;by_cases AP:((bt a0 A6)=46)
         ·rw[if_pos AP]at H;have Bs:=bT AP;(try rw[Bs]);have Bt:=bE AP;(try rw[Bt]);clear AP;have H':=aK H;clear H;go_wp2
          go_roundg k1
          case measure=>have:=A8.o;omega
          case rel=>exact⟨(wrap64 (A6+1)),fa,H',⟨by have:=A8.o;omega⟩,fd⟩
         ·rw[if_neg AP]at H;have Bs:=bN AP;(try rw[Bs]);have Bt:=bQ AP;(try rw[Bt]);obtain rfl:=oj H;go_wp2
          go_ret
          exact⟨fa,fd⟩
      ·rw[if_neg c7]at H;have B1:=df c7;(try rw[B1]);clear c7;by_cases BK:(bt a0 A6)≥48
       ·rw[if_pos BK]at H;have Bu:=dt BK;(try rw[Bu]);clear BK;by_cases BL:(bt a0 A6)≤57
        ·rw[if_pos BL]at H;have Bv:=dt BL;(try rw[Bv]);clear BL;have H':=aK H;clear H;go_wp2
         go_roundg k1
         case measure=>have:=A8.o;omega
         case rel=>exact⟨(wrap64 (A6+1)),fa,H',⟨by have:=A8.o;omega⟩,fd⟩
        ·rw[if_neg BL]at H;have Bv:=df BL;(try rw[Bv]);clear BL;by_cases AQ:((bt a0 A6)=46)
         ·rw[if_pos AQ]at H;have Bh:=bT AQ;(try rw[Bh]);have Bw:=bE AQ;(try rw[Bw]);clear AQ;have H':=aK H;clear H;go_wp2
          go_roundg k1
          case measure=>have:=A8.o;omega
          case rel=>exact⟨(wrap64 (A6+1)),fa,H',⟨by have:=A8.o;omega⟩,fd⟩
         ·rw[if_neg AQ]at H;have Bh:=bN AQ;(try rw[Bh]);have Bw:=bQ AQ;(try rw[Bw]);obtain rfl:=oj H;go_wp2
          go_ret
          exact⟨fa,fd⟩
       ·rw[if_neg BK]at H;have Bu:=df BK;(try rw[Bu]);clear BK;by_cases AJ:((bt a0 A6)=46)
        ·rw[if_pos AJ]at H;have Az:=bT AJ;(try rw[Az]);have Bx:=bE AJ;(try rw[Bx]);clear AJ;have H':=aK H;clear H;go_wp2
         go_roundg k1
         case measure=>have:=A8.o;omega
         case rel=>exact⟨(wrap64 (A6+1)),fa,H',⟨by have:=A8.o;omega⟩,fd⟩
        ·rw[if_neg AJ]at H;have Az:=bN AJ;(try rw[Az]);have Bx:=bQ AJ;(try rw[Bx]);obtain rfl:=oj H;go_wp2
         go_ret
         exact⟨fa,fd⟩
     ·rw[if_neg c5]at H;exact absurd H (by simp)
    ·rw[if_neg c4]at H;have AA:=df c4;clear c4;obtain rfl:=oj H;go_wp2
     go_ret
     exact⟨fa,fd⟩
 ·replace c3:=bF c3;subst c3;replace H:=iF H;obtain rfl:=oj H
  go_enter Tryz.func103,Tryz.ntmps103
  go_wp2_with (first|((with_reducible refine gC 99 rfl ?_);refine goesZ (some 7) rfl Tryz.func99 #[.int .i64 (a0.size:Int),.int .i64 1,.int .i64 12] ?_;(with_reducible refine(spec_l1In.calls (a0.size:Int) 1 12 _ _ A2.o).mono ?_);rintro e w' ⟨rfl,⟨nd,rfl⟩⟩;refine⟨_,rfl,?_⟩))
  go_ret
  exact⟨fa,fd⟩
def spec_l4Inode.l0:Nat→Int→Int→Int→Int→List (S130)→List (S133)→List (S135)→Option (Int)
 | 0,_,_,_,_,_,_,_=>none
 |k+1,x1,x5,BY,BZ,B2,C0,C1=>if x5<(B2.length:Int)then(if 0≤x5 then(if((rd_T130 B2 x5).f0)=x1 then(some x5)else(spec_l4Inode.l0 k x1 (wrap64 (x5+1)) BY BZ B2 C0 C1))else(none))else(some (-1))
def spec_l4Inode.f (k:Nat) (Ap:Int) (Aq:Int) (A9:List (S130)) (Ab:List (S133)) (Ac:List (S135)) (a1:Int):Option (Int):=spec_l4Inode.l0 k a1 0 Ap Aq A9 Ab Ac
theorem spec_l4Inode.calls (k:Nat) (Ap:Int) (Aq:Int) (AB:Option Addr) (AC:Nat) (A9:List (S130)) (AD:Option Addr) (AE:Nat) (Ab:List (S133)) (AF:Option Addr) (AG:Nat) (Ac:List (S135)) (a1:Int) (r:Int) (w:World) (AS:Kd.C k130 w AB A9.length A9) (AT:A9.length≤AC) (AU:Kd.C k133 w AD Ab.length Ab) (AV:Ab.length≤AE) (AW:Kd.C k135 w AF Ac.length Ac) (AX:Ac.length≤AG) (h:spec_l4Inode.f k Ap Aq A9 Ab Ac a1=some r) :
 Calls Tryz.prog 104 #[.agg #[.int .i64 Ap,.int .i64 Aq,.slice AB A9.length AC,.slice AD Ab.length AE,.slice AF Ac.length AG],.int .i64 a1] w fun e w'=>e = .returned (.int .i64 r)∧Below w.heap.size w w':=by
 have CF:=Tryz.underlying35;have Bo:=aK AS;have Cs:=aK AT;clear AS AT;have Ct:=aK AU;have Cu:=aK AV;clear AU AV;have Cv:=aK AW;have Cw:=aK AX;clear AW AX;have HB:=aK (Below.refl w.heap.size w);have H:=h;unfold spec_l4Inode.f at H;clear h;have H':=aK H;clear H
 go_enter Tryz.func104,Tryz.ntmps104
 go_wp2_with (first|((with_reducible refine gD 2 rfl ?_);refine boxZ 2 #[.int .i64 Ap,.int .i64 Aq,.slice AB A9.length AC,.slice AD Ab.length AE,.slice AF Ac.length AG] 35 ?_;intro C_ hg w3 hbox hb;have B3:=aK hbox;have D6:=gW HB hg;replace HB:=bS HB hb;clear hb hbox hg))
 go_loopg [5] k (fun kq v5 w'=>∃(X:Int),v5 = .int .i64 X∧Aside0 (spec_l4Inode.l0 kq a1 X Ap Aq A9 Ab Ac=some r)∧Aside0 (kq≤k)∧Aside0 (w'.heap[C_]? = some (.cells #[.int .i64 Ap,.int .i64 Aq,(.slice AB A9.length AC),(.slice AD Ab.length AE),(.slice AF Ac.length AG)] 35 (0,0)))∧Aside0 (Below w.heap.size w w'))
 case atStart=>exact⟨(0),fa,H',⟨Nat.le_refl _⟩,⟨bw B3⟩,⟨bl⟩⟩
 case round=>
  clear H';(try clear c1);(try clear p2);obtain⟨X,rfl,HA,A8,B3,HB⟩:=hrel;cases gk with
  |zero=>exact absurd HA.o (by simp[spec_l4Inode.l0])
  |succ k1=>
   have H:=HA.o;clear HA;simp only[spec_l4Inode.l0]at H;by_cases c4:X<(A9.length:Int)
   ·rw[if_pos c4]at H;have AA:=dt c4;clear c4;by_cases c5:0≤X
    ·rw[if_pos c5]at H;have Ar:=dt c5;clear c5;have Hq_:=aK H;clear H;obtain⟨_,_,_,_,_,_,_,_,_,_⟩:=cf5 B3;have C2:0≤(X:Int):=dT am;have C3:X<(A9.length:Int):=dT am;obtain⟨D7,CT,Bj,Bk,Bl⟩:=at_T130 Bo.o X C2 C3;cases CT;replace Bj:=cz HB Bj;replace Bk:=cz HB Bk;replace Bl:=cz HB Bl;replace C2:=eq_true C2;replace C3:=eq_true C3;have H:=Hq_.o;clear Hq_;by_cases c6:((rd_T130 A9 X).f0)=a1
     ·rw[if_pos c6]at H;have AN:=bT c6;(try rw[AN]);have B0:=bE c6;(try rw[B0]);clear c6;obtain rfl:=oj H;go_wp2
      go_ret
      exact⟨fe,bl⟩
     ·rw[if_neg c6]at H;have AN:=bN c6;(try rw[AN]);have B0:=bQ c6;(try rw[B0]);have H':=aK H;clear H;go_wp2
      go_roundg k1
      case measure=>have:=A8.o;omega
      case rel=>exact⟨(wrap64 (X+1)),fa,H',⟨by have:=A8.o;omega⟩,⟨bw B3⟩,⟨bl⟩⟩
    ·rw[if_neg c5]at H;exact absurd H (by simp)
   ·rw[if_neg c4]at H;have AA:=df c4;clear c4;obtain rfl:=oj H;obtain⟨_,_,_,_,_,_,_,_,_,_⟩:=cf5 B3;go_wp2
    go_ret
    exact⟨fe,bl⟩
def spec_l4At.l0:Nat→List (S133)→ByteArray→Int→Option (Int)
 | 0,_,_,_=>none
 |k+1,x0,x1,x5=>if x5<(x0.length:Int)then(if 0≤x5 then(if((rd_T133 x0 x5).f0).toList=x1.toList then(some x5)else(spec_l4At.l0 k x0 x1 (wrap64 (x5+1))))else(none))else(some (-1))
def spec_l4At.f (k:Nat) (l0:List (S133)) (a1:ByteArray):Option (Int):=spec_l4At.l0 k l0 a1 0
theorem spec_l4At.calls (k:Nat) (A0:Option Addr) (c0:Nat) (l0:List (S133)) (a1:ByteArray) (r:Int) (w:World) (AH:Kd.C k133 w A0 l0.length l0) (AI:l0.length≤c0) (h:spec_l4At.f k l0 a1=some r) :
 Calls Tryz.prog 160 #[.slice A0 l0.length c0,.string a1] w fun e w'=>e = .returned (.int .i64 r)∧Drawn0 w w':=by
 have AL:=aK AH;have Bp:=aK AI;clear AH AI;have H:=h;unfold spec_l4At.f at H;clear h;have H':=aK H;clear H
 go_enter Tryz.func160,Tryz.ntmps160
 go_wp2
 go_loopg [5] k (fun kq v5 w'=>∃(X:Int),v5 = .int .i64 X∧Aside0 (spec_l4At.l0 kq l0 a1 X=some r)∧Aside0 (kq≤k)∧Drawn0 w w')
 case atStart=>exact⟨(0),fa,H',⟨Nat.le_refl _⟩,fd⟩
 case round=>
  clear H';(try clear c1);(try clear p2);obtain⟨X,rfl,HA,A8,⟨m1,rfl⟩⟩:=hrel;cases gk with
  |zero=>exact absurd HA.o (by simp[spec_l4At.l0])
  |succ k1=>
   have H:=HA.o;clear HA;simp only[spec_l4At.l0]at H;by_cases c3:X<(l0.length:Int)
   ·rw[if_pos c3]at H;have AZ:=dt c3;clear c3;by_cases c4:0≤X
    ·rw[if_pos c4]at H;have AA:=dt c4;clear c4;have Hq_:=aK H;clear H;have C4:0≤(X:Int):=dT am;have C5:X<(l0.length:Int):=dT am;obtain⟨D8,CU,CV,CW⟩:=at_T133 AL.o X C4 C5;cases CU;replace C4:=eq_true C4;replace C5:=eq_true C5;have H:=Hq_.o;clear Hq_;by_cases c5:((rd_T133 l0 X).f0).toList=a1.toList
     ·rw[if_pos c5]at H;have Ar:=bT c5;(try rw[Ar]);have Au:=bE c5;(try rw[Au]);clear c5;obtain rfl:=oj H;go_wp2
      go_ret
      exact⟨fa,fd⟩
     ·rw[if_neg c5]at H;have Ar:=bN c5;(try rw[Ar]);have Au:=bQ c5;(try rw[Au]);have H':=aK H;clear H;go_wp2
      go_roundg k1
      case measure=>have:=A8.o;omega
      case rel=>exact⟨(wrap64 (X+1)),fa,H',⟨by have:=A8.o;omega⟩,fd⟩
    ·rw[if_neg c4]at H;exact absurd H (by simp)
   ·rw[if_neg c3]at H;have AZ:=df c3;clear c3;obtain rfl:=oj H;go_wp2
    go_ret
    exact⟨fa,fd⟩
def spec_l4Without.l0:Nat→List (S133)→ByteArray→List (S133)→Int→Option ((List (S133)))
 | 0,_,_,_,_=>none
 |k+1,x0,x1,x5,x6=>if x6<(x0.length:Int)then(if 0≤x6 then(if((rd_T133 x0 x6).f0).toList=x1.toList then(spec_l4Without.l0 k x0 x1 x5 (wrap64 (x6+1)))else(if x5.length<5864062014805 then(spec_l4Without.l0 k x0 x1 (x5 ++ [(⟨(rd_T133 x0 x6).f0,(rd_T133 x0 x6).f1⟩:S133)]) (wrap64 (x6+1)))else(none)))else(none))else(some x5)
def spec_l4Without.f (k:Nat) (l0:List (S133)) (a1:ByteArray):Option ((List (S133))):=spec_l4Without.l0 k l0 a1 (([]:List (S133))) 0
theorem spec_l4Without.calls (k:Nat) (A0:Option Addr) (c0:Nat) (l0:List (S133)) (a1:ByteArray) (r:List (S133)) (w:World) (AH:Kd.C k133 w A0 l0.length l0) (AI:l0.length≤c0) (h:spec_l4Without.f k l0 a1=some r) :
 Calls Tryz.prog 162 #[.slice A0 l0.length c0,.string a1] w fun e w'=>∃C6:Value,e = .returned (C6)∧Kd.R k133 133 w' w.heap.size (fun _=>True) C6 r∧Below w.heap.size w w':=by
 have CA:=Tryz.underlying133;have AL:=aK AH;have Bp:=aK AI;clear AH AI;have HB:=aK (Below.refl w.heap.size w);have H:=h;unfold spec_l4Without.f at H;clear h;obtain⟨Cl,B4⟩:∃y_:List (S133),y_=(([]:List (S133))):=⟨_,rfl⟩;replace H:(spec_l4Without.l0 k l0 a1 Cl 0)=some r:=by first|(rw[B4];with_reducible exact H)|(have Ad:=(Option.bind_some _ _).symm.trans H;rw[B4];with_reducible exact Ad)|(have Ad:=(Option.bind_some _ _).symm.trans H;with_reducible exact Ad)|with_reducible exact H|(rw[B4];exact H)|exact H
 have C7:=aK B4;clear B4;have H':=aK H;clear H
 go_enter Tryz.func162,Tryz.ntmps162
 go_wp2_with (first|((with_reducible refine gD 7 rfl ?_);refine Kd.R_lit k133 _ 133 ?hg (N:=7) ?hd (xs:=([]:List (S133))) (inner:=[]) (ok:=fun _=>True) (okp:=fun _=>True) ?hr ?hp (fun _ hk=>hk) trivial (Below.refl _ _) (Nat.le_refl _) (by simp) ?_;(case hd=>rfl);(case hg=>rfl);(case hr=>first|(go_simp;done)|(go_simp;rfl));(case hp=>exact(Reps.none _ _));intro Da w3 C8 hb hg_ hnew_;clear hg_ hnew_;(first|rw[←C7.o]at C8|(simp only[Int.reduceToNat]at C8;rw[←C7.o]at C8));have CB:=rl HB C8;replace HB:=bS HB hb;clear hb C8))
 go_loopg [5,6] k (fun kq v5 v6 w'=>∃(X:List (S133)) (A7:Int),v6 = .int .i64 A7∧Aside0 (spec_l4Without.l0 kq l0 a1 X A7=some r)∧Aside0 (kq≤k)∧Aside0 (Kd.R k133 133 w' w.heap.size (fun _=>True) v5 X)∧Aside0 (Below w.heap.size w w'))
 case atStart=>exact⟨(Cl),(0),fa,H',⟨Nat.le_refl _⟩,⟨rpR CB.o⟩,⟨bl⟩⟩
 case round=>
  clear H';(try clear c1);(try clear p2);obtain⟨X,A7,rfl,HA,A8,A5,HB⟩:=hrel;cases gk with
  |zero=>exact absurd HA.o (by simp[spec_l4Without.l0])
  |succ k1=>
   have H:=HA.o;clear HA;simp only[spec_l4Without.l0]at H;by_cases c5:A7<(l0.length:Int)
   ·rw[if_pos c5]at H;have Ar:=dt c5;clear c5;by_cases c6:0≤A7
    ·rw[if_pos c6]at H;have AN:=dt c6;clear c6;have Hq_:=aK H;clear H;have C9:0≤(A7:Int):=dT am;have Ca:A7<(l0.length:Int):=dT am;obtain⟨CC,CX,Bm,Bn⟩:=at_T133 AL.o A7 C9 Ca;cases CX;replace Bm:=cz HB Bm;replace Bn:=cz HB Bn;replace C9:=eq_true C9;replace Ca:=eq_true Ca;have H:=Hq_.o;clear Hq_;by_cases c7:((rd_T133 l0 A7).f0).toList=a1.toList
     ·rw[if_pos c7]at H;have B1:=bT c7;(try rw[B1]);have Cb:=bE c7;(try rw[Cb]);clear c7;have H':=aK H;clear H;go_wp2
      go_roundg k1
      case measure=>have:=A8.o;omega
      case rel=>exact⟨(X),(wrap64 (A7+1)),fa,H',⟨by have:=A8.o;omega⟩,⟨rpR A5.o⟩,⟨bl⟩⟩
     ·rw[if_neg c7]at H;have B1:=bN c7;(try rw[B1]);have Cb:=bQ c7;(try rw[Cb]);by_cases c8:X.length<5864062014805
      ·rw[if_pos c8]at H;have CY:=aK c8;clear c8;obtain⟨Cm,B5⟩:∃y_:List (S133),y_=(X ++ [(⟨(rd_T133 l0 A7).f0,(rd_T133 l0 A7).f1⟩:S133)]):=⟨_,rfl⟩;replace H:(spec_l4Without.l0 k1 l0 a1 Cm (wrap64 (A7+1)))=some r:=by first|(rw[B5];with_reducible exact H)|(have Ad:=(Option.bind_some _ _).symm.trans H;rw[B5];with_reducible exact Ad)|(have Ad:=(Option.bind_some _ _).symm.trans H;with_reducible exact Ad)|with_reducible exact H|(rw[B5];exact H)|exact H
       have CD:=aK B5;clear B5;have H':=aK H;clear H;have Ak:0≤(A7:Int):=dT am;have Al:A7<(l0.length:Int):=dT am;obtain⟨As,AK,An,Ao⟩:=at_T133 AL.o A7 Ak Al;obtain rfl:CC=As:=(by injection AK);replace An:=cz HB An;replace Ao:=cz HB Ao;replace Ak:=eq_true Ak;replace Al:=eq_true Al;go_wp2_with (first|((with_reducible refine gate_builtin (b:=.append) (xs:=#[.tmp 21,.tmp 26]) rfl ?_);at_builtin;refine Kd.R_append k133 (w0:=w) w.heap.size rfl (.tmp 21) (.tmp 26) 32 133 (.agg #[(.string ⟨#[]⟩),(.int .i64 0)]) 24 rfl Tryz.underlying32 info133 rfl (by decide) (by omega) u5 X (⟨(rd_T133 l0 A7).f0,(rd_T133 l0 A7).f1⟩:S133) [.string ((rd_T133 l0 A7).f0),.int .i64 ((rd_T133 l0 A7).f1)] (fun _=>True) (fun _=>False) rfl rfl ?aP (fun _ hk=>hk.elim) ?aF ?aO ?aB ?aS ?aL ?_;(case aP=>exact k133_mkM _ _ _ (⟨(rd_T133 l0 A7).f0,(rd_T133 l0 A7).f1⟩:S133));(case aB=>exact bl);(case aF=>exact(fun _ _=>trivial));(case aO=>exact(rpR A5.o));(case aS=>exact(below_size bl));(case aL=>have:=CY.o;omega);intro A_ CE ho hb hg hat;rw[←CD.o]at ho;replace HB:=aK (hb);have Aa:=aK (ho);clear A5;clear ho hb hg hat))
       go_roundg k1
       case measure=>have:=A8.o;omega
       case rel=>exact⟨(Cm),(wrap64 (A7+1)),fa,H',⟨by have:=A8.o;omega⟩,⟨rpR Aa.o⟩,⟨bl⟩⟩
      ·rw[if_neg c8]at H;exact absurd H (by simp)
    ·rw[if_neg c6]at H;exact absurd H (by simp)
   ·rw[if_neg c5]at H;have Ar:=df c5;clear c5;obtain rfl:=oj H;go_wp2
    go_ret
    exact⟨_,fe,rpR A5.o,bl⟩
def spec_l4With.l0:Nat→List (S133)→List (S133)→Bool→Int→ByteArray→Int→Option ((List (S133)))
 | 0,_,_,_,_,_,_=>none
 |k+1,x0,x5,x6,x7,At,Av=>if x7<(x0.length:Int)then(if x6=true then(if 0≤x7 then(if x5.length<5864062014805 then(spec_l4With.l0 k x0 (x5 ++ [(⟨(rd_T133 x0 x7).f0,(rd_T133 x0 x7).f1⟩:S133)]) x6 (wrap64 (x7+1)) At Av)else(none))else(none))else(if 0≤x7 then(if(Op.bytesLess At.toList (((rd_T133 x0 x7).f0).toList))=true then(if x5.length<5864062014805 then((some (x5 ++ [(⟨At,Av⟩:S133)]:List (S133))).bind fun Ay=>(if Ay.length<5864062014805 then(spec_l4With.l0 k x0 (Ay ++ [(⟨(rd_T133 x0 x7).f0,(rd_T133 x0 x7).f1⟩:S133)]) true (wrap64 (x7+1)) At Av)else(none)))else(none))else(if x5.length<5864062014805 then(spec_l4With.l0 k x0 (x5 ++ [(⟨(rd_T133 x0 x7).f0,(rd_T133 x0 x7).f1⟩:S133)]) x6 (wrap64 (x7+1)) At Av)else(none)))else(none)))else(if x6=true then(some x5)else(if x5.length<5864062014805 then(some (x5 ++ [(⟨At,Av⟩:S133)]))else(none)))
def spec_l4With.f (k:Nat) (l0:List (S133)) (Y:ByteArray) (Z:Int):Option ((List (S133))):=(spec_l4Without.f k l0 Y).bind fun D=>(spec_l4With.l0 k D (([]:List (S133))) false 0 Y Z)
theorem spec_l4With.calls (k:Nat) (A0:Option Addr) (c0:Nat) (l0:List (S133)) (Y:ByteArray) (Z:Int) (r:List (S133)) (w:World) (AH:Kd.C k133 w A0 l0.length l0) (AI:l0.length≤c0) (h:spec_l4With.f k l0 Y Z=some r) :
 Calls Tryz.prog 161 #[.slice A0 l0.length c0,.agg #[.string Y,.int .i64 Z]] w fun e w'=>∃C6:Value,e = .returned (C6)∧Kd.R k133 133 w' w.heap.size (fun _=>True) C6 r∧Below w.heap.size w w':=by
 have CA:=Tryz.underlying133;have AL:=aK AH;have Bp:=aK AI;clear AH AI;have HB:=aK (Below.refl w.heap.size w);have H:=h;unfold spec_l4With.f at H;clear h;obtain⟨Cn,B6⟩:∃y_:List (S133),y_=(([]:List (S133))):=⟨_,rfl⟩;replace H:((spec_l4Without.f k l0 Y).bind fun D=>(spec_l4With.l0 k D Cn false 0 Y Z))=some r:=by first|(rw[B6];with_reducible exact H)|(have Ad:=(Option.bind_some _ _).symm.trans H;rw[B6];with_reducible exact Ad)|(have Ad:=(Option.bind_some _ _).symm.trans H;with_reducible exact Ad)|with_reducible exact H|(rw[B6];exact H)|exact H
 have AM:=aK B6;clear B6;obtain⟨D,A3,H⟩:=bd H;have H':=aK H;clear H
 go_enter Tryz.func161,Tryz.ntmps161
 go_wp2_with (first|((with_reducible refine gD 3 rfl ?_);refine boxZ 3 #[.string Y,.int .i64 Z] 133 ?_;intro J hg w4 hbox hb;have A4:=aK hbox;have Cc:=gW HB hg;replace HB:=bS HB hb;clear hb hbox hg)|((with_reducible refine gD 8 rfl ?_);refine Kd.R_lit k133 _ 133 ?hg (N:=8) ?hd (xs:=([]:List (S133))) (inner:=[]) (ok:=fun _=>True) (okp:=fun _=>True) ?hr ?hp (fun _ hk=>hk) trivial (Below.refl _ _) (Nat.le_refl _) (by simp) ?_;(case hd=>rfl);(case hg=>rfl);(case hr=>first|(go_simp;done)|(go_simp;rfl));(case hp=>exact(Reps.none _ _));intro Co w5 Aw hb hg_ hnew_;clear hg_ hnew_;(first|rw[←AM.o]at Aw|(simp only[Int.reduceToNat]at Aw;rw[←AM.o]at Aw));have Ae:=rl HB (Kd.R_newB Aw (g:=J) (o:=.cells #[.string Y,.int .i64 Z] 133 (0,0)) bk);replace A4:=bv A4 hb;replace HB:=bS HB hb;clear hb Aw;obtain⟨_,_,_,_⟩:=cf2 A4)|(go_at_call 162;(with_reducible refine(spec_l4Without.calls k _ _ l0 Y D _ ?_ ?_ A3.o).mono ?_);exact cB AL HB;exact Bp.o;rintro e w8 ⟨BJ,rfl,B7,hb⟩;have By:=rl HB (Kd.R_newB (Kd.R_new' B7 (Kd.R_lt (rpR Ae.o))) (g:=J) (o:=.cells #[.string Y,.int .i64 Z] 133 (0,0)) bk);replace Ae:=re Ae.o B7 hb;replace A4:=bv A4 hb;replace HB:=bS HB hb;(try clear hb B7)))
 repeat (go_quiet (first|((with_reducible refine gD 3 rfl ?_);refine boxZ 3 #[.string Y,.int .i64 Z] 133 ?_;intro J hg w4 hbox hb;have A4:=aK hbox;have Cc:=gW HB hg;replace HB:=bS HB hb;clear hb hbox hg)|((with_reducible refine gD 8 rfl ?_);refine Kd.R_lit k133 _ 133 ?hg (N:=8) ?hd (xs:=([]:List (S133))) (inner:=[]) (ok:=fun _=>True) (okp:=fun _=>True) ?hr ?hp (fun _ hk=>hk) trivial (Below.refl _ _) (Nat.le_refl _) (by simp) ?_;(case hd=>rfl);(case hg=>rfl);(case hr=>first|(go_simp;done)|(go_simp;rfl));(case hp=>exact(Reps.none _ _));intro Co w5 Aw hb hg_ hnew_;clear hg_ hnew_;(first|rw[←AM.o]at Aw|(simp only[Int.reduceToNat]at Aw;rw[←AM.o]at Aw));have Ae:=rl HB (Kd.R_newB Aw (g:=J) (o:=.cells #[.string Y,.int .i64 Z] 133 (0,0)) bk);replace A4:=bv A4 hb;replace HB:=bS HB hb;clear hb Aw;obtain⟨_,_,_,_⟩:=cf2 A4)|(go_at_call 162;(with_reducible refine(spec_l4Without.calls k _ _ l0 Y D _ ?_ ?_ A3.o).mono ?_);exact cB AL HB;exact Bp.o;rintro e w8 ⟨BJ,rfl,B7,hb⟩;have Af:=re Ae.o B7 hb;have Ag:=rl HB (Kd.R_newB (Kd.R_new' B7 (Kd.R_lt (rpR Ae.o))) (g:=J) (o:=.cells #[.string Y,.int .i64 Z] 133 (0,0)) bk);have Ah:=aK (blk_below (g:=J) (o:=.cells #[.string Y,.int .i64 Z] 133 (0,0)) bk hb);have Ai:=aK (below_step bl hb);clear Ae;clear A4;clear HB;have Ae:=Af;have By:=Ag;have A4:=Ah;have HB:=Ai;clear Af Ag Ah Ai;(try clear hb);(try clear D9);(try clear hk);(try clear hi);(try clear B7)));try go_wp2_with (first|((with_reducible refine gD 3 rfl ?_);refine boxZ 3 #[.string Y,.int .i64 Z] 133 ?_;intro J hg w4 hbox hb;have A4:=aK hbox;have Cc:=gW HB hg;replace HB:=bS HB hb;clear hb hbox hg)|((with_reducible refine gD 8 rfl ?_);refine Kd.R_lit k133 _ 133 ?hg (N:=8) ?hd (xs:=([]:List (S133))) (inner:=[]) (ok:=fun _=>True) (okp:=fun _=>True) ?hr ?hp (fun _ hk=>hk) trivial (Below.refl _ _) (Nat.le_refl _) (by simp) ?_;(case hd=>rfl);(case hg=>rfl);(case hr=>first|(go_simp;done)|(go_simp;rfl));(case hp=>exact(Reps.none _ _));intro Co w5 Aw hb hg_ hnew_;clear hg_ hnew_;(first|rw[←AM.o]at Aw|(simp only[Int.reduceToNat]at Aw;rw[←AM.o]at Aw));have Ae:=rl HB (Kd.R_newB Aw (g:=J) (o:=.cells #[.string Y,.int .i64 Z] 133 (0,0)) bk);replace A4:=bv A4 hb;replace HB:=bS HB hb;clear hb Aw;obtain⟨_,_,_,_⟩:=cf2 A4)|(go_at_call 162;(with_reducible refine(spec_l4Without.calls k _ _ l0 Y D _ ?_ ?_ A3.o).mono ?_);exact cB AL HB;exact Bp.o;rintro e w8 ⟨BJ,rfl,B7,hb⟩;have Af:=re Ae.o B7 hb;have Ag:=rl HB (Kd.R_newB (Kd.R_new' B7 (Kd.R_lt (rpR Ae.o))) (g:=J) (o:=.cells #[.string Y,.int .i64 Z] 133 (0,0)) bk);have Ah:=aK (blk_below (g:=J) (o:=.cells #[.string Y,.int .i64 Z] 133 (0,0)) bk hb);have Ai:=aK (below_step bl hb);clear Ae;clear A4;clear HB;have Ae:=Af;have By:=Ag;have A4:=Ah;have HB:=Ai;clear Af Ag Ah Ai;(try clear hb);(try clear D9);(try clear hk);(try clear hi);(try clear B7))))
 go_loopg [5,6,7] k (fun kq v5 v6 v7 w'=>∃(X:List (S133)) (A7:Bool) (U:Int),v6 = .bool A7∧v7 = .int .i64 U∧Aside0 (spec_l4With.l0 kq D X A7 U Y Z=some r)∧Aside0 (kq≤k)∧Aside0 (Kd.R k133 133 w' w.heap.size (fun k_=>some k_≠(v5:Value).ownBlock∧k_≠J) BJ D)∧Aside0 (Kd.R k133 133 w' w.heap.size (fun k_=>some k_≠(BJ:Value).ownBlock∧k_≠J) v5 X)∧Aside0 (w'.heap[J]? = some (.cells #[.string Y,.int .i64 Z] 133 (0,0)))∧Aside0 (Below w.heap.size w w'))
 case atStart=>exact⟨(Cn),(false),(0),fa,fa,H',⟨Nat.le_refl _⟩,⟨rpR (rM By.o (fun _ hk=>⟨hk.1.2,hk.2⟩))⟩,⟨rpR (rM Ae.o (fun _ hk=>⟨hk.2,hk.1.2⟩))⟩,⟨bw A4⟩,⟨bl⟩⟩
 case round=>
  clear H';(try clear c1);(try clear p2);obtain⟨X,A7,U,rfl,rfl,HA,A8,A1,A5,A4,HB⟩:=hrel;cases gk with
  |zero=>exact absurd HA.o (by simp[spec_l4With.l0])
  |succ k1=>
   have H:=HA.o;clear HA;simp only[spec_l4With.l0]at H;by_cases c9:U<(D.length:Int)
   ·rw[if_pos c9]at H;have Bi:=dt c9;clear c9;by_cases c10:A7=true
    ·subst c10;replace H:=iT H;by_cases AO:0≤U
     ·rw[if_pos AO]at H;have Bg:=dt AO;clear AO;by_cases AP:X.length<5864062014805
      ·rw[if_pos AP]at H;have Bz:=aK AP;clear AP;obtain⟨Cp,B8⟩:∃y_:List (S133),y_=(X ++ [(⟨(rd_T133 D U).f0,(rd_T133 D U).f1⟩:S133)]):=⟨_,rfl⟩;replace H:(spec_l4With.l0 k1 D Cp true (wrap64 (U+1)) Y Z)=some r:=by first|(rw[B8];with_reducible exact H)|(have Ad:=(Option.bind_some _ _).symm.trans H;rw[B8];with_reducible exact Ad)|(have Ad:=(Option.bind_some _ _).symm.trans H;with_reducible exact Ad)|with_reducible exact H|(rw[B8];exact H)|exact H
       have B_:=aK B8;clear B8;have H':=aK H;clear H;obtain⟨Bf,Aj,B9⟩:=rs A1;subst B9;have Ak:0≤(U:Int):=dT am;have Al:U<(D.length:Int):=dT am;obtain⟨As,AK,An,Ao⟩:=at_T133 (Kd.R_reads' A1.o).2.2 U Ak Al;cases AK;replace Ak:=eq_true Ak;replace Al:=eq_true Al
       go_wp2_with (first|((with_reducible refine gate_builtin (b:=.append) (xs:=#[.tmp 35,.tmp 40]) rfl ?_);at_builtin;refine Kd.R_append k133 (w0:=w) w.heap.size rfl (.tmp 35) (.tmp 40) 32 133 (.agg #[(.string ⟨#[]⟩),(.int .i64 0)]) 24 rfl Tryz.underlying32 info133 rfl (by decide) (by omega) u5 X (⟨(rd_T133 D U).f0,(rd_T133 D U).f1⟩:S133) [.string ((rd_T133 D U).f0),.int .i64 ((rd_T133 D U).f1)] (fun k_=>some k_≠(.slice (some As) D.length Aj:Value).ownBlock∧k_≠J) (fun _=>False) rfl rfl ?aP (fun _ hk=>hk.elim) ?aF ?aO ?aB ?aS ?aL ?_;(case aP=>exact k133_mkM _ _ _ (⟨(rd_T133 D U).f0,(rd_T133 D U).f1⟩:S133));(case aB=>exact bl);(case aF=>exact(fun k_ hk=>⟨Kd.fresh' (Kd.R_lt (rpR A1.o)) k_ hk,Kd.freshB (g:=J) (o:=.cells #[.string Y,.int .i64 Z] 133 (0,0)) bk k_ hk⟩));(case aO=>exact(rpR A5.o));(case aS=>exact(below_size bl));(case aL=>have:=Bz.o;omega);intro A_ Ba ho hb hg hat;rw[←B_.o]at ho;replace A1:=aK (Kd.R_after (ok:=(fun k_=>k_≠J)) (rpR (rM A1.o (fun _ hk=>⟨hk.2,hk.1⟩))) hg hat);replace A4:=aK (blk_grown (g:=J) (o:=.cells #[.string Y,.int .i64 Z] 133 (0,0)) bk hg (Kd.R_away A5.o (fun _ hk=>hk.2)));replace HB:=aK (hb);have Aa:=aK (ho);clear A5;clear ho hb hg hat))
       repeat (go_quiet (first|((with_reducible refine gate_builtin (b:=.append) (xs:=#[.tmp 35,.tmp 40]) rfl ?_);at_builtin;refine Kd.R_append k133 (w0:=w) w.heap.size rfl (.tmp 35) (.tmp 40) 32 133 (.agg #[(.string ⟨#[]⟩),(.int .i64 0)]) 24 rfl Tryz.underlying32 info133 rfl (by decide) (by omega) u5 X (⟨(rd_T133 D U).f0,(rd_T133 D U).f1⟩:S133) [.string ((rd_T133 D U).f0),.int .i64 ((rd_T133 D U).f1)] (fun k_=>some k_≠(.slice (some As) D.length Aj:Value).ownBlock∧k_≠J) (fun _=>False) rfl rfl ?aP (fun _ hk=>hk.elim) ?aF ?aO ?aB ?aS ?aL ?_;(case aP=>exact k133_mkM _ _ _ (⟨(rd_T133 D U).f0,(rd_T133 D U).f1⟩:S133));(case aB=>exact bl);(case aF=>exact(fun k_ hk=>⟨Kd.fresh' (Kd.R_lt (rpR A1.o)) k_ hk,Kd.freshB (g:=J) (o:=.cells #[.string Y,.int .i64 Z] 133 (0,0)) bk k_ hk⟩));(case aO=>exact(rpR A5.o));(case aS=>exact(below_size bl));(case aL=>have:=Bz.o;omega);intro A_ Ba ho hb hg hat;rw[←B_.o]at ho;have Af:=aK (Kd.R_after (ok:=(fun k_=>k_≠J)) (rpR (rM A1.o (fun _ hk=>⟨hk.2,hk.1⟩))) hg hat);have Ag:=aK (blk_grown (g:=J) (o:=.cells #[.string Y,.int .i64 Z] 133 (0,0)) bk hg (Kd.R_away A5.o (fun _ hk=>hk.2)));have Ah:=aK (hb);have Ai:=aK (ho);clear A1;clear A4;clear HB;clear A5;have A1:=Af;have A4:=Ag;have HB:=Ah;have Aa:=Ai;clear Af Ag Ah Ai;clear ho hb hg hat));try go_wp2_with (first|((with_reducible refine gate_builtin (b:=.append) (xs:=#[.tmp 35,.tmp 40]) rfl ?_);at_builtin;refine Kd.R_append k133 (w0:=w) w.heap.size rfl (.tmp 35) (.tmp 40) 32 133 (.agg #[(.string ⟨#[]⟩),(.int .i64 0)]) 24 rfl Tryz.underlying32 info133 rfl (by decide) (by omega) u5 X (⟨(rd_T133 D U).f0,(rd_T133 D U).f1⟩:S133) [.string ((rd_T133 D U).f0),.int .i64 ((rd_T133 D U).f1)] (fun k_=>some k_≠(.slice (some As) D.length Aj:Value).ownBlock∧k_≠J) (fun _=>False) rfl rfl ?aP (fun _ hk=>hk.elim) ?aF ?aO ?aB ?aS ?aL ?_;(case aP=>exact k133_mkM _ _ _ (⟨(rd_T133 D U).f0,(rd_T133 D U).f1⟩:S133));(case aB=>exact bl);(case aF=>exact(fun k_ hk=>⟨Kd.fresh' (Kd.R_lt (rpR A1.o)) k_ hk,Kd.freshB (g:=J) (o:=.cells #[.string Y,.int .i64 Z] 133 (0,0)) bk k_ hk⟩));(case aO=>exact(rpR A5.o));(case aS=>exact(below_size bl));(case aL=>have:=Bz.o;omega);intro A_ Ba ho hb hg hat;rw[←B_.o]at ho;have Af:=aK (Kd.R_after (ok:=(fun k_=>k_≠J)) (rpR (rM A1.o (fun _ hk=>⟨hk.2,hk.1⟩))) hg hat);have Ag:=aK (blk_grown (g:=J) (o:=.cells #[.string Y,.int .i64 Z] 133 (0,0)) bk hg (Kd.R_away A5.o (fun _ hk=>hk.2)));have Ah:=aK (hb);have Ai:=aK (ho);clear A1;clear A4;clear HB;clear A5;have A1:=Af;have A4:=Ag;have HB:=Ah;have Aa:=Ai;clear Af Ag Ah Ai;clear ho hb hg hat)))
       go_roundg k1
       case measure=>have:=A8.o;omega
       case rel=>exact⟨(Cp),(true),(wrap64 (U+1)),fa,fa,H',⟨by have:=A8.o;omega⟩,⟨rpR (rM A1.o (fun _ hk=>⟨hk.2,hk.1⟩))⟩,⟨rpR Aa.o⟩,⟨bw A4⟩,⟨bl⟩⟩
      ·rw[if_neg AP]at H;exact absurd H (by simp)
     ·rw[if_neg AO]at H;exact absurd H (by simp)
    ·replace c10:=bF c10;subst c10;replace H:=iF H;by_cases AQ:0≤U
     ·rw[if_pos AQ]at H;have Bh:=dt AQ;clear AQ;have Hq_:=aK H;clear H;obtain⟨Bf,Aj,B9⟩:=rs A1;subst B9;obtain⟨_,_,_,_⟩:=cf2 A4;have Cd:0≤(U:Int):=dT am;have Ce:U<(D.length:Int):=dT am;obtain⟨Am,CZ,D0,D1⟩:=at_T133 (Kd.R_reads' A1.o).2.2 U Cd Ce;cases CZ;replace Cd:=eq_true Cd;replace Ce:=eq_true Ce;have H:=Hq_.o;clear Hq_;by_cases AJ:(Op.bytesLess Y.toList (((rd_T133 D U).f0).toList))=true
      ·rw[if_pos AJ]at H;have Az:(Op.bytesLess Y.toList (((rd_T133 D U).f0).toList))=true:=AJ;(try rw[Az]);clear AJ;by_cases Cg:X.length<5864062014805
       ·rw[if_pos Cg]at H;have BA:=aK Cg;clear Cg;obtain⟨Ay,Bb⟩:∃y_:List (S133),y_=(X ++ [(⟨Y,Z⟩:S133)]):=⟨_,rfl⟩;replace H:(if Ay.length<5864062014805 then(spec_l4With.l0 k1 D (Ay ++ [(⟨(rd_T133 D U).f0,(rd_T133 D U).f1⟩:S133)]) true (wrap64 (U+1)) Y Z)else(none))=some r:=by first|(rw[Bb];with_reducible exact H)|(have Ad:=(Option.bind_some _ _).symm.trans H;rw[Bb];with_reducible exact Ad)|(have Ad:=(Option.bind_some _ _).symm.trans H;with_reducible exact Ad)|with_reducible exact H|(rw[Bb];exact H)|exact H
        have BB:=aK Bb;clear Bb;by_cases Ch:Ay.length<5864062014805
        ·rw[if_pos Ch]at H;have BC:=aK Ch;clear Ch;obtain⟨Cq,Bc⟩:∃y_:List (S133),y_=(Ay ++ [(⟨(rd_T133 D U).f0,(rd_T133 D U).f1⟩:S133)]):=⟨_,rfl⟩;replace H:(spec_l4With.l0 k1 D Cq true (wrap64 (U+1)) Y Z)=some r:=by first|(rw[Bc];with_reducible exact H)|(have Ad:=(Option.bind_some _ _).symm.trans H;rw[Bc];with_reducible exact Ad)|(have Ad:=(Option.bind_some _ _).symm.trans H;with_reducible exact Ad)|with_reducible exact H|(rw[Bc];exact H)|exact H
         have BD:=aK Bc;clear Bc;have H':=aK H;clear H
         go_wp2_with (first|((with_reducible refine gate_builtin (b:=.append) (xs:=#[.tmp 31,.tmp 33]) rfl ?_);at_builtin;refine Kd.R_append k133 (w0:=w) w.heap.size rfl (.tmp 31) (.tmp 33) 32 133 (.agg #[(.string ⟨#[]⟩),(.int .i64 0)]) 24 rfl Tryz.underlying32 info133 rfl (by decide) (by omega) u5 X (⟨Y,Z⟩:S133) [.string Y,.int .i64 Z] (fun k_=>some k_≠(.slice (some Am) D.length Aj:Value).ownBlock∧k_≠J) (fun _=>False) rfl rfl ?aP (fun _ hk=>hk.elim) ?aF ?aO ?aB ?aS ?aL ?_;(case aP=>exact k133_mkM _ _ _ (⟨Y,Z⟩:S133));(case aB=>exact bl);(case aF=>exact(fun k_ hk=>⟨Kd.fresh' (Kd.R_lt (rpR A1.o)) k_ hk,Kd.freshB (g:=J) (o:=.cells #[.string Y,.int .i64 Z] 133 (0,0)) bk k_ hk⟩));(case aO=>exact(rpR A5.o));(case aS=>exact(below_size bl));(case aL=>have:=BA.o;omega);intro A_ Ba ho hb hg hat;rw[←BB.o]at ho;replace A1:=aK (Kd.R_after (ok:=(fun k_=>k_≠J)) (rpR (rM A1.o (fun _ hk=>⟨hk.2,hk.1⟩))) hg hat);replace A4:=aK (blk_grown (g:=J) (o:=.cells #[.string Y,.int .i64 Z] 133 (0,0)) bk hg (Kd.R_away A5.o (fun _ hk=>hk.2)));replace HB:=aK (hb);have Aa:=aK (ho);clear A5;clear ho hb hg hat;have Ak:0≤(U:Int):=dT am;have Al:U<(D.length:Int):=dT am;obtain⟨As,AK,An,Ao⟩:=at_T133 (Kd.R_reads' A1.o).2.2 U Ak Al;obtain rfl:Am=As:=(by injection AK);replace Ak:=eq_true Ak;replace Al:=eq_true Al)|((with_reducible refine gate_builtin (b:=.append) (xs:=#[.tmp 35,.tmp 40]) rfl ?_);at_builtin;refine Kd.R_append k133 (w0:=w) w.heap.size rfl (.tmp 35) (.tmp 40) 32 133 (.agg #[(.string ⟨#[]⟩),(.int .i64 0)]) 24 rfl Tryz.underlying32 info133 rfl (by decide) (by omega) A_ Ay (⟨(rd_T133 D U).f0,(rd_T133 D U).f1⟩:S133) [.string ((rd_T133 D U).f0),.int .i64 ((rd_T133 D U).f1)] (fun k_=>some k_≠(.slice (some Am) D.length Aj:Value).ownBlock∧k_≠J) (fun _=>False) rfl rfl ?aP (fun _ hk=>hk.elim) ?aF ?aO ?aB ?aS ?aL ?_;(case aP=>exact k133_mkM _ _ _ (⟨(rd_T133 D U).f0,(rd_T133 D U).f1⟩:S133));(case aB=>exact bl);(case aF=>exact(fun k_ hk=>⟨Kd.fresh' (Kd.R_lt (rpR A1.o)) k_ hk,Kd.freshB (g:=J) (o:=.cells #[.string Y,.int .i64 Z] 133 (0,0)) bk k_ hk⟩));(case aO=>exact(rpR Aa.o));(case aS=>exact(below_size bl));(case aL=>have:=BC.o;omega);intro D2 CE ho hb hg hat;rw[←BD.o]at ho;replace A1:=aK (Kd.R_after (ok:=(fun k_=>k_≠J)) (rpR A1.o) hg hat);replace A4:=aK (blk_grown (g:=J) (o:=.cells #[.string Y,.int .i64 Z] 133 (0,0)) bk hg (Kd.R_away Aa.o (fun _ hk=>hk.2)));replace HB:=aK (hb);have Cf:=aK (ho);clear Aa;clear ho hb hg hat))
         repeat (go_quiet (first|((with_reducible refine gate_builtin (b:=.append) (xs:=#[.tmp 31,.tmp 33]) rfl ?_);at_builtin;refine Kd.R_append k133 (w0:=w) w.heap.size rfl (.tmp 31) (.tmp 33) 32 133 (.agg #[(.string ⟨#[]⟩),(.int .i64 0)]) 24 rfl Tryz.underlying32 info133 rfl (by decide) (by omega) u5 X (⟨Y,Z⟩:S133) [.string Y,.int .i64 Z] (fun k_=>some k_≠(.slice (some Am) D.length Aj:Value).ownBlock∧k_≠J) (fun _=>False) rfl rfl ?aP (fun _ hk=>hk.elim) ?aF ?aO ?aB ?aS ?aL ?_;(case aP=>exact k133_mkM _ _ _ (⟨Y,Z⟩:S133));(case aB=>exact bl);(case aF=>exact(fun k_ hk=>⟨Kd.fresh' (Kd.R_lt (rpR A1.o)) k_ hk,Kd.freshB (g:=J) (o:=.cells #[.string Y,.int .i64 Z] 133 (0,0)) bk k_ hk⟩));(case aO=>exact(rpR A5.o));(case aS=>exact(below_size bl));(case aL=>have:=BA.o;omega);intro A_ Ba ho hb hg hat;rw[←BB.o]at ho;replace A1:=aK (Kd.R_after (ok:=(fun k_=>k_≠J)) (rpR (rM A1.o (fun _ hk=>⟨hk.2,hk.1⟩))) hg hat);replace A4:=aK (blk_grown (g:=J) (o:=.cells #[.string Y,.int .i64 Z] 133 (0,0)) bk hg (Kd.R_away A5.o (fun _ hk=>hk.2)));replace HB:=aK (hb);have Aa:=aK (ho);clear A5;clear ho hb hg hat;have Ak:0≤(U:Int):=dT am;have Al:U<(D.length:Int):=dT am;obtain⟨As,AK,An,Ao⟩:=at_T133 (Kd.R_reads' A1.o).2.2 U Ak Al;obtain rfl:Am=As:=(by injection AK);replace Ak:=eq_true Ak;replace Al:=eq_true Al)|((with_reducible refine gate_builtin (b:=.append) (xs:=#[.tmp 35,.tmp 40]) rfl ?_);at_builtin;refine Kd.R_append k133 (w0:=w) w.heap.size rfl (.tmp 35) (.tmp 40) 32 133 (.agg #[(.string ⟨#[]⟩),(.int .i64 0)]) 24 rfl Tryz.underlying32 info133 rfl (by decide) (by omega) A_ Ay (⟨(rd_T133 D U).f0,(rd_T133 D U).f1⟩:S133) [.string ((rd_T133 D U).f0),.int .i64 ((rd_T133 D U).f1)] (fun k_=>some k_≠(.slice (some Am) D.length Aj:Value).ownBlock∧k_≠J) (fun _=>False) rfl rfl ?aP (fun _ hk=>hk.elim) ?aF ?aO ?aB ?aS ?aL ?_;(case aP=>exact k133_mkM _ _ _ (⟨(rd_T133 D U).f0,(rd_T133 D U).f1⟩:S133));(case aB=>exact bl);(case aF=>exact(fun k_ hk=>⟨Kd.fresh' (Kd.R_lt (rpR A1.o)) k_ hk,Kd.freshB (g:=J) (o:=.cells #[.string Y,.int .i64 Z] 133 (0,0)) bk k_ hk⟩));(case aO=>exact(rpR Aa.o));(case aS=>exact(below_size bl));(case aL=>have:=BC.o;omega);intro D2 CE ho hb hg hat;rw[←BD.o]at ho;have Af:=aK (Kd.R_after (ok:=(fun k_=>k_≠J)) (rpR A1.o) hg hat);have Ag:=aK (blk_grown (g:=J) (o:=.cells #[.string Y,.int .i64 Z] 133 (0,0)) bk hg (Kd.R_away Aa.o (fun _ hk=>hk.2)));have Ah:=aK (hb);have Ai:=aK (ho);clear A1;clear A4;clear HB;clear Aa;have A1:=Af;have A4:=Ag;have HB:=Ah;have Cf:=Ai;clear Af Ag Ah Ai;clear ho hb hg hat));try go_wp2_with (first|((with_reducible refine gate_builtin (b:=.append) (xs:=#[.tmp 31,.tmp 33]) rfl ?_);at_builtin;refine Kd.R_append k133 (w0:=w) w.heap.size rfl (.tmp 31) (.tmp 33) 32 133 (.agg #[(.string ⟨#[]⟩),(.int .i64 0)]) 24 rfl Tryz.underlying32 info133 rfl (by decide) (by omega) u5 X (⟨Y,Z⟩:S133) [.string Y,.int .i64 Z] (fun k_=>some k_≠(.slice (some Am) D.length Aj:Value).ownBlock∧k_≠J) (fun _=>False) rfl rfl ?aP (fun _ hk=>hk.elim) ?aF ?aO ?aB ?aS ?aL ?_;(case aP=>exact k133_mkM _ _ _ (⟨Y,Z⟩:S133));(case aB=>exact bl);(case aF=>exact(fun k_ hk=>⟨Kd.fresh' (Kd.R_lt (rpR A1.o)) k_ hk,Kd.freshB (g:=J) (o:=.cells #[.string Y,.int .i64 Z] 133 (0,0)) bk k_ hk⟩));(case aO=>exact(rpR A5.o));(case aS=>exact(below_size bl));(case aL=>have:=BA.o;omega);intro A_ Ba ho hb hg hat;rw[←BB.o]at ho;replace A1:=aK (Kd.R_after (ok:=(fun k_=>k_≠J)) (rpR (rM A1.o (fun _ hk=>⟨hk.2,hk.1⟩))) hg hat);replace A4:=aK (blk_grown (g:=J) (o:=.cells #[.string Y,.int .i64 Z] 133 (0,0)) bk hg (Kd.R_away A5.o (fun _ hk=>hk.2)));replace HB:=aK (hb);have Aa:=aK (ho);clear A5;clear ho hb hg hat;have Ak:0≤(U:Int):=dT am;have Al:U<(D.length:Int):=dT am;obtain⟨As,AK,An,Ao⟩:=at_T133 (Kd.R_reads' A1.o).2.2 U Ak Al;obtain rfl:Am=As:=(by injection AK);replace Ak:=eq_true Ak;replace Al:=eq_true Al)|((with_reducible refine gate_builtin (b:=.append) (xs:=#[.tmp 35,.tmp 40]) rfl ?_);at_builtin;refine Kd.R_append k133 (w0:=w) w.heap.size rfl (.tmp 35) (.tmp 40) 32 133 (.agg #[(.string ⟨#[]⟩),(.int .i64 0)]) 24 rfl Tryz.underlying32 info133 rfl (by decide) (by omega) A_ Ay (⟨(rd_T133 D U).f0,(rd_T133 D U).f1⟩:S133) [.string ((rd_T133 D U).f0),.int .i64 ((rd_T133 D U).f1)] (fun k_=>some k_≠(.slice (some Am) D.length Aj:Value).ownBlock∧k_≠J) (fun _=>False) rfl rfl ?aP (fun _ hk=>hk.elim) ?aF ?aO ?aB ?aS ?aL ?_;(case aP=>exact k133_mkM _ _ _ (⟨(rd_T133 D U).f0,(rd_T133 D U).f1⟩:S133));(case aB=>exact bl);(case aF=>exact(fun k_ hk=>⟨Kd.fresh' (Kd.R_lt (rpR A1.o)) k_ hk,Kd.freshB (g:=J) (o:=.cells #[.string Y,.int .i64 Z] 133 (0,0)) bk k_ hk⟩));(case aO=>exact(rpR Aa.o));(case aS=>exact(below_size bl));(case aL=>have:=BC.o;omega);intro D2 CE ho hb hg hat;rw[←BD.o]at ho;have Af:=aK (Kd.R_after (ok:=(fun k_=>k_≠J)) (rpR A1.o) hg hat);have Ag:=aK (blk_grown (g:=J) (o:=.cells #[.string Y,.int .i64 Z] 133 (0,0)) bk hg (Kd.R_away Aa.o (fun _ hk=>hk.2)));have Ah:=aK (hb);have Ai:=aK (ho);clear A1;clear A4;clear HB;clear Aa;have A1:=Af;have A4:=Ag;have HB:=Ah;have Cf:=Ai;clear Af Ag Ah Ai;clear ho hb hg hat)))
         go_roundg k1
         case measure=>have:=A8.o;omega
         case rel=>exact⟨(Cq),(true),(wrap64 (U+1)),fa,fa,H',⟨by have:=A8.o;omega⟩,⟨rpR (rM A1.o (fun _ hk=>⟨hk.2,hk.1⟩))⟩,⟨rpR Cf.o⟩,⟨bw A4⟩,⟨bl⟩⟩
        ·rw[if_neg Ch]at H;exact absurd H (by simp)
       ·rw[if_neg Cg]at H;exact absurd H (by simp)
      ·rw[if_neg AJ]at H;have Az:(Op.bytesLess Y.toList (((rd_T133 D U).f0).toList))=false:=by simpa using AJ
       (try rw[Az]);clear AJ;by_cases Ci:X.length<5864062014805
       ·rw[if_pos Ci]at H;have BE:=aK Ci;clear Ci;obtain⟨Cr,Bd⟩:∃y_:List (S133),y_=(X ++ [(⟨(rd_T133 D U).f0,(rd_T133 D U).f1⟩:S133)]):=⟨_,rfl⟩;replace H:(spec_l4With.l0 k1 D Cr false (wrap64 (U+1)) Y Z)=some r:=by first|(rw[Bd];with_reducible exact H)|(have Ad:=(Option.bind_some _ _).symm.trans H;rw[Bd];with_reducible exact Ad)|(have Ad:=(Option.bind_some _ _).symm.trans H;with_reducible exact Ad)|with_reducible exact H|(rw[Bd];exact H)|exact H
        have BF:=aK Bd;clear Bd;have H':=aK H;clear H;have Ak:0≤(U:Int):=dT am;have Al:U<(D.length:Int):=dT am;obtain⟨As,AK,An,Ao⟩:=at_T133 (Kd.R_reads' A1.o).2.2 U Ak Al;obtain rfl:Am=As:=(by injection AK);replace Ak:=eq_true Ak;replace Al:=eq_true Al
        go_wp2_with (first|((with_reducible refine gate_builtin (b:=.append) (xs:=#[.tmp 35,.tmp 40]) rfl ?_);at_builtin;refine Kd.R_append k133 (w0:=w) w.heap.size rfl (.tmp 35) (.tmp 40) 32 133 (.agg #[(.string ⟨#[]⟩),(.int .i64 0)]) 24 rfl Tryz.underlying32 info133 rfl (by decide) (by omega) u5 X (⟨(rd_T133 D U).f0,(rd_T133 D U).f1⟩:S133) [.string ((rd_T133 D U).f0),.int .i64 ((rd_T133 D U).f1)] (fun k_=>some k_≠(.slice (some Am) D.length Aj:Value).ownBlock∧k_≠J) (fun _=>False) rfl rfl ?aP (fun _ hk=>hk.elim) ?aF ?aO ?aB ?aS ?aL ?_;(case aP=>exact k133_mkM _ _ _ (⟨(rd_T133 D U).f0,(rd_T133 D U).f1⟩:S133));(case aB=>exact bl);(case aF=>exact(fun k_ hk=>⟨Kd.fresh' (Kd.R_lt (rpR A1.o)) k_ hk,Kd.freshB (g:=J) (o:=.cells #[.string Y,.int .i64 Z] 133 (0,0)) bk k_ hk⟩));(case aO=>exact(rpR A5.o));(case aS=>exact(below_size bl));(case aL=>have:=BE.o;omega);intro A_ Ba ho hb hg hat;rw[←BF.o]at ho;replace A1:=aK (Kd.R_after (ok:=(fun k_=>k_≠J)) (rpR (rM A1.o (fun _ hk=>⟨hk.2,hk.1⟩))) hg hat);replace A4:=aK (blk_grown (g:=J) (o:=.cells #[.string Y,.int .i64 Z] 133 (0,0)) bk hg (Kd.R_away A5.o (fun _ hk=>hk.2)));replace HB:=aK (hb);have Aa:=aK (ho);clear A5;clear ho hb hg hat))
        repeat (go_quiet (first|((with_reducible refine gate_builtin (b:=.append) (xs:=#[.tmp 35,.tmp 40]) rfl ?_);at_builtin;refine Kd.R_append k133 (w0:=w) w.heap.size rfl (.tmp 35) (.tmp 40) 32 133 (.agg #[(.string ⟨#[]⟩),(.int .i64 0)]) 24 rfl Tryz.underlying32 info133 rfl (by decide) (by omega) u5 X (⟨(rd_T133 D U).f0,(rd_T133 D U).f1⟩:S133) [.string ((rd_T133 D U).f0),.int .i64 ((rd_T133 D U).f1)] (fun k_=>some k_≠(.slice (some Am) D.length Aj:Value).ownBlock∧k_≠J) (fun _=>False) rfl rfl ?aP (fun _ hk=>hk.elim) ?aF ?aO ?aB ?aS ?aL ?_;(case aP=>exact k133_mkM _ _ _ (⟨(rd_T133 D U).f0,(rd_T133 D U).f1⟩:S133));(case aB=>exact bl);(case aF=>exact(fun k_ hk=>⟨Kd.fresh' (Kd.R_lt (rpR A1.o)) k_ hk,Kd.freshB (g:=J) (o:=.cells #[.string Y,.int .i64 Z] 133 (0,0)) bk k_ hk⟩));(case aO=>exact(rpR A5.o));(case aS=>exact(below_size bl));(case aL=>have:=BE.o;omega);intro A_ Ba ho hb hg hat;rw[←BF.o]at ho;have Af:=aK (Kd.R_after (ok:=(fun k_=>k_≠J)) (rpR (rM A1.o (fun _ hk=>⟨hk.2,hk.1⟩))) hg hat);have Ag:=aK (blk_grown (g:=J) (o:=.cells #[.string Y,.int .i64 Z] 133 (0,0)) bk hg (Kd.R_away A5.o (fun _ hk=>hk.2)));have Ah:=aK (hb);have Ai:=aK (ho);clear A1;clear A4;clear HB;clear A5;have A1:=Af;have A4:=Ag;have HB:=Ah;have Aa:=Ai;clear Af Ag Ah Ai;clear ho hb hg hat));try go_wp2_with (first|((with_reducible refine gate_builtin (b:=.append) (xs:=#[.tmp 35,.tmp 40]) rfl ?_);at_builtin;refine Kd.R_append k133 (w0:=w) w.heap.size rfl (.tmp 35) (.tmp 40) 32 133 (.agg #[(.string ⟨#[]⟩),(.int .i64 0)]) 24 rfl Tryz.underlying32 info133 rfl (by decide) (by omega) u5 X (⟨(rd_T133 D U).f0,(rd_T133 D U).f1⟩:S133) [.string ((rd_T133 D U).f0),.int .i64 ((rd_T133 D U).f1)] (fun k_=>some k_≠(.slice (some Am) D.length Aj:Value).ownBlock∧k_≠J) (fun _=>False) rfl rfl ?aP (fun _ hk=>hk.elim) ?aF ?aO ?aB ?aS ?aL ?_;(case aP=>exact k133_mkM _ _ _ (⟨(rd_T133 D U).f0,(rd_T133 D U).f1⟩:S133));(case aB=>exact bl);(case aF=>exact(fun k_ hk=>⟨Kd.fresh' (Kd.R_lt (rpR A1.o)) k_ hk,Kd.freshB (g:=J) (o:=.cells #[.string Y,.int .i64 Z] 133 (0,0)) bk k_ hk⟩));(case aO=>exact(rpR A5.o));(case aS=>exact(below_size bl));(case aL=>have:=BE.o;omega);intro A_ Ba ho hb hg hat;rw[←BF.o]at ho;have Af:=aK (Kd.R_after (ok:=(fun k_=>k_≠J)) (rpR (rM A1.o (fun _ hk=>⟨hk.2,hk.1⟩))) hg hat);have Ag:=aK (blk_grown (g:=J) (o:=.cells #[.string Y,.int .i64 Z] 133 (0,0)) bk hg (Kd.R_away A5.o (fun _ hk=>hk.2)));have Ah:=aK (hb);have Ai:=aK (ho);clear A1;clear A4;clear HB;clear A5;have A1:=Af;have A4:=Ag;have HB:=Ah;have Aa:=Ai;clear Af Ag Ah Ai;clear ho hb hg hat)))
        go_roundg k1
        case measure=>have:=A8.o;omega
        case rel=>exact⟨(Cr),(false),(wrap64 (U+1)),fa,fa,H',⟨by have:=A8.o;omega⟩,⟨rpR (rM A1.o (fun _ hk=>⟨hk.2,hk.1⟩))⟩,⟨rpR Aa.o⟩,⟨bw A4⟩,⟨bl⟩⟩
       ·rw[if_neg Ci]at H;exact absurd H (by simp)
     ·rw[if_neg AQ]at H;exact absurd H (by simp)
   ·rw[if_neg c9]at H;have Bi:=df c9;clear c9;by_cases Cj:A7=true
    ·subst Cj;replace H:=iT H;obtain rfl:=oj H;obtain⟨Bf,Aj,B9⟩:=rs A1;subst B9;go_wp2;repeat (go_quiet (fail);try go_wp2)
     go_ret
     exact⟨_,fe,rpR (rM A5.o (fun _ hk=>trivial)),bl⟩
    ·replace Cj:=bF Cj;subst Cj;replace H:=iF H;by_cases Ck:X.length<5864062014805
     ·rw[if_pos Ck]at H;have BG:=aK Ck;clear Ck;obtain⟨D3,Be⟩:∃y_:List (S133),y_=(X ++ [(⟨Y,Z⟩:S133)]):=⟨_,rfl⟩;replace H:(some D3)=some r:=by first|(rw[Be];with_reducible exact H)|(have Ad:=(Option.bind_some _ _).symm.trans H;rw[Be];with_reducible exact Ad)|(have Ad:=(Option.bind_some _ _).symm.trans H;with_reducible exact Ad)|with_reducible exact H|(rw[Be];exact H)|exact H
      have BH:=aK Be;clear Be;obtain rfl:=oj H;obtain⟨Bf,Aj,B9⟩:=rs A1;subst B9;obtain⟨_,_,_,_⟩:=cf2 A4;go_wp2_with (first|((with_reducible refine gate_builtin (b:=.append) (xs:=#[.tmp 44,.tmp 46]) rfl ?_);at_builtin;refine Kd.R_append k133 (w0:=w) w.heap.size rfl (.tmp 44) (.tmp 46) 32 133 (.agg #[(.string ⟨#[]⟩),(.int .i64 0)]) 24 rfl Tryz.underlying32 info133 rfl (by decide) (by omega) u5 X (⟨Y,Z⟩:S133) [.string Y,.int .i64 Z] (fun k_=>some k_≠(.slice Bf D.length Aj:Value).ownBlock∧k_≠J) (fun _=>False) rfl rfl ?aP (fun _ hk=>hk.elim) ?aF ?aO ?aB ?aS ?aL ?_;(case aP=>exact k133_mkM _ _ _ (⟨Y,Z⟩:S133));(case aB=>exact bl);(case aF=>exact(fun k_ hk=>⟨Kd.fresh' (Kd.R_lt (rpR A1.o)) k_ hk,Kd.freshB (g:=J) (o:=.cells #[.string Y,.int .i64 Z] 133 (0,0)) bk k_ hk⟩));(case aO=>exact(rpR A5.o));(case aS=>exact(below_size bl));(case aL=>have:=BG.o;omega);intro A_ Ba ho hb hg hat;rw[←BH.o]at ho;replace A1:=aK (Kd.R_after (ok:=(fun k_=>k_≠J)) (rpR (rM A1.o (fun _ hk=>⟨hk.2,hk.1⟩))) hg hat);replace A4:=aK (blk_grown (g:=J) (o:=.cells #[.string Y,.int .i64 Z] 133 (0,0)) bk hg (Kd.R_away A5.o (fun _ hk=>hk.2)));replace HB:=aK (hb);have Aa:=aK (ho);clear A5;clear ho hb hg hat))
      repeat (go_quiet (first|((with_reducible refine gate_builtin (b:=.append) (xs:=#[.tmp 44,.tmp 46]) rfl ?_);at_builtin;refine Kd.R_append k133 (w0:=w) w.heap.size rfl (.tmp 44) (.tmp 46) 32 133 (.agg #[(.string ⟨#[]⟩),(.int .i64 0)]) 24 rfl Tryz.underlying32 info133 rfl (by decide) (by omega) u5 X (⟨Y,Z⟩:S133) [.string Y,.int .i64 Z] (fun k_=>some k_≠(.slice Bf D.length Aj:Value).ownBlock∧k_≠J) (fun _=>False) rfl rfl ?aP (fun _ hk=>hk.elim) ?aF ?aO ?aB ?aS ?aL ?_;(case aP=>exact k133_mkM _ _ _ (⟨Y,Z⟩:S133));(case aB=>exact bl);(case aF=>exact(fun k_ hk=>⟨Kd.fresh' (Kd.R_lt (rpR A1.o)) k_ hk,Kd.freshB (g:=J) (o:=.cells #[.string Y,.int .i64 Z] 133 (0,0)) bk k_ hk⟩));(case aO=>exact(rpR A5.o));(case aS=>exact(below_size bl));(case aL=>have:=BG.o;omega);intro A_ Ba ho hb hg hat;rw[←BH.o]at ho;have Af:=aK (Kd.R_after (ok:=(fun k_=>k_≠J)) (rpR (rM A1.o (fun _ hk=>⟨hk.2,hk.1⟩))) hg hat);have Ag:=aK (blk_grown (g:=J) (o:=.cells #[.string Y,.int .i64 Z] 133 (0,0)) bk hg (Kd.R_away A5.o (fun _ hk=>hk.2)));have Ah:=aK (hb);have Ai:=aK (ho);clear A1;clear A4;clear HB;clear A5;have A1:=Af;have A4:=Ag;have HB:=Ah;have Aa:=Ai;clear Af Ag Ah Ai;clear ho hb hg hat));try go_wp2_with (first|((with_reducible refine gate_builtin (b:=.append) (xs:=#[.tmp 44,.tmp 46]) rfl ?_);at_builtin;refine Kd.R_append k133 (w0:=w) w.heap.size rfl (.tmp 44) (.tmp 46) 32 133 (.agg #[(.string ⟨#[]⟩),(.int .i64 0)]) 24 rfl Tryz.underlying32 info133 rfl (by decide) (by omega) u5 X (⟨Y,Z⟩:S133) [.string Y,.int .i64 Z] (fun k_=>some k_≠(.slice Bf D.length Aj:Value).ownBlock∧k_≠J) (fun _=>False) rfl rfl ?aP (fun _ hk=>hk.elim) ?aF ?aO ?aB ?aS ?aL ?_;(case aP=>exact k133_mkM _ _ _ (⟨Y,Z⟩:S133));(case aB=>exact bl);(case aF=>exact(fun k_ hk=>⟨Kd.fresh' (Kd.R_lt (rpR A1.o)) k_ hk,Kd.freshB (g:=J) (o:=.cells #[.string Y,.int .i64 Z] 133 (0,0)) bk k_ hk⟩));(case aO=>exact(rpR A5.o));(case aS=>exact(below_size bl));(case aL=>have:=BG.o;omega);intro A_ Ba ho hb hg hat;rw[←BH.o]at ho;have Af:=aK (Kd.R_after (ok:=(fun k_=>k_≠J)) (rpR (rM A1.o (fun _ hk=>⟨hk.2,hk.1⟩))) hg hat);have Ag:=aK (blk_grown (g:=J) (o:=.cells #[.string Y,.int .i64 Z] 133 (0,0)) bk hg (Kd.R_away A5.o (fun _ hk=>hk.2)));have Ah:=aK (hb);have Ai:=aK (ho);clear A1;clear A4;clear HB;clear A5;have A1:=Af;have A4:=Ag;have HB:=Ah;have Aa:=Ai;clear Af Ag Ah Ai;clear ho hb hg hat)))
      go_ret
      exact⟨_,fe,rpR (rM Aa.o (fun _ hk=>trivial)),bl⟩
     ·rw[if_neg Ck]at H;exact absurd H (by simp)
end Go.Proofs.YtndbmllnkjngnaaGreat.PDs
