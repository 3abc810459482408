/- Functions of the program, each with its contract, written by a program out of the translation. -/
import Derived.Test.YtndbmllnkjngnaaGreatPDsx0
import Derived.Test.YtndbmllnkjngnaaGreatPDsx31
import Derived.Test.YtndbmllnkjngnaaGreatPDsx45
import Derived.Test.YtndbmllnkjngnaaGreatZip
namespace Go.Proofs.YtndbmllnkjngnaaGreat.PDs
open Go.RowKit Go.Proofs.YtndbmllnkjngnaaGreatW.PrintWords Go.Proofs.YtndbmllnkjngnaaGreatW.PrintLast Go.Proofs.YtndbmllnkjngnaaGreatW.PrintMore Go.Proofs.YtndbmllnkjngnaaGreat.Zip
attribute [local go_sem] max2_int min2_int max_two min_two max_three min_three max_four min_four
set_option linter.unusedVariables false
set_option linter.unusedSimpArgs false
set_option maxHeartbeats 8000000
set_option maxRecDepth 100000
mutual
def spec_Crc.l0:Nat→ByteArray→Int→Int→Option (Int)
 | 0,_,_,_=>none
 |k+1,x0,x3,x4=>if x4<(x0.size:Int)then(if 0≤x4 then(spec_Crc.l1 k x0 (Go.bits .xor .i64 x3 (wrap64 (bt x0 x4))) x4 0)else(none))else(some (wrap64 (4294967295-x3)))
def spec_Crc.l1:Nat→ByteArray→Int→Int→Int→Option (Int)
 | 0,_,_,_,_=>none
 |k+1,x0,x3,x4,x5=>if x5<8 then(if(Int.tmod x3 2)=1 then(spec_Crc.l1 k x0 (Go.bits .xor .i64 (wrap64 (Int.tdiv x3 2)) 2197175160) x4 (wrap64 (x5+1)))else(spec_Crc.l1 k x0 (wrap64 (Int.tdiv x3 2)) x4 (wrap64 (x5+1))))else(spec_Crc.l0 k x0 x3 (wrap64 (x4+1)))
end
def spec_Crc.f (k:Nat) (U:ByteArray):Option (Int):=spec_Crc.l0 k U 4294967295 0
theorem spec_Crc.calls (k:Nat) (U:ByteArray) (r:Int) (w:World) (h:spec_Crc.f k U=some r) :
 Calls Tryz.prog 142 #[.string U] w fun e w'=>e = .returned (.int .i64 r)∧Drawn0 w w':=by
 have H:=h;unfold spec_Crc.f at H;clear h;have H':=aK H;clear H
 go_enter Tryz.func142,Tryz.ntmps142
 go_wp2
 go_loopg [3,4] k (fun kq v3 v4 w'=>∃(D:Int) (X:Int),v3 = .int .i64 D∧v4 = .int .i64 X∧Aside0 (spec_Crc.l0 kq U D X=some r)∧Aside0 (kq≤k)∧Drawn0 w w')
 case atStart=>exact⟨(4294967295),(0),fa,fa,H',⟨Nat.le_refl _⟩,fd⟩
 case round=>
  clear H';obtain⟨D,X,rfl,rfl,HA,Ae,⟨m1,rfl⟩⟩:=hrel;cases gk with
  |zero=>exact absurd HA.o (by simp[spec_Crc.l0])
  |succ k1=>
   have H:=HA.o;clear HA;simp only[spec_Crc.l0]at H;by_cases c2:X<(U.size:Int)
   ·rw[if_pos c2]at H;have Av:=dt c2;clear c2;by_cases c3:0≤X
    ·rw[if_pos c3]at H;have Ac:=dt c3;clear c3;have H':=aK H;clear H;have B6:0≤(X:Int):=dT am;have B7:X<(U.size:Int):=dT am;have Bu:=bt_at U X;replace B6:=eq_true B6;replace B7:=eq_true B7;go_wp2
     go_loopg [3,5] k1 (fun kq v3 v5 w'=>∃(A9:Int) (Ad:Int),v3 = .int .i64 A9∧v5 = .int .i64 Ad∧Aside0 (spec_Crc.l1 kq U A9 X Ad=some r)∧Aside0 (kq≤k1)∧Drawn0 w w')
     case atStart=>exact⟨(Go.bits .xor .i64 D (wrap64 (bt U X))),(0),fa,fa,H',⟨Nat.le_refl _⟩,fd⟩
     case round=>
      clear H';obtain⟨A9,Ad,rfl,rfl,HA,Au,⟨m2,rfl⟩⟩:=hrel;cases gk with
      |zero=>exact absurd HA.o (by simp[spec_Crc.l1])
      |succ k2=>
       have H:=HA.o;clear HA;simp only[spec_Crc.l1]at H;by_cases c5:Ad<8
       ·rw[if_pos c5]at H;have B8:=dt c5;clear c5;by_cases c6:(Int.tmod A9 2)=1
        ·rw[if_pos c6]at H;have Ar:=bT c6;have AI:=bE c6;clear c6;have H':=aK H;clear H;go_wp2
         go_roundg k2
         case measure=>have:=Ae.o;have:=Au.o;omega
         case rel=>exact⟨(Go.bits .xor .i64 (wrap64 (Int.tdiv A9 2)) 2197175160),(wrap64 (Ad+1)),fa,fa,H',⟨by have:=Ae.o;have:=Au.o;omega⟩,fd⟩
        ·rw[if_neg c6]at H;have Ar:=bN c6;have AI:=bQ c6;have H':=aK H;clear H;go_wp2
         go_roundg k2
         case measure=>have:=Ae.o;have:=Au.o;omega
         case rel=>exact⟨(wrap64 (Int.tdiv A9 2)),(wrap64 (Ad+1)),fa,fa,H',⟨by have:=Ae.o;have:=Au.o;omega⟩,fd⟩
       ·rw[if_neg c5]at H;have B8:=df c5;clear c5;have H':=aK H;clear H;go_wp2
        go_roundg k2
        case measure=>have:=Ae.o;have:=Au.o;omega
        case rel=>exact⟨(A9),(wrap64 (X+1)),fa,fa,H',⟨by have:=Ae.o;have:=Au.o;omega⟩,fd⟩
    ·exact no c3 H
   ·rw[if_neg c2]at H;have Av:=df c2;clear c2;obtain rfl:=oj H;go_wp2
    go_ret
    exact⟨fa,fd⟩
def spec_Frame.j0:Nat→ByteArray→Bool→Option (ByteArray)
 | 0,_,_=>none
 |k+1,x0,Bh=>if Bh=true then(some (⟨#[]⟩:ByteArray))else((spec_Fixed.f k (x0.size:Int) 4).bind fun J=>(if J.size+x0.size≤9223372036854775807 then((spec_Crc.f k (J++x0)).bind fun As=>((spec_Fixed.f k As 4).bind fun A6=>(if J.size+A6.size≤9223372036854775807 then(if(J.size+A6.size)+x0.size≤9223372036854775807 then(some ((J++A6)++x0))else(none))else(none))))else(none)))
def spec_Frame.f (k:Nat) (U:ByteArray):Option (ByteArray):=if(U.size:Int)=0 then(spec_Frame.j0 k U true)else(spec_Frame.j0 k U (decide ((U.size:Int)>2000)))
theorem spec_Frame.calls (k:Nat) (U:ByteArray) (r:ByteArray) (w:World) (h:spec_Frame.f k U=some r) :
 Calls Tryz.prog 132 #[.string U] w fun e w'=>e = .returned (.string r)∧Below w.heap.size w w':=by
 have HB:=aK (Below.refl w.heap.size w);have H:=h;unfold spec_Frame.f at H;clear h;have AK:=aK H;clear H
 go_enter Tryz.func132,Tryz.ntmps132
 go_upto_region 1 with(fail)
 go_cut [11] (fun Bi wc=>∃(kq:Nat) (Af:Bool),Bi = .bool Af∧Aside0 (spec_Frame.j0 kq U Af=some r)∧Aside0 (kq≤k)∧Aside0 (Below w.heap.size w wc))
 case first=>
  have H:=AK.o;clear AK;by_cases c3:(U.size:Int)=0
  ·rw[if_pos c3]at H;have Ac:=bT c3;have B9:=bE c3;clear c3;(first|rw[Ac]|(simp only[i64_w,i32_w];rw[Ac])|skip);have H':=aK H;clear H;go_wp2
   go_meet
   case rel=>exact⟨_,(true),fa,H',⟨by first|omega|exact Nat.le_refl _⟩,⟨bl⟩⟩
  ·rw[if_neg c3]at H;have Ac:=bN c3;have B9:=bQ c3;(first|rw[Ac]|(simp only[i64_w,i32_w];rw[Ac])|skip);have H':=aK H;clear H;go_wp2
   go_meet
   case rel=>exact⟨_,(decide ((U.size:Int)>2000)),fa,H',⟨by first|omega|exact Nat.le_refl _⟩,⟨bl⟩⟩
 case rest=>
  clear AK;obtain⟨kq,Af,rfl,HA,B_,HB⟩:=hcut;cases kq with
  |zero=>exact absurd HA.o (by simp[spec_Frame.j0])
  |succ AL=>
   have H:=HA.o;clear HA;simp only[spec_Frame.j0]at H;by_cases c4:Af=true
   ·subst c4;replace H:=iT H;obtain rfl:=oj H;go_wp2
    go_ret
    exact⟨fe,bl⟩
   ·replace c4:=bF c4;subst c4;replace H:=iF H;obtain⟨J,A5,H⟩:=bd H;by_cases c6:J.size+U.size≤9223372036854775807
    ·rw[if_pos c6]at H;have Ar:=eq_true c6;have AI:=dt c6;(try have Bv:(9223372036854775807<J.size+U.size)=False:=eq_false (Nat.not_lt.2 c6));obtain⟨As,A7,H⟩:=bd H;obtain⟨A6,A8,H⟩:=bd H;by_cases c9:J.size+A6.size≤9223372036854775807
     ·rw[if_pos c9]at H;have Bw:=eq_true c9;have Bx:=dt c9;(try have By:(9223372036854775807<J.size+A6.size)=False:=eq_false (Nat.not_lt.2 c9));by_cases c10:(J.size+A6.size)+U.size≤9223372036854775807
      ·rw[if_pos c10]at H;have Bj:=eq_true c10;have Bk:=dt c10;(try have Bl:(9223372036854775807<(J.size+A6.size)+U.size)=False:=eq_false (Nat.not_lt.2 c10));obtain rfl:=oj H;go_wp2_with (first|((with_reducible refine gc 141 ?_);refine goesY (some 14) rfl Tryz.func141 ?_;(with_reducible refine mo (spec_Fixed.calls AL (U.size:Int) 4 J _ A5.o) ?_);intro AM hb;replace HB:=bS HB hb)|((with_reducible refine gc 142 ?_);refine goesW Tryz.func142 ?_;(with_reducible refine mo (spec_Crc.calls AL (J++U) As _ A7.o) ?_);rintro _ ⟨nd,rfl⟩)|((with_reducible refine gc 141 ?_);refine goesY (some 20) rfl Tryz.func141 ?_;(with_reducible refine mo (spec_Fixed.calls AL As 4 A6 _ A8.o) ?_);intro BA hb;replace HB:=bS HB hb))
       go_ret
       exact⟨fe,bl⟩
      ·exact no c10 H
     ·exact no c9 H
    ·exact no c6 H
def spec_RecOk.f (Y:Int) (Z:Int) (A0:Int) (A1:Int) (Aa:ByteArray):Option (Bool):=if Y=1 then((spec_l1In.f Z 0 100000).bind fun Aw=>(if Aw=true then((spec_l1In.f A1 (-1) 4).bind fun Ax=>(if Ax=true then(if A0=0 then(some (Aa.toList==([]:List UInt8)))else(some false))else(some false)))else(some false)))else(if Y=2 then((spec_l1In.f Z 1 100000).bind fun Ay=>(if Ay=true then((spec_l1In.f A0 1 100000).bind fun Az=>(if Az=true then(if A1=0 then(some (decide ((Aa.size:Int)≤900)))else(some false))else(some false)))else(some false)))else(if Y=3 then(if Z=0 then((spec_l1In.f A0 1 100000).bind fun A_=>(if A_=true then(if A1=0 then(some (Aa.toList==([]:List UInt8)))else(some false))else(some false)))else(some false))else(if Y=4 then((spec_l5Based.f A0 Z).bind fun AA=>(if AA=true then(if A1=0 then(some (Aa.toList==([]:List UInt8)))else(some false))else(some false)))else(some false))))
theorem spec_RecOk.z1 {p:Prop} (h:p:=by
 go_enter Tryz.func172,Tryz.ntmps172
 go_wp2_with (first|((with_reducible refine gd 1 ?_);(try (refine gate_guard rfl ?_;dsimp only));refine boxQ HB ?_;clear HB;intro AN hg AM Ah AO HB hb;clear hb hg;have:=cf5 Ah)|((with_reducible refine gc 99 ?_);refine goesW Tryz.func99 ?_;(with_reducible refine mo (spec_l1In.calls Z 0 100000 _ _ A3.o) ?_);rintro _ ⟨nd,rfl⟩)|(go_at_call 99;(with_reducible refine(spec_l1In.calls A1 (-1) 4 _ _ A5.o).mono ?_);rintro e w' ⟨rfl,⟨nd,rfl⟩⟩)|(go_at_call 99;(with_reducible refine(spec_l1In.calls A0 1 100000 _ _ Bm.o).mono ?_);rintro e w' ⟨rfl,⟨nd,rfl⟩⟩)|((with_reducible refine gc 131 ?_);refine goesW Tryz.func131 ?_;(with_reducible refine mo (spec_l5Based.calls A0 Z _ _ Bn.o) ?_);rintro _ ⟨nd,rfl⟩))
 go_ret
 exact⟨fe,bl⟩):p:=h
theorem spec_RecOk.z2 {p:Prop} (h:p:=by
 go_enter Tryz.func172,Tryz.ntmps172
 go_wp2_with (first|((with_reducible refine gd 1 ?_);(try (refine gate_guard rfl ?_;dsimp only));refine boxQ HB ?_;clear HB;intro AN hg AM Ah AO HB hb;clear hb hg;have:=cf5 Ah)|((with_reducible refine gc 99 ?_);refine goesW Tryz.func99 ?_;(with_reducible refine mo (spec_l1In.calls Z 1 100000 _ _ Bo.o) ?_);rintro _ ⟨nd,rfl⟩)|(go_at_call 99;(with_reducible refine(spec_l1In.calls A0 1 100000 _ _ Bp.o).mono ?_);rintro e w' ⟨rfl,⟨nd,rfl⟩⟩))
 go_ret
 exact⟨fe,bl⟩):p:=h
theorem spec_RecOk.calls (Y:Int) (Z:Int) (A0:Int) (A1:Int) (Aa:ByteArray) (r:Bool) (w:World) (h:spec_RecOk.f Y Z A0 A1 Aa=some r) :
 Calls Tryz.prog 172 #[.agg #[.int .i64 Y,.int .i64 Z,.int .i64 A0,.int .i64 A1,.string Aa]] w fun e w'=>e = .returned (.bool r)∧Below w.heap.size w w':=by
 have Bq:=Tryz.underlying161;have HB:=aK (Below.refl w.heap.size w);have H:=h;unfold spec_RecOk.f at H;clear h;by_cases c2:Y=1
 ·rw[if_pos c2]at H;have Av:=bT c2;have Ba:=bE c2;clear c2;obtain⟨Aw,A3,H⟩:=bd H;by_cases c4:Aw=true
  ·subst c4;replace H:=iT H;obtain⟨Ax,A5,H⟩:=bd H;by_cases c6:Ax=true
   ·subst c6;replace H:=iT H;by_cases c7:A0=0
    ·rw[if_pos c7]at H;have Bb:=bT c7;have Bc:=bE c7;clear c7;obtain rfl:=oj H
     exact spec_RecOk.z1
    ·rw[if_neg c7]at H;have Bb:=bN c7;have Bc:=bQ c7;obtain rfl:=oj H
     exact spec_RecOk.z1
   ·replace c6:=bF c6;subst c6;replace H:=iF H;obtain rfl:=oj H
    exact spec_RecOk.z1
  ·replace c4:=bF c4;subst c4;replace H:=iF H;obtain rfl:=oj H
   exact spec_RecOk.z1
 ·rw[if_neg c2]at H;have Av:=bN c2;have Ba:=bQ c2;by_cases Ai:Y=2
  ·rw[if_pos Ai]at H;have AP:=bT Ai;have AQ:=bE Ai;clear Ai;obtain⟨Ay,Bo,H⟩:=bd H;by_cases AE:Ay=true
   ·subst AE;replace H:=iT H;obtain⟨Az,Bp,H⟩:=bd H;by_cases AF:Az=true
    ·subst AF;replace H:=iT H;by_cases Aj:A1=0
     ·rw[if_pos Aj]at H;have AR:=bT Aj;have AS:=bE Aj;clear Aj;obtain rfl:=oj H
      exact spec_RecOk.z2
     ·rw[if_neg Aj]at H;have AR:=bN Aj;have AS:=bQ Aj;obtain rfl:=oj H
      exact spec_RecOk.z2
    ·replace AF:=bF AF;subst AF;replace H:=iF H;obtain rfl:=oj H
     exact spec_RecOk.z2
   ·replace AE:=bF AE;subst AE;replace H:=iF H;obtain rfl:=oj H
    exact spec_RecOk.z2
  ·rw[if_neg Ai]at H;have AP:=bN Ai;have AQ:=bQ Ai;by_cases Ak:Y=3
   ·rw[if_pos Ak]at H;have AT:=bT Ak;have AU:=bE Ak;clear Ak;by_cases Al:Z=0
    ·rw[if_pos Al]at H;have AV:=bT Al;have AW:=bE Al;clear Al;obtain⟨A_,Bm,H⟩:=bd H;by_cases AG:A_=true
     ·subst AG;replace H:=iT H;by_cases Am:A1=0
      ·rw[if_pos Am]at H;have AX:=bT Am;have AY:=bE Am;clear Am;obtain rfl:=oj H
       exact spec_RecOk.z1
      ·rw[if_neg Am]at H;have AX:=bN Am;have AY:=bQ Am;obtain rfl:=oj H
       exact spec_RecOk.z1
     ·replace AG:=bF AG;subst AG;replace H:=iF H;obtain rfl:=oj H
      exact spec_RecOk.z1
    ·rw[if_neg Al]at H;have AV:=bN Al;have AW:=bQ Al;obtain rfl:=oj H
     exact spec_RecOk.z1
   ·rw[if_neg Ak]at H;have AT:=bN Ak;have AU:=bQ Ak;by_cases An:Y=4
    ·rw[if_pos An]at H;have AZ:=bT An;have B0:=bE An;clear An;obtain⟨AA,Bn,H⟩:=bd H;by_cases AH:AA=true
     ·subst AH;replace H:=iT H;by_cases Ao:A1=0
      ·rw[if_pos Ao]at H;have B1:=bT Ao;have B2:=bE Ao;clear Ao;obtain rfl:=oj H
       exact spec_RecOk.z1
      ·rw[if_neg Ao]at H;have B1:=bN Ao;have B2:=bQ Ao;obtain rfl:=oj H
       exact spec_RecOk.z1
     ·replace AH:=bF AH;subst AH;replace H:=iF H;obtain rfl:=oj H
      exact spec_RecOk.z1
    ·rw[if_neg An]at H;have AZ:=bN An;have B0:=bQ An;obtain rfl:=oj H
     exact spec_RecOk.z1
def spec_Var.l0:Nat→Int→List Int→Option (ByteArray)
 | 0,_,_=>none
 |k+1,x0,x3=>if x0≥128 then(if x3.length<140737488355328 then(spec_Var.l0 k (wrap64 (Int.tdiv x0 128)) (x3 ++ [(wrap64 (128+(Int.tmod x0 128)))%256]))else(none))else(if x3.length<140737488355328 then(some (strOfNums (x3 ++ [(x0)%256])))else(none))
def spec_Var.f (k:Nat) (U:Int):Option (ByteArray):=(spec_l1In.f U 0 562949953421311).bind fun AB=>(if AB=true then(spec_Var.l0 k U (([]:List Int)))else(some (⟨#[]⟩:ByteArray)))
theorem spec_Var.calls (k:Nat) (U:Int) (r:ByteArray) (w:World) (h:spec_Var.f k U=some r) :
 Calls Tryz.prog 173 #[.int .i64 U] w fun e w'=>e = .returned (.string r)∧Below w.heap.size w w':=by
 have HB:=aK (Below.refl w.heap.size w);have H:=h;unfold spec_Var.f at H;clear h;obtain⟨AB,A2,H⟩:=bd H;by_cases c3:AB=true
 ·subst c3;replace H:=iT H;obtain⟨AJ,Ab⟩:∃y_:List Int,y_=(([]:List Int)):=⟨_,rfl⟩;replace H:(spec_Var.l0 k U AJ)=some r:=by first|(rw[Ab];with_reducible exact H)|(have B3:=(Option.bind_some _ _).symm.trans H;rw[Ab];with_reducible exact B3)|(have B3:=(Option.bind_some _ _).symm.trans H;with_reducible exact B3)|with_reducible exact H|(rw[Ab];exact H)|exact H
  have AC:=aK Ab;clear Ab;have H':=aK H;clear H
  go_enter Tryz.func173,Tryz.ntmps173
  go_wp2_with (first|((with_reducible refine gc 99 ?_);refine goesW Tryz.func99 ?_;(with_reducible refine mo (spec_l1In.calls U 0 562949953421311 _ _ A2.o) ?_);rintro _ ⟨nd,rfl⟩)|((with_reducible refine gd 7 ?_);refine Kd.R_lit (Kd.int .u8) _ 5 ?hg (N:=7) ?hd (xs:=([]:List Int)) (inner:=[]) (ok:=fun _=>True) (okp:=fun _=>True) ?hr ?hp (fun _ hk=>hk) trivial (Below.refl _ _) (Nat.le_refl _) (by simp) ?_;(case hd=>rfl);(case hg=>rfl);(case hr=>first|(go_simp;done)|(go_simp;rfl));(case hp=>exact(Reps.none _ _));intro BB AM Ag hb hg_ hnew_;clear hg_ hnew_;(first|rw[←AC.o]at Ag|(simp only[Int.reduceToNat]at Ag;rw[←AC.o]at Ag));have Bd:=rl HB Ag;replace HB:=bS HB hb;clear hb Ag))
  go_loopg [0,3] k (fun kq v0 v3 w'=>∃(A4:Int) (D:List Int),v0 = .int .i64 A4∧Aside0 (spec_Var.l0 kq A4 D=some r)∧Aside0 (kq≤k)∧Aside0 (Kd.R (Kd.int .u8) 5 w' w.heap.size (fun _=>True) v3 D)∧Aside0 (Below w.heap.size w w'))
  case atStart=>exact⟨(U),(AJ),fa,H',⟨Nat.le_refl _⟩,⟨rpR Bd.o⟩,⟨bl⟩⟩
  case round=>
   clear H';obtain⟨A4,D,rfl,HA,Ae,At,HB⟩:=hrel;cases gk with
   |zero=>exact absurd HA.o (by simp[spec_Var.l0])
   |succ k1=>
    have H:=HA.o;clear HA;simp only[spec_Var.l0]at H;by_cases c6:A4≥128
    ·rw[if_pos c6]at H;have Ar:=dt c6;clear c6;by_cases c7:D.length<140737488355328
     ·rw[if_pos c7]at H;have Be:=aK c7;clear c7;obtain⟨Bf,Ap⟩:=yy (D ++ [(wrap64 (128+(Int.tmod A4 128)))%256]);rw[←Ap]at H;(try rw[obs]at H)
      have B4:=aK Ap;clear Ap;have H':=aK H;clear H;go_wp2_with (first|((with_reducible refine gate_builtin (b:=.append) (xs:=#[.tmp 10,.tmp 15]) rfl ?_);at_builtin;refine Kd.R_append (Kd.int .u8) (w0:=w) w.heap.size rfl (.tmp 10) (.tmp 15) 169 5 (.int .u8 0) 1 rfl Tryz.underlying169 info5 rfl (by decide) (by omega) u3 D ((wrap64 (128+(Int.tmod A4 128)))%256) [.int .u8 ((wrap64 (128+(Int.tmod A4 128)))%256)] (fun _=>True) (fun _=>False) rfl rfl ?aP (fun _ hk=>hk.elim) ?aF ?aO ?aB ?aS ?aL ?_;(case aP=>exact rfl);(case aB=>exact bl);(case aF=>exact(fun _ _=>trivial));(case aO=>exact(rpR At.o));(case aS=>exact(below_size bl));(case aL=>have:=Be.o;omega);intro Br Bs ho hb hg hat;rw[←B4.o]at ho;replace HB:=aK (hb);have AD:=aK (ho);clear At;clear ho hb hg hat))
      go_roundg k1
      case measure=>have:=Ae.o;omega
      case rel=>exact⟨(wrap64 (Int.tdiv A4 128)),(Bf),fa,H',⟨by have:=Ae.o;omega⟩,⟨rpR AD.o⟩,⟨bl⟩⟩
     ·exact no c7 H
    ·rw[if_neg c6]at H;have Ar:=df c6;clear c6;by_cases c9:D.length<140737488355328
     ·rw[if_pos c9]at H;have Bg:=aK c9;clear c9;obtain⟨Bz,Aq⟩:=yy (D ++ [(A4)%256]);rw[←Aq]at H;(try rw[obs]at H)
      have B5:=aK Aq;clear Aq;obtain rfl:=oj H;go_wp2_with (first|((with_reducible refine gate_builtin (b:=.append) (xs:=#[.tmp 19,.tmp 22]) rfl ?_);at_builtin;refine Kd.R_append (Kd.int .u8) (w0:=w) w.heap.size rfl (.tmp 19) (.tmp 22) 169 5 (.int .u8 0) 1 rfl Tryz.underlying169 info5 rfl (by decide) (by omega) u3 D ((A4)%256) [.int .u8 ((A4)%256)] (fun _=>True) (fun _=>False) rfl rfl ?aP (fun _ hk=>hk.elim) ?aF ?aO ?aB ?aS ?aL ?_;(case aP=>exact rfl);(case aB=>exact bl);(case aF=>exact(fun _ _=>trivial));(case aO=>exact(rpR At.o));(case aS=>exact(below_size bl));(case aL=>have:=Bg.o;omega);intro Br Bs ho hb hg hat;rw[←B5.o]at ho;replace HB:=aK (hb);have AD:=aK (ho);clear At;clear ho hb hg hat;have Bt:=own_string (P:=Tryz.prog) Tryz.underlying169 Tryz.underlying5 Tryz.underlying9 (Kd.own_of_R AD.o)))
      go_ret
      exact⟨fe,bl⟩
     ·exact no c9 H
 ·replace c3:=bF c3;subst c3;replace H:=iF H;obtain rfl:=oj H
  go_enter Tryz.func173,Tryz.ntmps173
  go_wp2_with (first|((with_reducible refine gc 99 ?_);refine goesW Tryz.func99 ?_;(with_reducible refine mo (spec_l1In.calls U 0 562949953421311 _ _ A2.o) ?_);rintro _ ⟨nd,rfl⟩))
  go_ret
  exact⟨fe,bl⟩
mutual
def spec_ReadFixed.j0:Nat→ByteArray→Int→Bool→Option (Int×Bool)
 | 0,_,_,_=>none
 |k+1,x0,x1,B4=>if B4=true then(some (0,false))else(spec_ReadFixed.l0 k x0 x1 0 0)
def spec_ReadFixed.l0:Nat→ByteArray→Int→Int→Int→Option (Int×Bool)
 | 0,_,_,_,_=>none
 |k+1,x0,x1,x6,x7=>if x7<x1 then(if 0≤x7 then(if x7<(x0.size:Int)then(spec_ReadFixed.l0 k x0 x1 (wrap64 ((wrap64 (x6*256))+(wrap64 (bt x0 x7)))) (wrap64 (x7+1)))else(none))else(none))else(some (x6,true))
end
def spec_ReadFixed.f (k:Nat) (J:ByteArray) (a1:Int):Option (Int×Bool):=(spec_l1In.f a1 1 7).bind fun Aq=>(if Aq=true then(spec_ReadFixed.j0 k J a1 (decide ((J.size:Int)<a1)))else(spec_ReadFixed.j0 k J a1 true))
theorem spec_ReadFixed.calls (k:Nat) (J:ByteArray) (a1:Int) (r1:Int) (r2:Bool) (w:World) (h:spec_ReadFixed.f k J a1=some (r1,r2)) :
 Calls Tryz.prog 151 #[.string J,.int .i64 a1] w fun e w'=>e = .returned (.tuple #[.int .i64 r1,.bool r2])∧Drawn0 w w':=by
 have H:=h;unfold spec_ReadFixed.f at H;clear h;have AD:=aK H;clear H
 go_enter Tryz.func151,Tryz.ntmps151
 go_upto_region 1 with(fail)
 go_cut [16] (fun B5 wc=>∃(kq:Nat) (Ac:Bool),B5 = .bool Ac∧Aside0 (spec_ReadFixed.j0 kq J a1 Ac=some (r1,r2))∧Aside0 (kq≤k)∧Drawn0 w wc)
 case first=>
  have H:=AD.o;clear AD;obtain⟨Aq,A4,H⟩:=bd H;by_cases c5:Aq=true
  ·subst c5;replace H:=iT H;have H':=aK H;clear H;go_wp2_with (first|((with_reducible refine gc 99 ?_);refine goesW Tryz.func99 ?_;(with_reducible refine mo (spec_l1In.calls a1 1 7 _ _ A4.o) ?_);rintro _ ⟨nd,rfl⟩))
   go_meet
   case rel=>exact⟨_,(decide ((J.size:Int)<a1)),fa,H',⟨by first|omega|exact Nat.le_refl _⟩,fd⟩
  ·replace c5:=bF c5;subst c5;replace H:=iF H;have H':=aK H;clear H;go_wp2_with (first|((with_reducible refine gc 99 ?_);refine goesW Tryz.func99 ?_;(with_reducible refine mo (spec_l1In.calls a1 1 7 _ _ A4.o) ?_);rintro _ ⟨nd,rfl⟩))
   go_meet
   case rel=>exact⟨_,(true),fa,H',⟨by first|omega|exact Nat.le_refl _⟩,fd⟩
 case rest=>
  clear AD;obtain⟨kq,Ac,rfl,HA,AN,⟨Bl,rfl⟩⟩:=hcut;cases kq with
  |zero=>exact absurd HA.o (by simp[spec_ReadFixed.j0])
  |succ AO=>
   have H:=HA.o;clear HA;simp only[spec_ReadFixed.j0]at H;by_cases c6:Ac=true
   ·subst c6;replace H:=iT H;obtain⟨rfl,rfl⟩:=t2 H;go_wp2
    go_ret2
    exact⟨fa,fd⟩
   ·replace c6:=bF c6;subst c6;replace H:=iF H;have H':=aK H;clear H;go_wp2
    go_loopg [6,7] AO (fun kq v6 v7 w'=>∃(Ao:Int) (X:Int),v6 = .int .i64 Ao∧v7 = .int .i64 X∧Aside0 (spec_ReadFixed.l0 kq J a1 Ao X=some (r1,r2))∧Aside0 (kq≤AO)∧Drawn0 w w')
    case atStart=>exact⟨(0),(0),fa,fa,H',⟨Nat.le_refl _⟩,fd⟩
    case round=>
     clear H';obtain⟨Ao,X,rfl,rfl,HA,AP,⟨m2,rfl⟩⟩:=hrel;cases gk with
     |zero=>exact absurd HA.o (by simp[spec_ReadFixed.l0])
     |succ k2=>
      have H:=HA.o;clear HA;simp only[spec_ReadFixed.l0]at H;by_cases c7:X<a1
      ·rw[if_pos c7]at H;have Ag:=dt c7;clear c7;by_cases c8:0≤X
       ·rw[if_pos c8]at H;have Ap:=dt c8;clear c8;by_cases c9:X<(J.size:Int)
        ·rw[if_pos c9]at H;have AA:=dt c9;clear c9;have H':=aK H;clear H;have AQ:0≤(X:Int):=dT am;have AR:X<(J.size:Int):=dT am;have Bh:=bt_at J X;replace AQ:=eq_true AQ;replace AR:=eq_true AR;go_wp2
         go_roundg k2
         case measure=>have:=AN.o;have:=AP.o;omega
         case rel=>exact⟨(wrap64 ((wrap64 (Ao*256))+(wrap64 (bt J X)))),(wrap64 (X+1)),fa,fa,H',⟨by have:=AN.o;have:=AP.o;omega⟩,fd⟩
        ·exact no c9 H
       ·exact no c8 H
      ·rw[if_neg c7]at H;have Ag:=df c7;clear c7;obtain⟨rfl,rfl⟩:=t2 H;go_wp2
       go_ret2
       exact⟨fa,fd⟩
def spec_Unframe.j0:Nat→ByteArray→Int→Bool→Option (ByteArray×Int×Int)
 | 0,_,_,_=>none
 |k+1,x0,x5,B6=>if B6=true then(some ((⟨#[]⟩:ByteArray),0,2))else(if(x0.size:Int)<(wrap64 (8+x5))then(some ((⟨#[]⟩:ByteArray),0,1))else(if 8≤(wrap64 (8+x5))then(if(wrap64 (8+x5))≤(x0.size:Int)then((spec_Frame.f k (x0.extract 8 ((wrap64 (8+x5)):Int).toNat)).bind fun Ah=>(if 0≤(wrap64 (8+x5))then(if Ah.toList=(x0.extract 0 ((wrap64 (8+x5)):Int).toNat).toList then(some (x0.extract 8 ((wrap64 (8+x5)):Int).toNat,wrap64 (8+x5),0))else(some ((⟨#[]⟩:ByteArray),0,2)))else(none)))else(none))else(none)))
def spec_Unframe.f (k:Nat) (J:ByteArray):Option (ByteArray×Int×Int):=(spec_ReadFixed.f k J 4).bind fun A8=>(if A8.2=true then(if A8.1=0 then(spec_Unframe.j0 k J A8.1 true)else(spec_Unframe.j0 k J A8.1 (decide (A8.1>2000))))else(some ((⟨#[]⟩:ByteArray),0,1)))
theorem spec_Unframe.calls (k:Nat) (J:ByteArray) (r1:ByteArray) (r2:Int) (r3:Int) (w:World) (h:spec_Unframe.f k J=some (r1,r2,r3)) :
 Calls Tryz.prog 150 #[.string J] w fun e w'=>e = .returned (.tuple #[.string r1,.int .i64 r2,.int .i64 r3])∧Below w.heap.size w w':=by
 have HB:=aK (Below.refl w.heap.size w);have H:=h;unfold spec_Unframe.f at H;clear h;replace H:=oB H;obtain⟨⟨Z,AS⟩,AT,H⟩:=H;dsimp only at H;have A2:=aK AT;clear AT;by_cases c3:AS=true
 ·subst c3;replace H:=iT H;have AE:=aK H;clear H
  go_enter Tryz.func150,Tryz.ntmps150
  go_upto_region 4 with(first|((with_reducible refine gc 151 ?_);refine goesW Tryz.func151 ?_;(with_reducible refine mo (spec_ReadFixed.calls k J 4 Z true _ A2.o) ?_);rintro _ ⟨nd,rfl⟩))
  (try simp only[Act.put,List.setIfInBounds_toArray,List.set_cons_zero,List.set_cons_succ])
  go_cut [20] (fun B7 wc=>∃(kq:Nat) (Ad:Bool),B7 = .bool Ad∧Aside0 (spec_Unframe.j0 kq J Z Ad=some (r1,r2,r3))∧Aside0 (kq≤k)∧Aside0 (Below w.heap.size w wc))
  case first=>
   have H:=AE.o;clear AE;by_cases c5:Z=0
   ·rw[if_pos c5]at H;have A3:=bT c5;have AB:=bE c5;clear c5;(first|rw[A3]|(simp only[i64_w,i32_w];rw[A3])|skip);have H':=aK H;clear H
    go_wp2
    go_meet
    case rel=>exact⟨_,(true),fa,H',⟨by first|omega|exact Nat.le_refl _⟩,⟨bl⟩⟩
   ·rw[if_neg c5]at H;have A3:=bN c5;have AB:=bQ c5;(first|rw[A3]|(simp only[i64_w,i32_w];rw[A3])|skip);have H':=aK H;clear H
    go_wp2
    go_meet
    case rel=>exact⟨_,(decide (Z>2000)),fa,H',⟨by first|omega|exact Nat.le_refl _⟩,⟨bl⟩⟩
  case rest=>
   clear AE;obtain⟨kq,Ad,rfl,HA,Bm,HB⟩:=hcut
   cases kq with
   |zero=>exact absurd HA.o (by simp[spec_Unframe.j0])
   |succ AU=>
    have H:=HA.o;clear HA;simp only[spec_Unframe.j0]at H;by_cases c6:Ad=true
    ·subst c6;replace H:=iT H;obtain⟨rfl,rfl,rfl⟩:=t3 H
     go_wp2
     go_ret3
     exact⟨fe,bl⟩
    ·replace c6:=bF c6;subst c6;replace H:=iF H;by_cases c7:(J.size:Int)<(wrap64 (8+Z))
     ·rw[if_pos c7]at H;have Ag:=dt c7;clear c7;obtain⟨rfl,rfl,rfl⟩:=t3 H
      go_wp2
      go_ret3
      exact⟨fe,bl⟩
     ·rw[if_neg c7]at H;have Ag:=df c7;clear c7;by_cases c8:8≤(wrap64 (8+Z))
      ·rw[if_pos c8]at H;have Ap:=eq_true c8;have Ar:=dt c8;by_cases c9:(wrap64 (8+Z))≤(J.size:Int)
       ·rw[if_pos c9]at H;have AA:=eq_true c9;have AV:=dt c9;obtain⟨Ah,AF,H⟩:=bd H
        obtain⟨A5,D⟩:∃j_:Int,(wrap64 (8+Z))=j_:=⟨_,rfl⟩
        (first|rw[D]at H|simp only[D]at H)
        (try rw[D]at Ag);(try rw[D]at Ap);(try rw[D]at Ar);(try rw[D]at c8);(try rw[D]at AA);(try rw[D]at AV);(try rw[D]at c9);(try rw[D]at AF);have B3:(IntKind.i64.wrap (8+Z))=A5:=(i64_w _).trans D;by_cases A1:0≤(A5)
        ·rw[if_pos A1]at H;have As:=eq_true A1;have At:=dt A1;clear A1;have B8:=eq_true (dT am:(A5)≤(J.size:Int));by_cases Al:Ah.toList=(J.extract 0 ((A5):Int).toNat).toList
         ·rw[if_pos Al]at H;have AG:=bT Al;have AH:=bE Al;clear Al;obtain⟨rfl,rfl,rfl⟩:=t3 H;(try go_wp2);replace HB:=dW HB;refine start_ (n:=7) (S:=fun w'=>True) (ds:=[]) (bo 7 0) (by kernel_rfl) rfl rfl trivial (fun hHeld=>?_);generalize wc.drew=B9 at HB hHeld ⊢;refine pv 0 ?_;refine pv 2 ?_;refine pv 3 ?_;refine pv 4 ?_;refine pv 5 ?_;refine oo 1 (fun K hK=>?_);refine goes_ Tryz.func132 (by kernel_rfl) rfl #[.string (J.extract 8 ((A5):Int).toNat)] (by rfl) rfl rfl (by(try simp only[List.map_toArray,List.map_cons,List.map_nil]);first|done|(simp only[D];rfl)|rfl|(simp only[List.length_drop,List.length_take];rfl)) ?_
          (with_reducible refine(spec_Frame.calls AU (J.extract 8 ((A5):Int).toNat) Ah _ AF.o).mono ?_)
          rintro e Ba ⟨rfl,hb⟩;refine⟨_,rfl,?_⟩;replace HB:=bS HB hb;refine hK.out _ _ trivial (fun hHeld=>?_);clear hK K;refine nm 31 ?_
          refine pv 6 ?_;refine done_ (by kernel_rfl) ?_;(try go_wp2)
          go_ret3
          exact⟨by first|rfl|(simp[errW_none,errW_some]<;>rfl)|(simp only[←D];first|rfl|(simp[errW_none,errW_some]<;>rfl))|(simp[*,errW_none,errW_some]<;>rfl),bl⟩
         ·rw[if_neg Al]at H;have AG:=bN Al;have AH:=bQ Al;obtain⟨rfl,rfl,rfl⟩:=t3 H;(try go_wp2);replace HB:=dW HB;refine start_ (n:=7) (S:=fun w'=>True) (ds:=[]) (bo 7 0) (by kernel_rfl) rfl rfl trivial (fun hHeld=>?_);generalize wc.drew=Bn at HB hHeld ⊢;refine pv 0 ?_;refine pv 2 ?_;refine pv 3 ?_;refine pv 4 ?_;refine pv 5 ?_;refine oo 1 (fun K hK=>?_);refine goes_ Tryz.func132 (by kernel_rfl) rfl #[.string (J.extract 8 ((A5):Int).toNat)] (by rfl) rfl rfl (by(try simp only[List.map_toArray,List.map_cons,List.map_nil]);first|done|(simp only[D];rfl)|rfl|(simp only[List.length_drop,List.length_take];rfl)) ?_
          (with_reducible refine(spec_Frame.calls AU (J.extract 8 ((A5):Int).toNat) Ah _ AF.o).mono ?_)
          rintro e Bo ⟨rfl,hb⟩;refine⟨_,rfl,?_⟩;replace HB:=bS HB hb;refine hK.out _ _ trivial (fun hHeld=>?_);clear hK K;refine nm 31 ?_
          refine pv 6 ?_;refine done_ (by kernel_rfl) ?_;(try go_wp2)
          go_ret3
          exact⟨by first|rfl|(simp[errW_none,errW_some]<;>rfl)|(simp only[←D];first|rfl|(simp[errW_none,errW_some]<;>rfl))|(simp[*,errW_none,errW_some]<;>rfl),bl⟩
        ·exact no A1 H
       ·exact no c9 H
      ·exact no c8 H
 ·replace c3:=bF c3;subst c3;replace H:=iF H;obtain⟨rfl,rfl,rfl⟩:=t3 H
  go_enter Tryz.func150,Tryz.ntmps150
  go_wp2_with (first|((with_reducible refine gc 151 ?_);refine goesW Tryz.func151 ?_;(with_reducible refine mo (spec_ReadFixed.calls k J 4 Z false _ A2.o) ?_);rintro _ ⟨nd,rfl⟩))
  go_ret3
  exact⟨fe,bl⟩
def spec_Frames.l0:Nat→ByteArray→List ByteArray→Int→Option (List ByteArray×Int)
 | 0,_,_,_=>none
 |k+1,x0,x4,x5=>if x5<(x0.size:Int)then(if 0≤x5 then(if x5≤(x0.size:Int)then((spec_Unframe.f k (x0.extract (x5:Int).toNat x0.size)).bind fun Am=>(if Am.2.2=0 then(if x4.length<8796093022208 then(spec_Frames.l0 k x0 (x4 ++ [Am.1]) (wrap64 (x5+Am.2.1)))else(none))else(some (x4,x5))))else(none))else(none))else(some (x4,x5))
def spec_Frames.f (k:Nat) (J:ByteArray):Option (List ByteArray×Int):=spec_Frames.l0 k J (([]:List ByteArray)) 0
theorem spec_Frames.calls (k:Nat) (J:ByteArray) (r1:List ByteArray) (r2:Int) (w:World) (h:spec_Frames.f k J=some (r1,r2)) :
 Calls Tryz.prog 147 #[.string J] w fun e w'=>∃AW:Value,e = .returned (.tuple #[AW,.int .i64 r2])∧Kd.R Kd.string 9 w' w.heap.size (fun _=>True) AW r1∧Below w.heap.size w w':=by
 have HB:=aK (Below.refl w.heap.size w);have H:=h;unfold spec_Frames.f at H;clear h
 obtain⟨AC,Aa⟩:∃y_:List ByteArray,y_=(([]:List ByteArray)):=⟨_,rfl⟩
 replace H:(spec_Frames.l0 k J AC 0)=some (r1,r2):=by first|(rw[Aa];with_reducible exact H)|(have AI:=(Option.bind_some _ _).symm.trans H;rw[Aa];with_reducible exact AI)|(have AI:=(Option.bind_some _ _).symm.trans H;with_reducible exact AI)|with_reducible exact H|(rw[Aa];exact H)|exact H
 have Au:=aK Aa;clear Aa;have H':=aK H;clear H
 go_enter Tryz.func147,Tryz.ntmps147
 go_wp2_with (first|((with_reducible refine gd 9 ?_);refine Kd.R_lit Kd.string _ 9 ?hg (N:=9) ?hd (xs:=([]:List ByteArray)) (inner:=[]) (ok:=fun _=>True) (okp:=fun _=>True) ?hr ?hp (fun _ hk=>hk) trivial (Below.refl _ _) (Nat.le_refl _) (by simp) ?_;(case hd=>rfl);(case hg=>rfl);(case hr=>first|(go_simp;done)|(go_simp;rfl));(case hp=>exact(Reps.none _ _));intro Bi w2 Av hb hg_ hnew_;clear hg_ hnew_;(first|rw[←Au.o]at Av|(simp only[Int.reduceToNat]at Av;rw[←Au.o]at Av));have AJ:=rl HB Av;replace HB:=bS HB hb;clear hb Av))
 go_loopg [4,5] k (fun kq v4 v5 w'=>∃(U:List ByteArray) (A0:Int),v5 = .int .i64 A0∧Aside0 (spec_Frames.l0 kq J U A0=some (r1,r2))∧Aside0 (kq≤k)∧Aside0 (Kd.R Kd.string 9 w' w.heap.size (fun _=>True) v4 U)∧Aside0 (Below w.heap.size w w'))
 case atStart=>exact⟨(AC),(0),fa,H',⟨Nat.le_refl _⟩,⟨rpR AJ.o⟩,⟨bl⟩⟩
 case round=>
  clear H';obtain⟨U,A0,rfl,HA,Ae,A6,HB⟩:=hrel
  cases gk with
  |zero=>exact absurd HA.o (by simp[spec_Frames.l0])
  |succ k1=>
   have H:=HA.o;clear HA;simp only[spec_Frames.l0]at H;by_cases c4:A0<(J.size:Int)
   ·rw[if_pos c4]at H;have AX:=dt c4;clear c4;by_cases c5:0≤A0
    ·rw[if_pos c5]at H;have A3:=eq_true c5;have AB:=dt c5;clear c5;by_cases c6:A0≤(J.size:Int)
     ·rw[if_pos c6]at H;have AY:=eq_true c6;have Bj:=dt c6;clear c6;replace H:=oB H;obtain⟨⟨Ai,Aw,Ax⟩,AZ,H⟩:=H;dsimp only at H;have A7:=aK AZ;clear AZ;by_cases c8:Ax=0
      ·rw[if_pos c8]at H;have Ap:=bT c8;have Ar:=bE c8;clear c8;by_cases c9:U.length<8796093022208
       ·rw[if_pos c9]at H;have B0:=aK c9;clear c9
        obtain⟨B1,An⟩:=yy (U ++ [Ai])
        rw[←An]at H;(try rw[obs]at H)
        have AK:=aK An;clear An;have H':=aK H;clear H
        go_wp2_with (first|((with_reducible refine gc 150 ?_);refine goesW Tryz.func150 ?_;(with_reducible refine mo (spec_Unframe.calls k1 (J.extract (A0:Int).toNat J.size) Ai Aw Ax _ A7.o) ?_);intro Bp hb;replace A6:=rb A6 hb;replace HB:=bS HB hb)|((with_reducible refine gate_builtin (b:=.append) (xs:=#[.tmp 26,.tmp 28]) rfl ?_);at_builtin;refine Kd.R_append Kd.string (w0:=w) w.heap.size rfl (.tmp 26) (.tmp 28) 172 9 (.string ⟨#[]⟩) 16 rfl Tryz.underlying172 info9 rfl (by decide) (by omega) u4 U Ai [.string Ai] (fun _=>True) (fun _=>False) rfl rfl ?aP (fun _ hk=>hk.elim) ?aF ?aO ?aB ?aS ?aL ?_;(case aP=>exact rfl);(case aB=>exact bl);(case aF=>exact(fun _ _=>trivial));(case aO=>exact(rpR A6.o));(case aS=>exact(below_size bl));(case aL=>have:=B0.o;omega);intro Bk Bq ho hb hg hat;rw[←AK.o]at ho;replace HB:=aK (hb);have AL:=aK (ho);clear A6;clear ho hb hg hat))
        go_roundg k1
        case measure=>have:=Ae.o;omega
        case rel=>exact⟨(B1),(wrap64 (A0+Aw)),fa,H',⟨by have:=Ae.o;omega⟩,⟨rpR AL.o⟩,⟨bl⟩⟩
       ·exact no c9 H
      ·rw[if_neg c8]at H;have Ap:=bN c8;have Ar:=bQ c8;obtain⟨rfl,rfl⟩:=t2 H
       go_wp2_with (first|((with_reducible refine gc 150 ?_);refine goesW Tryz.func150 ?_;(with_reducible refine mo (spec_Unframe.calls k1 (J.extract (A0:Int).toNat J.size) Ai Aw Ax _ A7.o) ?_);intro Br hb;replace A6:=rb A6 hb;replace HB:=bS HB hb))
       go_ret2
       exact⟨_,fe,rpR A6.o,bl⟩
     ·exact no c6 H
    ·exact no c5 H
   ·rw[if_neg c4]at H;have AX:=df c4;clear c4;obtain⟨rfl,rfl⟩:=t2 H
    go_wp2
    go_ret2
    exact⟨_,fe,rpR A6.o,bl⟩
mutual
def spec_ReadVar.l0:Nat→ByteArray→Int→Option (Int×Int)
 | 0,_,_=>none
 |k+1,x0,x4=>if x4≤7 then(spec_ReadVar.j1 k x0 x4 (decide (x4≤(x0.size:Int))))else(spec_ReadVar.j1 k x0 x4 false)
def spec_ReadVar.j1:Nat→ByteArray→Int→Bool→Option (Int×Int)
 | 0,_,_,_=>none
 |k+1,x0,x4,Bb=>if Bb=true then(spec_ReadVar.l1 k x0 x4 0 (wrap64 (x4-1)))else(some (0,0))
def spec_ReadVar.l1:Nat→ByteArray→Int→Int→Int→Option (Int×Int)
 | 0,_,_,_,_=>none
 |k+1,x0,x4,x5,x6=>if x6≥0 then(if 0≤x6 then(if x6<(x0.size:Int)then(spec_ReadVar.l1 k x0 x4 (wrap64 ((wrap64 (x5*128))+(Int.tmod (wrap64 (bt x0 x6)) 128))) (wrap64 (x6-1)))else(none))else(none))else((spec_Var.f k x5).bind fun Aj=>(if 0≤x4 then(if x4≤(x0.size:Int)then(if Aj.toList=(x0.extract 0 (x4:Int).toNat).toList then(some (x5,x4))else(spec_ReadVar.l0 k x0 (wrap64 (x4+1))))else(none))else(none)))
end
def spec_ReadVar.f (k:Nat) (J:ByteArray):Option (Int×Int):=spec_ReadVar.l0 k J 1
theorem spec_ReadVar.calls (k:Nat) (J:ByteArray) (r1:Int) (r2:Int) (w:World) (h:spec_ReadVar.f k J=some (r1,r2)) :
 Calls Tryz.prog 175 #[.string J] w fun e w'=>e = .returned (.tuple #[.int .i64 r1,.int .i64 r2])∧Below w.heap.size w w':=by
 have HB:=aK (Below.refl w.heap.size w);have H:=h;unfold spec_ReadVar.f at H;clear h;have H':=aK H;clear H
 go_enter Tryz.func175,Tryz.ntmps175
 go_wp2
 go_loopg [4] k (fun kq v4 w'=>∃(U:Int),v4 = .int .i64 U∧Aside0 (spec_ReadVar.l0 kq J U=some (r1,r2))∧Aside0 (kq≤k)∧Aside0 (Below w.heap.size w w'))
 case atStart=>exact⟨(1),fa,H',⟨Nat.le_refl _⟩,⟨bl⟩⟩
 case round=>
  clear H';obtain⟨U,rfl,HA,Ae,HB⟩:=hrel
  cases gk with
  |zero=>exact absurd HA.o (by simp[spec_ReadVar.l0])
  |succ k1=>
   have H:=HA.o;clear HA;simp only[spec_ReadVar.l0]at H;have AM:=aK H;clear H
   go_upto_region 2 with(fail)
   go_cut [14] (fun Bc wc=>∃(kq:Nat) (Af:Bool),Bc = .bool Af∧Aside0 (spec_ReadVar.j1 kq J U Af=some (r1,r2))∧Aside0 (kq≤k1)∧Aside0 (Below w.heap.size w wc))
   case first=>
    have H:=AM.o;clear AM;by_cases c3:U≤7
    ·rw[if_pos c3]at H;have Ak:=dt c3;clear c3;(first|rw[Ak]|(simp only[i64_w,i32_w];rw[Ak])|skip);have H':=aK H;clear H
     go_wp2
     go_meet
     case rel=>exact⟨_,(decide (U≤(J.size:Int))),fa,H',⟨by have:=Ae.o;first|omega|exact Nat.le_refl _⟩,⟨bl⟩⟩
    ·rw[if_neg c3]at H;have Ak:=df c3;clear c3;(first|rw[Ak]|(simp only[i64_w,i32_w];rw[Ak])|skip);have H':=aK H;clear H
     go_wp2
     go_meet
     case rel=>exact⟨_,(false),fa,H',⟨by have:=Ae.o;first|omega|exact Nat.le_refl _⟩,⟨bl⟩⟩
   case rest=>
    clear AM;obtain⟨kq,Af,rfl,HA,Az,HB⟩:=hcut
    cases kq with
    |zero=>exact absurd HA.o (by simp[spec_ReadVar.j1])
    |succ B2=>
     have H:=HA.o;clear HA;simp only[spec_ReadVar.j1]at H;by_cases c4:Af=true
     ·subst c4;replace H:=iT H;have H':=aK H;clear H
      go_wp2
      go_loopg [5,6] B2 (fun kq v5 v6 w'=>∃(Ab:Int) (Y:Int),v5 = .int .i64 Ab∧v6 = .int .i64 Y∧Aside0 (spec_ReadVar.l1 kq J U Ab Y=some (r1,r2))∧Aside0 (kq≤B2)∧Aside0 (Below w.heap.size w w'))
      case atStart=>exact⟨(0),(wrap64 (U-1)),fa,fa,H',⟨Nat.le_refl _⟩,⟨bl⟩⟩
      case round=>
       clear H';obtain⟨Ab,Y,rfl,rfl,HA,A_,HB⟩:=hrel
       cases gk with
       |zero=>exact absurd HA.o (by simp[spec_ReadVar.l1])
       |succ k3=>
        have H:=HA.o;clear HA;simp only[spec_ReadVar.l1]at H;by_cases c5:Y≥0
        ·rw[if_pos c5]at H;have A3:=dt c5;clear c5;by_cases c6:0≤Y
         ·rw[if_pos c6]at H;have AY:=dt c6;clear c6;by_cases c7:Y<(J.size:Int)
          ·rw[if_pos c7]at H;have Ag:=dt c7;clear c7;have H':=aK H;clear H;have p8:0≤(Y:Int):=dT am;have q8:Y<(J.size:Int):=dT am;have Bs:=bt_at J Y;replace p8:=eq_true p8;replace q8:=eq_true q8
           go_wp2
           go_roundg k3
           case measure=>have:=Ae.o;have:=Az.o;have:=A_.o;omega
           case rel=>exact⟨(wrap64 ((wrap64 (Ab*128))+(Int.tmod (wrap64 (bt J Y)) 128))),(wrap64 (Y-1)),fa,fa,H',⟨by have:=Ae.o;have:=Az.o;have:=A_.o;omega⟩,⟨bl⟩⟩
          ·exact no c7 H
         ·exact no c6 H
        ·rw[if_neg c5]at H;have A3:=df c5;clear c5;obtain⟨Aj,A9,H⟩:=bd H;by_cases c10:0≤U
         ·rw[if_pos c10]at H;have Bd:=eq_true c10;have Be:=dt c10;clear c10;by_cases Ay:U≤(J.size:Int)
          ·rw[if_pos Ay]at H;have Bf:=eq_true Ay;have Bg:=dt Ay;clear Ay;by_cases A1:Aj.toList=(J.extract 0 (U:Int).toNat).toList
           ·rw[if_pos A1]at H;have As:=bT A1;have At:=bE A1;clear A1;obtain⟨rfl,rfl⟩:=t2 H;(try go_wp2);replace HB:=dW HB;refine start_ (n:=6) (S:=fun w'=>True) (ds:=[]) (bo 6 0) (by kernel_rfl) rfl rfl trivial (fun hHeld=>?_);generalize wr.drew=Bt at HB hHeld ⊢;refine pv 0 ?_;refine pv 2 ?_;refine pv 3 ?_;refine pv 4 ?_;refine oo 1 (fun K hK=>?_);refine goesV Tryz.func173 ?_
            (with_reducible refine(spec_Var.calls k3 Ab Aj _ A9.o).mono ?_)
            rintro e Bu ⟨rfl,hb⟩;refine⟨_,rfl,?_⟩;replace HB:=bS HB hb;refine hK.out _ _ trivial (fun hHeld=>?_);clear hK K;refine nm 32 ?_
            refine pv 5 ?_;refine done_ (by kernel_rfl) ?_;(try go_wp2)
            go_ret2
            exact⟨fe,bl⟩
           ·rw[if_neg A1]at H;have As:=bN A1;have At:=bQ A1;have H':=aK H;clear H;(try go_wp2);replace HB:=dW HB;refine start_ (n:=6) (S:=fun w'=>True) (ds:=[]) (bo 6 0) (by kernel_rfl) rfl rfl trivial (fun hHeld=>?_);generalize wr.drew=B9 at HB hHeld ⊢;refine pv 0 ?_;refine pv 2 ?_;refine pv 3 ?_;refine pv 4 ?_;refine oo 1 (fun K hK=>?_);refine goesV Tryz.func173 ?_
            (with_reducible refine(spec_Var.calls k3 Ab Aj _ A9.o).mono ?_)
            rintro e Ba ⟨rfl,hb⟩;refine⟨_,rfl,?_⟩;replace HB:=bS HB hb;refine hK.out _ _ trivial (fun hHeld=>?_);clear hK K;refine nm 32 ?_
            refine pv 5 ?_;refine done_ (by kernel_rfl) ?_;(try go_wp2)
            go_roundg k3
            case measure=>have:=Ae.o;have:=Az.o;have:=A_.o;omega
            case rel=>exact⟨(wrap64 (U+1)),fa,H',⟨by have:=Ae.o;have:=Az.o;have:=A_.o;omega⟩,⟨bl⟩⟩
          ·exact no Ay H
         ·exact no c10 H
     ·replace c4:=bF c4;subst c4;replace H:=iF H;obtain⟨rfl,rfl⟩:=t2 H
      go_wp2
      go_ret2
      exact⟨fe,bl⟩
def spec_ShowRec.f (k:Nat) (U:Int) (X:Int) (Y:Int) (Z:Int) (A0:ByteArray):Option (ByteArray):=(spec_RecOk.f U X Y Z A0).bind fun Az=>(if Az=true then((some (([(U)%256]:List Int):List Int)).bind fun A3=>((spec_Var.f k X).bind fun A5=>(if(strOfNums A3).size+A5.size≤9223372036854775807 then((spec_Var.f k Y).bind fun A7=>(if((strOfNums A3).size+A5.size)+A7.size≤9223372036854775807 then((spec_Var.f k (wrap64 (Z+1))).bind fun Ah=>(if(((strOfNums A3).size+A5.size)+A7.size)+Ah.size≤9223372036854775807 then(if((((strOfNums A3).size+A5.size)+A7.size)+Ah.size)+A0.size≤9223372036854775807 then(some (((((strOfNums A3)++A5)++A7)++Ah)++A0))else(none))else(none)))else(none)))else(none))))else(some (⟨#[]⟩:ByteArray)))
def spec_ShowRec.T3:Bool×List (List Nat×List Nat):=(true,[([],[]),([0],[0]),([1],[1]),([2],[2]),([3],[3]),([],[]),([5],[5]),([6],[6]),([4,7],[4,7]),([],[]),([9],[9]),([10,7],[10]),([8,11],[8,11]),([],[]),([13],[13]),([14],[14]),([15,11],[15]),([12,16],[12,16]),([],[]),([18],[18]),([17,19],[17,19]),([20,16,0,1,2,3,4,5,6,7,8,9,10,11,12,13,14,15,16,17,18,19,20],[20])])
def spec_ShowRec.B3:List Nat:=[0,1,3,7,15,0,32,96,255,0,512,1760,4095,0,8192,24576,61152,131071,0,262144,1048575,2097151]
theorem spec_ShowRec.tab3:rtab .any (opsOf Tryz.f133 3)=spec_ShowRec.T3:=by kernel_rfl
theorem spec_ShowRec.bits3:waitsOk spec_ShowRec.T3.2 spec_ShowRec.B3=true:=by kernel_rfl
theorem spec_ShowRec.calls (k:Nat) (U:Int) (X:Int) (Y:Int) (Z:Int) (A0:ByteArray) (r:ByteArray) (w:World) (h:spec_ShowRec.f k U X Y Z A0=some r) :
 Calls Tryz.prog 133 #[.agg #[.int .i64 U,.int .i64 X,.int .i64 Y,.int .i64 Z,.string A0]] w fun e w'=>e = .returned (.string r)∧Below w.heap.size w w':=by
 have AI:=Tryz.underlying161;have HB:=aK (Below.refl w.heap.size w);have H:=h;unfold spec_ShowRec.f at H;clear h;obtain⟨Az,A2,H⟩:=bd H;by_cases c3:Az=true
 ·subst c3;replace H:=iT H;obtain⟨A3,Aw⟩:=yy ([(U)%256]:List Int);rw[←Aw]at H;(try rw[obs]at H)
  have Al:=aK Aw;clear Aw;obtain⟨A5,A4,H⟩:=bd H;by_cases c5:(strOfNums A3).size+A5.size≤9223372036854775807
  ·rw[if_pos c5]at H;have AQ:=eq_true c5;have AR:=dt c5;(try have AS:(9223372036854775807<(strOfNums A3).size+A5.size)=False:=eq_false (Nat.not_lt.2 c5));obtain⟨A7,A6,H⟩:=bd H;by_cases c7:((strOfNums A3).size+A5.size)+A7.size≤9223372036854775807
   ·rw[if_pos c7]at H;have AT:=eq_true c7;have AU:=dt c7;(try have AV:(9223372036854775807<((strOfNums A3).size+A5.size)+A7.size)=False:=eq_false (Nat.not_lt.2 c7));obtain⟨Ah,A8,H⟩:=bd H;by_cases c9:(((strOfNums A3).size+A5.size)+A7.size)+Ah.size≤9223372036854775807
    ·rw[if_pos c9]at H;have AW:=eq_true c9;have AX:=dt c9;(try have AY:(9223372036854775807<(((strOfNums A3).size+A5.size)+A7.size)+Ah.size)=False:=eq_false (Nat.not_lt.2 c9));by_cases c10:((((strOfNums A3).size+A5.size)+A7.size)+Ah.size)+A0.size≤9223372036854775807
     ·rw[if_pos c10]at H;have AJ:=eq_true c10;have AK:=dt c10;(try have AL:(9223372036854775807<((((strOfNums A3).size+A5.size)+A7.size)+Ah.size)+A0.size)=False:=eq_false (Nat.not_lt.2 c10));obtain rfl:=oj H
      go_enter Tryz.func133,Tryz.ntmps133
      (try go_wp2_with (first|((with_reducible refine gd 1 ?_);refine boxQ HB ?_;clear HB;intro D hg AM J AB HB hb;clear hb hg;have:=cf5 J)|((with_reducible refine gc 172 ?_);refine goesW Tryz.func172 ?_;(with_reducible refine mo (spec_RecOk.calls U X Y Z A0 _ _ A2.o) ?_);intro AH hb;replace J:=bv J hb;replace HB:=bS HB hb)));replace J:=dB J;replace HB:=dW HB;refine start_ (n:=22) (S:=fun w'=>w'.cell? ⟨D,0,none⟩=some (.int .i64 U)∧w'.cell? ⟨D,1,none⟩=some (.int .i64 X)∧w'.cell? ⟨D,2,none⟩=some (.int .i64 Y)∧w'.cell? ⟨D,3,none⟩=some (.int .i64 Z)∧w'.cell? ⟨D,4,none⟩=some (.string A0)) (ds:=[]) (bo 22 0) (by kernel_rfl) rfl rfl hh (fun hHeld=>?_);refine with_tabW spec_ShowRec.tab3 spec_ShowRec.bits3 (fun HT_ HW_=>?_);generalize AH.drew=AZ at J HB hHeld ⊢;refine pv 0 ?_;refine pv 5 ?_;refine pv 9 ?_;refine pv 13 ?_;refine pv 18 ?_
      refine tv 1 ?_;refine pv 2 ?_;refine tv 6 ?_;refine tv 10 ?_;refine tv 14 ?_;refine pv 15 ?_;refine tv 19 ?_;refine join_ (σ:=Value) 3 (bo 22 917503) (fun s_=>[(9,s_),(10,.string (strOfNums A3)),(13,.string A5),(17,.string A7),(22,.string Ah),(14,.string ((strOfNums A3)++A5)),(18,.string (((strOfNums A3)++A5)++A7))]) (fun s_ w'=>(w'.cell? ⟨D,0,none⟩=some (.int .i64 U)∧w'.cell? ⟨D,1,none⟩=some (.int .i64 X)∧w'.cell? ⟨D,2,none⟩=some (.int .i64 Y)∧w'.cell? ⟨D,3,none⟩=some (.int .i64 Z)∧w'.cell? ⟨D,4,none⟩=some (.string A0))∧(Kd.R (Kd.int .u8) 5 w' w.heap.size (fun _=>True) s_ A3)∧(w'.heap[D]? = some (.cells #[.int .i64 U,.int .i64 X,.int .i64 Y,.int .i64 Z,.string A0] 161 (0,0)))∧(Below w.heap.size w w')) ?_ ?_
      rotate_left
      ·intro Am;refine join_ (σ:=Value) 4 (bo 22 851967) (fun s_=>[(9,s_),(10,.string (strOfNums A3)),(13,.string A5),(17,.string A7),(14,.string ((strOfNums A3)++A5)),(18,.string (((strOfNums A3)++A5)++A7))]) (fun s_ w'=>(w'.cell? ⟨D,0,none⟩=some (.int .i64 U)∧w'.cell? ⟨D,1,none⟩=some (.int .i64 X)∧w'.cell? ⟨D,2,none⟩=some (.int .i64 Y)∧w'.cell? ⟨D,3,none⟩=some (.int .i64 Z)∧w'.cell? ⟨D,4,none⟩=some (.string A0))∧(Kd.R (Kd.int .u8) 5 w' w.heap.size (fun _=>True) s_ A3)∧(w'.heap[D]? = some (.cells #[.int .i64 U,.int .i64 X,.int .i64 Y,.int .i64 Z,.string A0] 161 (0,0)))∧(Below w.heap.size w w')) ?_ ?_
       rotate_left
       ·intro Ao;refine join_ (σ:=Value) 6 (bo 22 913135) (fun s_=>[(9,s_),(13,.string A5),(17,.string A7),(22,.string Ah)]) (fun s_ w'=>(w'.cell? ⟨D,0,none⟩=some (.int .i64 U)∧w'.cell? ⟨D,1,none⟩=some (.int .i64 X)∧w'.cell? ⟨D,2,none⟩=some (.int .i64 Y)∧w'.cell? ⟨D,3,none⟩=some (.int .i64 Z)∧w'.cell? ⟨D,4,none⟩=some (.string A0))∧(Kd.R (Kd.int .u8) 5 w' w.heap.size (fun _=>True) s_ A3)∧(w'.heap[D]? = some (.cells #[.int .i64 U,.int .i64 X,.int .i64 Y,.int .i64 Z,.string A0] 161 (0,0)))∧(Below w.heap.size w w')) ?_ ?_
        rotate_left
        ·intro An;refine join_ (σ:=Value) 6 (bo 22 845823) (fun s_=>[(9,s_),(10,.string (strOfNums A3)),(13,.string A5),(14,.string ((strOfNums A3)++A5))]) (fun s_ w'=>(w'.cell? ⟨D,0,none⟩=some (.int .i64 U)∧w'.cell? ⟨D,1,none⟩=some (.int .i64 X)∧w'.cell? ⟨D,2,none⟩=some (.int .i64 Y)∧w'.cell? ⟨D,3,none⟩=some (.int .i64 Z)∧w'.cell? ⟨D,4,none⟩=some (.string A0))∧(Kd.R (Kd.int .u8) 5 w' w.heap.size (fun _=>True) s_ A3)∧(w'.heap[D]? = some (.cells #[.int .i64 U,.int .i64 X,.int .i64 Y,.int .i64 Z,.string A0] 161 (0,0)))∧(Below w.heap.size w w')) ?_ ?_
         rotate_left
         ·intro Ar;refine join_ (σ:=Value) 7 (bo 22 847599) (fun s_=>[(9,s_),(13,.string A5),(17,.string A7)]) (fun s_ w'=>(w'.cell? ⟨D,0,none⟩=some (.int .i64 U)∧w'.cell? ⟨D,1,none⟩=some (.int .i64 X)∧w'.cell? ⟨D,2,none⟩=some (.int .i64 Y)∧w'.cell? ⟨D,3,none⟩=some (.int .i64 Z)∧w'.cell? ⟨D,4,none⟩=some (.string A0))∧(Kd.R (Kd.int .u8) 5 w' w.heap.size (fun _=>True) s_ A3)∧(w'.heap[D]? = some (.cells #[.int .i64 U,.int .i64 X,.int .i64 Y,.int .i64 Z,.string A0] 161 (0,0)))∧(Below w.heap.size w w')) ?_ ?_
          rotate_left
          ·intro Ap;refine join_ (σ:=Unit) 7 (bo 22 913127) (fun s_=>[(13,.string A5),(17,.string A7),(22,.string Ah)]) (fun s_ w'=>(w'.cell? ⟨D,0,none⟩=some (.int .i64 U)∧w'.cell? ⟨D,1,none⟩=some (.int .i64 X)∧w'.cell? ⟨D,2,none⟩=some (.int .i64 Y)∧w'.cell? ⟨D,3,none⟩=some (.int .i64 Z)∧w'.cell? ⟨D,4,none⟩=some (.string A0))∧(w'.heap[D]? = some (.cells #[.int .i64 U,.int .i64 X,.int .i64 Y,.int .i64 Z,.string A0] 161 (0,0)))∧(Below w.heap.size w w')) ?_ ?_
           rotate_left
           ·intro Ax;refine join_ (σ:=Value) 8 (bo 22 845439) (fun s_=>[(9,s_),(10,.string (strOfNums A3))]) (fun s_ w'=>(w'.cell? ⟨D,0,none⟩=some (.int .i64 U)∧w'.cell? ⟨D,1,none⟩=some (.int .i64 X)∧w'.cell? ⟨D,2,none⟩=some (.int .i64 Y)∧w'.cell? ⟨D,3,none⟩=some (.int .i64 Z)∧w'.cell? ⟨D,4,none⟩=some (.string A0))∧(Kd.R (Kd.int .u8) 5 w' w.heap.size (fun _=>True) s_ A3)∧(w'.heap[D]? = some (.cells #[.int .i64 U,.int .i64 X,.int .i64 Y,.int .i64 Z,.string A0] 161 (0,0)))∧(Below w.heap.size w w')) ?_ ?_
            rotate_left
            ·intro AC;refine join_ (σ:=Value) 8 (bo 22 845551) (fun s_=>[(9,s_),(13,.string A5)]) (fun s_ w'=>(w'.cell? ⟨D,0,none⟩=some (.int .i64 U)∧w'.cell? ⟨D,1,none⟩=some (.int .i64 X)∧w'.cell? ⟨D,2,none⟩=some (.int .i64 Y)∧w'.cell? ⟨D,3,none⟩=some (.int .i64 Z)∧w'.cell? ⟨D,4,none⟩=some (.string A0))∧(Kd.R (Kd.int .u8) 5 w' w.heap.size (fun _=>True) s_ A3)∧(w'.heap[D]? = some (.cells #[.int .i64 U,.int .i64 X,.int .i64 Y,.int .i64 Z,.string A0] 161 (0,0)))∧(Below w.heap.size w w')) ?_ ?_
             rotate_left
             ·intro A_;refine join_ (σ:=Unit) 8 (bo 22 847591) (fun s_=>[(13,.string A5),(17,.string A7)]) (fun s_ w'=>(w'.cell? ⟨D,0,none⟩=some (.int .i64 U)∧w'.cell? ⟨D,1,none⟩=some (.int .i64 X)∧w'.cell? ⟨D,2,none⟩=some (.int .i64 Y)∧w'.cell? ⟨D,3,none⟩=some (.int .i64 Z)∧w'.cell? ⟨D,4,none⟩=some (.string A0))∧(w'.heap[D]? = some (.cells #[.int .i64 U,.int .i64 X,.int .i64 Y,.int .i64 Z,.string A0] 161 (0,0)))∧(Below w.heap.size w w')) ?_ ?_
              rotate_left
              ·intro AA;refine join_ (σ:=Value) 9 (bo 22 845423) (fun s_=>[(9,s_)]) (fun s_ w'=>(w'.cell? ⟨D,0,none⟩=some (.int .i64 U)∧w'.cell? ⟨D,1,none⟩=some (.int .i64 X)∧w'.cell? ⟨D,2,none⟩=some (.int .i64 Y)∧w'.cell? ⟨D,3,none⟩=some (.int .i64 Z)∧w'.cell? ⟨D,4,none⟩=some (.string A0))∧(Kd.R (Kd.int .u8) 5 w' w.heap.size (fun _=>True) s_ A3)∧(w'.heap[D]? = some (.cells #[.int .i64 U,.int .i64 X,.int .i64 Y,.int .i64 Z,.string A0] 161 (0,0)))∧(Below w.heap.size w w')) ?_ ?_
               rotate_left
               ·intro AN;refine join_ (σ:=Unit) 9 (bo 22 845543) (fun s_=>[(13,.string A5)]) (fun s_ w'=>(w'.cell? ⟨D,0,none⟩=some (.int .i64 U)∧w'.cell? ⟨D,1,none⟩=some (.int .i64 X)∧w'.cell? ⟨D,2,none⟩=some (.int .i64 Y)∧w'.cell? ⟨D,3,none⟩=some (.int .i64 Z)∧w'.cell? ⟨D,4,none⟩=some (.string A0))∧(w'.heap[D]? = some (.cells #[.int .i64 U,.int .i64 X,.int .i64 Y,.int .i64 Z,.string A0] 161 (0,0)))∧(Below w.heap.size w w')) ?_ ?_
                rotate_left
                ·intro AO;refine two_ (i:=3) (j:=7) (Ni:=some 9) (Nj:=some 13) (bo 22 845423) (bo 22 845543) rfl rfl rfl rfl (two_of HT_.o (by kernel_rfl)) (by decide) (by decide) (fun K hK=>?_) (fun K hK=>?_)
                 ·skip;refine Kd.R_lit_step (Kd.int .u8) _ 5 ?hg (N:=9) ?hd (xs:=([(U)%256]:List Int)) (inner:=[.int .u8 ((U)%256)]) (ok:=fun _=>True) (okp:=fun _=>True) ?hr ?hp (fun _ hk=>hk) trivial (Below.refl _ _) (Nat.le_refl _) (by simp) ?_;(case hd=>rfl);(case hg=>rfl);(case hr=>first|(go_simp;done)|(go_simp;rfl));(case hp=>exact(Reps.one (show Kd.M (Kd.int .u8) _ _ _ ((U)%256) [.int .u8 ((U)%256)]from rfl) (Reps.none _ _)));intro A9 AP As hb hg_ hnew_;clear hg_ hnew_;(first|rw[←Al.o]at As|(simp only[Int.reduceToNat]at As;rw[←Al.o]at As));have A1:=rl HB As;replace J:=bv J hb;replace HB:=bS HB hb;clear hb As;refine hK.out _ _ hh (fun hHeld=>?_);clear hK K;refine nm 9 ?_;exact norm_ pk (AN (A9) _ ⟨hHeld,(rpR A1.o),bk,bl⟩)
                 ·skip;refine goesV Tryz.func173 ?_;(with_reducible refine mo (spec_Var.calls k X A5 _ A4.o) ?_);intro AP hb;replace J:=bv J hb;replace HB:=bS HB hb;refine hK.out _ _ hh (fun hHeld=>?_);clear hK K;refine nm 13 ?_;exact norm_ pk (AO () _ ⟨hHeld,bk,bl⟩)
                ·skip;rintro _ Ay ⟨hS_,Aa,Ab⟩;have Ac:Aside0 (Ay.heap[D]? = some (.cells #[.int .i64 U,.int .i64 X,.int .i64 Y,.int .i64 Z,.string A0] 161 (0,0))):=⟨Aa⟩;have Ad:Aside0 (Below w.heap.size w Ay):=⟨Ab⟩;clear J;clear HB;clear Aa Ab;have J:=Ac;have HB:=Ad;clear Ac Ad;have hHeld:Ay.cell? ⟨D,0,none⟩=some (.int .i64 U)∧Ay.cell? ⟨D,1,none⟩=some (.int .i64 X)∧Ay.cell? ⟨D,2,none⟩=some (.int .i64 Y)∧Ay.cell? ⟨D,3,none⟩=some (.int .i64 Z)∧Ay.cell? ⟨D,4,none⟩=some (.string A0):=hS_;refine norm_ (a':=?_) ?_ ?_
                 rotate_left
                 ·simp only[putAll,Act.put,List.setIfInBounds_toArray,List.set_cons_zero,List.set_cons_succ];rfl
                 refine two_ (i:=3) (j:=11) (Ni:=some 9) (Nj:=some 17) (bo 22 845551) (bo 22 847591) rfl rfl rfl rfl (two_of HT_.o (by kernel_rfl)) (by decide) (by decide) (fun K hK=>?_) (fun K hK=>?_)
                 ·skip;refine Kd.R_lit_step (Kd.int .u8) _ 5 ?hg (N:=9) ?hd (xs:=([(U)%256]:List Int)) (inner:=[.int .u8 ((U)%256)]) (ok:=fun _=>True) (okp:=fun _=>True) ?hr ?hp (fun _ hk=>hk) trivial (Below.refl _ _) (Nat.le_refl _) (by simp) ?_;(case hd=>rfl);(case hg=>rfl);(case hr=>first|(go_simp;done)|(go_simp;rfl));(case hp=>exact(Reps.one (show Kd.M (Kd.int .u8) _ _ _ ((U)%256) [.int .u8 ((U)%256)]from rfl) (Reps.none _ _)));intro A9 Ak At hb hg_ hnew_;clear hg_ hnew_;(first|rw[←Al.o]at At|(simp only[Int.reduceToNat]at At;rw[←Al.o]at At));have A1:=rl HB At;replace J:=bv J hb;replace HB:=bS HB hb;clear hb At;refine hK.out _ _ hh (fun hHeld=>?_);clear hK K;refine nm 9 ?_;exact norm_ pk (A_ (A9) _ ⟨hHeld,(rpR A1.o),bk,bl⟩)
                 ·skip;refine goesV Tryz.func173 ?_;(with_reducible refine mo (spec_Var.calls k Y A7 _ A6.o) ?_);intro Ak hb;replace J:=bv J hb;replace HB:=bS HB hb;refine hK.out _ _ hh (fun hHeld=>?_);clear hK K;refine nm 17 ?_;exact norm_ pk (AA () _ ⟨hHeld,bk,bl⟩)
               ·skip;rintro A9 Ak ⟨hS_,Aa,Ab,Af⟩;have Ac:Aside0 (Kd.R (Kd.int .u8) 5 Ak w.heap.size (fun _=>True) A9 A3):=⟨Aa⟩;have Ad:Aside0 (Ak.heap[D]? = some (.cells #[.int .i64 U,.int .i64 X,.int .i64 Y,.int .i64 Z,.string A0] 161 (0,0))):=⟨Ab⟩;have Ag:Aside0 (Below w.heap.size w Ak):=⟨Af⟩;clear J;clear HB;clear Aa Ab Af;have A1:=Ac;have J:=Ad;have HB:=Ag;clear Ac Ad Ag;have hHeld:Ak.cell? ⟨D,0,none⟩=some (.int .i64 U)∧Ak.cell? ⟨D,1,none⟩=some (.int .i64 X)∧Ak.cell? ⟨D,2,none⟩=some (.int .i64 Y)∧Ak.cell? ⟨D,3,none⟩=some (.int .i64 Z)∧Ak.cell? ⟨D,4,none⟩=some (.string A0):=hS_;refine norm_ (a':=?_) ?_ ?_
                rotate_left
                ·simp only[putAll,Act.put,List.setIfInBounds_toArray,List.set_cons_zero,List.set_cons_succ];rfl
                refine two_ (i:=4) (j:=7) (Ni:=some 10) (Nj:=some 13) (bo 22 845439) (bo 22 845551) rfl rfl rfl rfl (two_of HT_.o (by kernel_rfl)) (by decide) (by decide) (fun K hK=>?_) (fun K hK=>?_)
                ·skip;have AD:=own_string (P:=Tryz.prog) Tryz.underlying169 Tryz.underlying5 Tryz.underlying9 (Kd.own_of_R A1.o);refine value_ (w1:=?_) (v:=?_) (by rfl) rfl ?_ ?_
                 rotate_left 2
                 ·go_simp;constructor
                  ·rfl
                  ·rfl
                 clear AD;refine hK.out _ _ hh (fun hHeld=>?_);clear hK K;refine nm 10 ?_;exact norm_ pk (AC (A9) _ ⟨hHeld,(rpR A1.o),bk,bl⟩)
                ·skip;refine goesV Tryz.func173 ?_;(with_reducible refine mo (spec_Var.calls k X A5 _ A4.o) ?_);intro Ae hb;replace A1:=rb A1 hb;replace J:=bv J hb;replace HB:=bS HB hb;refine hK.out _ _ hh (fun hHeld=>?_);clear hK K;refine nm 13 ?_;exact norm_ pk (A_ (A9) _ ⟨hHeld,(rpR A1.o),bk,bl⟩)
              ·skip;rintro _ Ak ⟨hS_,Aa,Ab⟩;have Ac:Aside0 (Ak.heap[D]? = some (.cells #[.int .i64 U,.int .i64 X,.int .i64 Y,.int .i64 Z,.string A0] 161 (0,0))):=⟨Aa⟩;have Ad:Aside0 (Below w.heap.size w Ak):=⟨Ab⟩;clear J;clear HB;clear Aa Ab;have J:=Ac;have HB:=Ad;clear Ac Ad;have hHeld:Ak.cell? ⟨D,0,none⟩=some (.int .i64 U)∧Ak.cell? ⟨D,1,none⟩=some (.int .i64 X)∧Ak.cell? ⟨D,2,none⟩=some (.int .i64 Y)∧Ak.cell? ⟨D,3,none⟩=some (.int .i64 Z)∧Ak.cell? ⟨D,4,none⟩=some (.string A0):=hS_;refine norm_ (a':=?_) ?_ ?_
               rotate_left
               ·simp only[putAll,Act.put,List.setIfInBounds_toArray,List.set_cons_zero,List.set_cons_succ];rfl
               refine two_ (i:=3) (j:=16) (Ni:=some 9) (Nj:=some 22) (bo 22 847599) (bo 22 913127) rfl rfl rfl rfl (two_of HT_.o (by kernel_rfl)) (by decide) (by decide) (fun K hK=>?_) (fun K hK=>?_)
               ·skip;refine Kd.R_lit_step (Kd.int .u8) _ 5 ?hg (N:=9) ?hd (xs:=([(U)%256]:List Int)) (inner:=[.int .u8 ((U)%256)]) (ok:=fun _=>True) (okp:=fun _=>True) ?hr ?hp (fun _ hk=>hk) trivial (Below.refl _ _) (Nat.le_refl _) (by simp) ?_;(case hd=>rfl);(case hg=>rfl);(case hr=>first|(go_simp;done)|(go_simp;rfl));(case hp=>exact(Reps.one (show Kd.M (Kd.int .u8) _ _ _ ((U)%256) [.int .u8 ((U)%256)]from rfl) (Reps.none _ _)));intro A9 Ae Au hb hg_ hnew_;clear hg_ hnew_;(first|rw[←Al.o]at Au|(simp only[Int.reduceToNat]at Au;rw[←Al.o]at Au));have A1:=rl HB Au;replace J:=bv J hb;replace HB:=bS HB hb;clear hb Au;refine hK.out _ _ hh (fun hHeld=>?_);clear hK K;refine nm 9 ?_;exact norm_ pk (Ap (A9) _ ⟨hHeld,(rpR A1.o),bk,bl⟩)
               ·skip;refine goesV Tryz.func173 ?_;(with_reducible refine mo (spec_Var.calls k (wrap64 (Z+1)) Ah _ A8.o) ?_);intro Ae hb;replace J:=bv J hb;replace HB:=bS HB hb;refine hK.out _ _ hh (fun hHeld=>?_);clear hK K;refine nm 22 ?_;exact norm_ pk (Ax () _ ⟨hHeld,bk,bl⟩)
             ·skip;rintro A9 Ae ⟨hS_,Aa,Ab,Af⟩;have Ac:Aside0 (Kd.R (Kd.int .u8) 5 Ae w.heap.size (fun _=>True) A9 A3):=⟨Aa⟩;have Ad:Aside0 (Ae.heap[D]? = some (.cells #[.int .i64 U,.int .i64 X,.int .i64 Y,.int .i64 Z,.string A0] 161 (0,0))):=⟨Ab⟩;have Ag:Aside0 (Below w.heap.size w Ae):=⟨Af⟩;clear J;clear HB;clear Aa Ab Af;have A1:=Ac;have J:=Ad;have HB:=Ag;clear Ac Ad Ag;have hHeld:Ae.cell? ⟨D,0,none⟩=some (.int .i64 U)∧Ae.cell? ⟨D,1,none⟩=some (.int .i64 X)∧Ae.cell? ⟨D,2,none⟩=some (.int .i64 Y)∧Ae.cell? ⟨D,3,none⟩=some (.int .i64 Z)∧Ae.cell? ⟨D,4,none⟩=some (.string A0):=hS_;refine norm_ (a':=?_) ?_ ?_
              rotate_left
              ·simp only[putAll,Act.put,List.setIfInBounds_toArray,List.set_cons_zero,List.set_cons_succ];rfl
              refine two_ (i:=4) (j:=11) (Ni:=some 10) (Nj:=some 17) (bo 22 845567) (bo 22 847599) rfl rfl rfl rfl (two_of HT_.o (by kernel_rfl)) (by decide) (by decide) (fun K hK=>?_) (fun K hK=>?_)
              ·skip;have AE:=own_string (P:=Tryz.prog) Tryz.underlying169 Tryz.underlying5 Tryz.underlying9 (Kd.own_of_R A1.o);refine value_ (w1:=?_) (v:=?_) (by rfl) rfl ?_ ?_
               rotate_left 2
               ·go_simp;constructor
                ·rfl
                ·rfl
               clear AE;refine hK.out _ _ hh (fun hHeld=>?_);clear hK K;refine nm 10 ?_;refine pv 8 ?_;exact norm_ pk (Ar (A9) _ ⟨hHeld,(rpR A1.o),bk,bl⟩)
              ·skip;refine goesV Tryz.func173 ?_;(with_reducible refine mo (spec_Var.calls k Y A7 _ A6.o) ?_);intro Ai hb;replace A1:=rb A1 hb;replace J:=bv J hb;replace HB:=bS HB hb;refine hK.out _ _ hh (fun hHeld=>?_);clear hK K;refine nm 17 ?_;exact norm_ pk (Ap (A9) _ ⟨hHeld,(rpR A1.o),bk,bl⟩)
            ·skip;rintro A9 Ae ⟨hS_,Aa,Ab,Af⟩;have Ac:Aside0 (Kd.R (Kd.int .u8) 5 Ae w.heap.size (fun _=>True) A9 A3):=⟨Aa⟩;have Ad:Aside0 (Ae.heap[D]? = some (.cells #[.int .i64 U,.int .i64 X,.int .i64 Y,.int .i64 Z,.string A0] 161 (0,0))):=⟨Ab⟩;have Ag:Aside0 (Below w.heap.size w Ae):=⟨Af⟩;clear J;clear HB;clear Aa Ab Af;have A1:=Ac;have J:=Ad;have HB:=Ag;clear Ac Ad Ag;have hHeld:Ae.cell? ⟨D,0,none⟩=some (.int .i64 U)∧Ae.cell? ⟨D,1,none⟩=some (.int .i64 X)∧Ae.cell? ⟨D,2,none⟩=some (.int .i64 Y)∧Ae.cell? ⟨D,3,none⟩=some (.int .i64 Z)∧Ae.cell? ⟨D,4,none⟩=some (.string A0):=hS_;refine norm_ (a':=?_) ?_ ?_
             rotate_left
             ·simp only[putAll,Act.put,List.setIfInBounds_toArray,List.set_cons_zero,List.set_cons_succ];rfl
             refine oo 7 (fun K hK=>?_);refine goesV Tryz.func173 ?_;(with_reducible refine mo (spec_Var.calls k X A5 _ A4.o) ?_);intro Ai hb;replace A1:=rb A1 hb;replace J:=bv J hb;replace HB:=bS HB hb;refine hK.out _ _ hh (fun hHeld=>?_);clear hK K;refine nm 13 ?_;refine pv 8 ?_;exact norm_ pk (Ar (A9) _ ⟨hHeld,(rpR A1.o),bk,bl⟩)
           ·skip;rintro _ Ae ⟨hS_,Aa,Ab⟩;have Ac:Aside0 (Ae.heap[D]? = some (.cells #[.int .i64 U,.int .i64 X,.int .i64 Y,.int .i64 Z,.string A0] 161 (0,0))):=⟨Aa⟩;have Ad:Aside0 (Below w.heap.size w Ae):=⟨Ab⟩;clear J;clear HB;clear Aa Ab;have J:=Ac;have HB:=Ad;clear Ac Ad;have hHeld:Ae.cell? ⟨D,0,none⟩=some (.int .i64 U)∧Ae.cell? ⟨D,1,none⟩=some (.int .i64 X)∧Ae.cell? ⟨D,2,none⟩=some (.int .i64 Y)∧Ae.cell? ⟨D,3,none⟩=some (.int .i64 Z)∧Ae.cell? ⟨D,4,none⟩=some (.string A0):=hS_;refine norm_ (a':=?_) ?_ ?_
            rotate_left
            ·simp only[putAll,Act.put,List.setIfInBounds_toArray,List.set_cons_zero,List.set_cons_succ];rfl
            refine oo 3 (fun K hK=>?_);refine Kd.R_lit_step (Kd.int .u8) _ 5 ?hg (N:=9) ?hd (xs:=([(U)%256]:List Int)) (inner:=[.int .u8 ((U)%256)]) (ok:=fun _=>True) (okp:=fun _=>True) ?hr ?hp (fun _ hk=>hk) trivial (Below.refl _ _) (Nat.le_refl _) (by simp) ?_;(case hd=>rfl);(case hg=>rfl);(case hr=>first|(go_simp;done)|(go_simp;rfl));(case hp=>exact(Reps.one (show Kd.M (Kd.int .u8) _ _ _ ((U)%256) [.int .u8 ((U)%256)]from rfl) (Reps.none _ _)));intro A9 Ai Av hb hg_ hnew_;clear hg_ hnew_;(first|rw[←Al.o]at Av|(simp only[Int.reduceToNat]at Av;rw[←Al.o]at Av));have A1:=rl HB Av;replace J:=bv J hb;replace HB:=bS HB hb;clear hb Av;refine hK.out _ _ hh (fun hHeld=>?_);clear hK K;refine nm 9 ?_;exact norm_ pk (An (A9) _ ⟨hHeld,(rpR A1.o),bk,bl⟩)
          ·skip;rintro A9 Ai ⟨hS_,Aa,Ab,Af⟩;have Ac:Aside0 (Kd.R (Kd.int .u8) 5 Ai w.heap.size (fun _=>True) A9 A3):=⟨Aa⟩;have Ad:Aside0 (Ai.heap[D]? = some (.cells #[.int .i64 U,.int .i64 X,.int .i64 Y,.int .i64 Z,.string A0] 161 (0,0))):=⟨Ab⟩;have Ag:Aside0 (Below w.heap.size w Ai):=⟨Af⟩;clear J;clear HB;clear Aa Ab Af;have A1:=Ac;have J:=Ad;have HB:=Ag;clear Ac Ad Ag;have hHeld:Ai.cell? ⟨D,0,none⟩=some (.int .i64 U)∧Ai.cell? ⟨D,1,none⟩=some (.int .i64 X)∧Ai.cell? ⟨D,2,none⟩=some (.int .i64 Y)∧Ai.cell? ⟨D,3,none⟩=some (.int .i64 Z)∧Ai.cell? ⟨D,4,none⟩=some (.string A0):=hS_;refine norm_ (a':=?_) ?_ ?_
           rotate_left
           ·simp only[putAll,Act.put,List.setIfInBounds_toArray,List.set_cons_zero,List.set_cons_succ];rfl
           refine two_ (i:=4) (j:=16) (Ni:=some 10) (Nj:=some 22) (bo 22 847615) (bo 22 913135) rfl rfl rfl rfl (two_of HT_.o (by kernel_rfl)) (by decide) (by decide) (fun K hK=>?_) (fun K hK=>?_)
           ·skip;have AF:=own_string (P:=Tryz.prog) Tryz.underlying169 Tryz.underlying5 Tryz.underlying9 (Kd.own_of_R A1.o);refine value_ (w1:=?_) (v:=?_) (by rfl) rfl ?_ ?_
            rotate_left 2
            ·go_simp;constructor
             ·rfl
             ·rfl
            clear AF;refine hK.out _ _ hh (fun hHeld=>?_);clear hK K;refine nm 10 ?_;refine pv 8 ?_;refine pv 12 ?_;exact norm_ pk (Ao (A9) _ ⟨hHeld,(rpR A1.o),bk,bl⟩)
           ·skip;refine goesV Tryz.func173 ?_;(with_reducible refine mo (spec_Var.calls k (wrap64 (Z+1)) Ah _ A8.o) ?_);intro Aj hb;replace A1:=rb A1 hb;replace J:=bv J hb;replace HB:=bS HB hb;refine hK.out _ _ hh (fun hHeld=>?_);clear hK K;refine nm 22 ?_;exact norm_ pk (An (A9) _ ⟨hHeld,(rpR A1.o),bk,bl⟩)
         ·skip;rintro A9 Ai ⟨hS_,Aa,Ab,Af⟩;have Ac:Aside0 (Kd.R (Kd.int .u8) 5 Ai w.heap.size (fun _=>True) A9 A3):=⟨Aa⟩;have Ad:Aside0 (Ai.heap[D]? = some (.cells #[.int .i64 U,.int .i64 X,.int .i64 Y,.int .i64 Z,.string A0] 161 (0,0))):=⟨Ab⟩;have Ag:Aside0 (Below w.heap.size w Ai):=⟨Af⟩;clear J;clear HB;clear Aa Ab Af;have A1:=Ac;have J:=Ad;have HB:=Ag;clear Ac Ad Ag;have hHeld:Ai.cell? ⟨D,0,none⟩=some (.int .i64 U)∧Ai.cell? ⟨D,1,none⟩=some (.int .i64 X)∧Ai.cell? ⟨D,2,none⟩=some (.int .i64 Y)∧Ai.cell? ⟨D,3,none⟩=some (.int .i64 Z)∧Ai.cell? ⟨D,4,none⟩=some (.string A0):=hS_;refine norm_ (a':=?_) ?_ ?_
          rotate_left
          ·simp only[putAll,Act.put,List.setIfInBounds_toArray,List.set_cons_zero,List.set_cons_succ];rfl
          refine oo 11 (fun K hK=>?_);refine goesV Tryz.func173 ?_;(with_reducible refine mo (spec_Var.calls k Y A7 _ A6.o) ?_);intro Aj hb;replace A1:=rb A1 hb;replace J:=bv J hb;replace HB:=bS HB hb;refine hK.out _ _ hh (fun hHeld=>?_);clear hK K;refine nm 17 ?_;refine pv 12 ?_;exact norm_ pk (Ao (A9) _ ⟨hHeld,(rpR A1.o),bk,bl⟩)
        ·skip;rintro A9 Aj ⟨hS_,Aa,Ab,Af⟩;have Ac:Aside0 (Kd.R (Kd.int .u8) 5 Aj w.heap.size (fun _=>True) A9 A3):=⟨Aa⟩;have Ad:Aside0 (Aj.heap[D]? = some (.cells #[.int .i64 U,.int .i64 X,.int .i64 Y,.int .i64 Z,.string A0] 161 (0,0))):=⟨Ab⟩;have Ag:Aside0 (Below w.heap.size w Aj):=⟨Af⟩;clear J;clear HB;clear Aa Ab Af;have A1:=Ac;have J:=Ad;have HB:=Ag;clear Ac Ad Ag;have hHeld:Aj.cell? ⟨D,0,none⟩=some (.int .i64 U)∧Aj.cell? ⟨D,1,none⟩=some (.int .i64 X)∧Aj.cell? ⟨D,2,none⟩=some (.int .i64 Y)∧Aj.cell? ⟨D,3,none⟩=some (.int .i64 Z)∧Aj.cell? ⟨D,4,none⟩=some (.string A0):=hS_;refine norm_ (a':=?_) ?_ ?_
         rotate_left
         ·simp only[putAll,Act.put,List.setIfInBounds_toArray,List.set_cons_zero,List.set_cons_succ];rfl
         refine oo 4 (fun K hK=>?_);have AG:=own_string (P:=Tryz.prog) Tryz.underlying169 Tryz.underlying5 Tryz.underlying9 (Kd.own_of_R A1.o);refine value_ (w1:=?_) (v:=?_) (by rfl) rfl ?_ ?_
         rotate_left 2
         ·go_simp;constructor
          ·rfl
          ·rfl
         clear AG;refine hK.out _ _ hh (fun hHeld=>?_);clear hK K;refine nm 10 ?_;refine pv 8 ?_;refine pv 12 ?_;exact norm_ pk (Am (A9) _ ⟨hHeld,(rpR A1.o),bk,bl⟩)
       ·skip;rintro A9 Aj ⟨hS_,Aa,Ab,Af⟩;have Ac:Aside0 (Kd.R (Kd.int .u8) 5 Aj w.heap.size (fun _=>True) A9 A3):=⟨Aa⟩;have Ad:Aside0 (Aj.heap[D]? = some (.cells #[.int .i64 U,.int .i64 X,.int .i64 Y,.int .i64 Z,.string A0] 161 (0,0))):=⟨Ab⟩;have Ag:Aside0 (Below w.heap.size w Aj):=⟨Af⟩;clear J;clear HB;clear Aa Ab Af;have A1:=Ac;have J:=Ad;have HB:=Ag;clear Ac Ad Ag;have hHeld:Aj.cell? ⟨D,0,none⟩=some (.int .i64 U)∧Aj.cell? ⟨D,1,none⟩=some (.int .i64 X)∧Aj.cell? ⟨D,2,none⟩=some (.int .i64 Y)∧Aj.cell? ⟨D,3,none⟩=some (.int .i64 Z)∧Aj.cell? ⟨D,4,none⟩=some (.string A0):=hS_;refine norm_ (a':=?_) ?_ ?_
        rotate_left
        ·simp only[putAll,Act.put,List.setIfInBounds_toArray,List.set_cons_zero,List.set_cons_succ];rfl
        refine oo 16 (fun K hK=>?_);refine goesV Tryz.func173 ?_;(with_reducible refine mo (spec_Var.calls k (wrap64 (Z+1)) Ah _ A8.o) ?_);intro Aq hb;replace A1:=rb A1 hb;replace J:=bv J hb;replace HB:=bS HB hb;refine hK.out _ _ hh (fun hHeld=>?_);clear hK K;refine nm 22 ?_;exact norm_ pk (Am (A9) _ ⟨hHeld,(rpR A1.o),bk,bl⟩)
      rintro A9 Aq ⟨hS_,Aa,Ab,Af⟩;have Ac:Aside0 (Kd.R (Kd.int .u8) 5 Aq w.heap.size (fun _=>True) A9 A3):=⟨Aa⟩;have Ad:Aside0 (Aq.heap[D]? = some (.cells #[.int .i64 U,.int .i64 X,.int .i64 Y,.int .i64 Z,.string A0] 161 (0,0))):=⟨Ab⟩;have Ag:Aside0 (Below w.heap.size w Aq):=⟨Af⟩;clear J;clear HB;clear Aa Ab Af;have A1:=Ac;have J:=Ad;have HB:=Ag;clear Ac Ad Ag;have hHeld:Aq.cell? ⟨D,0,none⟩=some (.int .i64 U)∧Aq.cell? ⟨D,1,none⟩=some (.int .i64 X)∧Aq.cell? ⟨D,2,none⟩=some (.int .i64 Y)∧Aq.cell? ⟨D,3,none⟩=some (.int .i64 Z)∧Aq.cell? ⟨D,4,none⟩=some (.string A0):=hS_;refine norm_ (a':=?_) ?_ ?_
      rotate_left
      ·simp only[putAll,Act.put,List.setIfInBounds_toArray,List.set_cons_zero,List.set_cons_succ];rfl
      refine pv 17 ?_;refine pv 20 ?_;refine pv 21 ?_;refine done_ (done_of HT_.o (by kernel_rfl)) ?_;(try go_wp2)
      go_ret
      exact⟨fe,bl⟩
     ·exact no c10 H
    ·exact no c9 H
   ·exact no c7 H
  ·exact no c5 H
 ·replace c3:=bF c3;subst c3;replace H:=iF H;obtain rfl:=oj H
  go_enter Tryz.func133,Tryz.ntmps133
  go_wp2_with (first|((with_reducible refine gd 1 ?_);refine boxQ HB ?_;clear HB;intro D hg AM J AB HB hb;clear hb hg;have:=cf5 J)|((with_reducible refine gc 172 ?_);refine goesW Tryz.func172 ?_;(with_reducible refine mo (spec_RecOk.calls U X Y Z A0 _ _ A2.o) ?_);intro AH hb;replace J:=bv J hb;replace HB:=bS HB hb))
  go_ret
  exact⟨fe,bl⟩
end Go.Proofs.YtndbmllnkjngnaaGreat.PDs
