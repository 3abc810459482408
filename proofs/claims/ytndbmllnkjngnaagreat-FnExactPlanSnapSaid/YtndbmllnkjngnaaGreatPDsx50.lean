/- Functions of the program, each with its contract, written by a program out of the translation. -/
import Derived.Test.YtndbmllnkjngnaaGreatPDsx40t
import Derived.Test.YtndbmllnkjngnaaGreatPDsx5
import Derived.Test.YtndbmllnkjngnaaGreatPDsx21
import Derived.Test.YtndbmllnkjngnaaGreatZup
import Derived.Test.YtndbmllnkjngnaaGreatPDsx1
namespace Go.Proofs.YtndbmllnkjngnaaGreat.PDs
open Go.RowKit Go.Proofs.YtndbmllnkjngnaaGreatW.PrintWords Go.Proofs.YtndbmllnkjngnaaGreatW.PrintLast Go.Proofs.YtndbmllnkjngnaaGreatW.PrintMore Go.Proofs.YtndbmllnkjngnaaGreat.Zip
attribute [local go_sem] max2_int min2_int max_two min_two max_three min_three max_four min_four
set_option linter.unusedVariables false
set_option linter.unusedSimpArgs false
set_option maxHeartbeats 8000000
set_option maxRecDepth 100000
def impl_isVote.f (X:Int):Option (Bool):=(impl_from.f X (-1) 4).bind fun Bd=>(some Bd)
theorem impl_isVote.calls (X:Int) (r:Bool) (w:World) (h:impl_isVote.f X=some r) :
 Calls Tryz.prog 135 #[.int .i64 X] w fun e w'=>e = .returned (.bool r)∧Drawn0 w w':=by
 have H:=h;unfold impl_isVote.f at H;clear h;obtain⟨Bd,A2,H⟩:=bd H;obtain rfl:=oj H
 go_enter Tryz.func135,Tryz.ntmps135
 go_wp2_with (first|((with_reducible refine gC 119 rfl ?_);refine goesW Tryz.func119 ?_;(with_reducible refine(impl_from.calls X (-1) 4 Bd _ A2.o).mono ?_);rintro e w' ⟨rfl,⟨nd,rfl⟩⟩;refine⟨_,rfl,?_⟩))
 go_ret
 exact⟨fa,fd⟩
def impl_isTerm.f (X:Int):Option (Bool):=(impl_from.f X 1 100000).bind fun Be=>(some Be)
theorem impl_isTerm.calls (X:Int) (r:Bool) (w:World) (h:impl_isTerm.f X=some r) :
 Calls Tryz.prog 143 #[.int .i64 X] w fun e w'=>e = .returned (.bool r)∧Drawn0 w w':=by
 have H:=h;unfold impl_isTerm.f at H;clear h;obtain⟨Be,A2,H⟩:=bd H;obtain rfl:=oj H
 go_enter Tryz.func143,Tryz.ntmps143
 go_wp2_with (first|((with_reducible refine gC 119 rfl ?_);refine goesW Tryz.func119 ?_;(with_reducible refine(impl_from.calls X 1 100000 Be _ A2.o).mono ?_);rintro e w' ⟨rfl,⟨nd,rfl⟩⟩;refine⟨_,rfl,?_⟩))
 go_ret
 exact⟨fa,fd⟩
def impl_isPlace.f (X:Int) (D:Int):Option (Bool):=if X=0 then(if D=0 then(some true)else((impl_from.f X 1 100000).bind fun Bf=>(if Bf=true then((impl_isTerm.f D).bind fun Bg=>(some Bg))else(some false))))else((impl_from.f X 1 100000).bind fun Bh=>(if Bh=true then((impl_isTerm.f D).bind fun Bi=>(some Bi))else(some false)))
theorem impl_isPlace.z1 {p:Prop} (h:p:=by
 go_enter Tryz.func136,Tryz.ntmps136
 go_wp2_with (first|(go_at_call 119;(with_reducible refine(impl_from.calls X 1 100000 _ _ A5.o).mono ?_);rintro e w' ⟨rfl,⟨nd,rfl⟩⟩)|(go_at_call 143;(with_reducible refine(impl_isTerm.calls D Bg _ A7.o).mono ?_);rintro e w' ⟨rfl,⟨nd,rfl⟩⟩)|(go_at_call 119;(with_reducible refine(impl_from.calls X 1 100000 _ _ A8.o).mono ?_);rintro e w' ⟨rfl,⟨nd,rfl⟩⟩)|(go_at_call 143;(with_reducible refine(impl_isTerm.calls D Bi _ Bj.o).mono ?_);rintro e w' ⟨rfl,⟨nd,rfl⟩⟩))
 go_ret
 exact⟨fa,fd⟩):p:=h
theorem impl_isPlace.calls (X:Int) (D:Int) (r:Bool) (w:World) (h:impl_isPlace.f X D=some r) :
 Calls Tryz.prog 136 #[.int .i64 X,.int .i64 D] w fun e w'=>e = .returned (.bool r)∧Drawn0 w w':=by
 have H:=h;unfold impl_isPlace.f at H;clear h;by_cases c3:X=0
 ·rw[if_pos c3]at H;have Bk:=bT c3;have C9:=bE c3;clear c3;by_cases c4:D=0
  ·rw[if_pos c4]at H;have AL:=bT c4;have Ca:=bE c4;clear c4;obtain rfl:=oj H
   go_enter Tryz.func136,Tryz.ntmps136
   go_wp2
   go_ret
   exact⟨fa,fd⟩
  ·rw[if_neg c4]at H;have AL:=bN c4;have Ca:=bQ c4;obtain⟨Bf,A5,H⟩:=bd H;by_cases c6:Bf=true
   ·subst c6;replace H:=iT H;obtain⟨Bg,A7,H⟩:=bd H;obtain rfl:=oj H
    exact impl_isPlace.z1
   ·replace c6:=bF c6;subst c6;replace H:=iF H;obtain rfl:=oj H
    exact impl_isPlace.z1
 ·rw[if_neg c3]at H;have Bk:=bN c3;have C9:=bQ c3;obtain⟨Bh,A8,H⟩:=bd H;by_cases c9:Bh=true
  ·subst c9;replace H:=iT H;obtain⟨Bi,Bj,H⟩:=bd H;obtain rfl:=oj H
   exact impl_isPlace.z1
  ·replace c9:=bF c9;subst c9;replace H:=iF H;obtain rfl:=oj H
   exact impl_isPlace.z1
def impl_termsOk.l0:Nat→Int→Int→List (S115)→Int→Int→Option (Bool)
 | 0,_,_,_,_,_=>none
 |k+1,x1,x2,x9,Cb,AM=>if AM<Cb then(if 0≤AM then(if AM<(x9.length:Int)then(if((rd_T115 x9 AM).f0)<1 then(some false)else((impl_from.f ((rd_T115 x9 AM).f0) x1 x2).bind fun Bl=>(if Bl=true then(if(((rd_T115 x9 AM).f1).size:Int)>900 then(some false)else(impl_termsOk.l0 k ((rd_T115 x9 AM).f0) x2 x9 Cb (wrap64 (AM+1))))else(some false))))else(none))else(none))else(some true)
def impl_termsOk.f (k:Nat) (l0:List (S115)) (D:Int) (a2:Int):Option (Bool):=impl_termsOk.l0 k D a2 l0 (l0.length:Int) 0
theorem impl_termsOk.z1 {p:Prop} (h:p:=by
 go_wp2_with (first|((with_reducible refine gD 8 rfl ?_);(try (refine gate_guard rfl ?_;dsimp only));refine boxW ?_;intro Cs hg Bm hbox hb;have BT:=aK hbox;have Ct:=gW HB hg;replace HB:=bS HB hb;clear hb hbox hg;have:=cf2 BT)|(go_at_call 119;(with_reducible refine(impl_from.calls ((rd_T115 l0 Y).f0) B6 a2 _ _ Bj.o).mono ?_);rintro e w' ⟨rfl,⟨nd,rfl⟩⟩))
 (first|(have _:=BU;go_ret;exact⟨fe,bl⟩)|(have _:=Cu;(go_roundg k1);(case measure=>have:=AC.o;omega);(case rel=>exact⟨((rd_T115 l0 Y).f0),(wrap64 (Y+1)),fa,fa,H',⟨by have:=AC.o;omega⟩,⟨bl⟩⟩)))):p:=h
theorem impl_termsOk.calls (k:Nat) (A0:Option Addr) (c0:Nat) (l0:List (S115)) (D:Int) (a2:Int) (r:Bool) (w:World) (Cc:Kd.C k115 w A0 l0.length l0) (Cd:l0.length≤c0) (h:impl_termsOk.f k l0 D a2=some r) :
 Calls Tryz.prog 137 #[.slice A0 l0.length c0,.int .i64 D,.int .i64 a2] w fun e w'=>e = .returned (.bool r)∧Below w.heap.size w w':=by
 have Cv:=Tryz.underlying115;have Cw:=aK Cc;have CW:=aK Cd;clear Cc Cd;have HB:=aK (Below.refl w.heap.size w);have H:=h;unfold impl_termsOk.f at H;clear h;have H':=aK H;clear H
 go_enter Tryz.func137,Tryz.ntmps137
 go_wp2
 go_loopg [1,11] k (fun kq v1 Cx w'=>∃(B6:Int) (Y:Int),v1 = .int .i64 B6∧Cx = .int .i64 Y∧Aside0 (impl_termsOk.l0 kq B6 a2 l0 (l0.length:Int) Y=some r)∧Aside0 (kq≤k)∧Aside0 (Below w.heap.size w w'))
 case atStart=>exact⟨(D),(0),fa,fa,H',⟨Nat.le_refl _⟩,⟨bl⟩⟩
 case round=>
  clear H';(try clear c1);(try clear p2);obtain⟨B6,Y,rfl,rfl,HA,AC,HB⟩:=hrel;cases gk with
  |zero=>exact absurd HA.o (by simp[impl_termsOk.l0])
  |succ k1=>
   have H:=HA.o;clear HA;simp only[impl_termsOk.l0]at H;by_cases c4:Y<(l0.length:Int)
   ·rw[if_pos c4]at H;have AL:=dt c4;clear c4;by_cases c5:0≤Y
    ·rw[if_pos c5]at H;have Ce:=dt c5;clear c5;by_cases c6:Y<(l0.length:Int)
     ·rw[if_pos c6]at H;have Ag:=dt c6;clear c6;have Hq_:=aK H;clear H;have Bn:0≤(Y:Int):=dT am;have Bo:Y<(l0.length:Int):=dT am;obtain⟨Cy,Cf,AN,AO⟩:=at_T115 Cw.o Y Bn Bo;cases Cf;replace AN:=cz HB AN;replace AO:=cz HB AO;replace Bn:=eq_true Bn;replace Bo:=eq_true Bo;have H:=Hq_.o;clear Hq_;by_cases c7:((rd_T115 l0 Y).f0)<1
      ·rw[if_pos c7]at H;have AP:=dt c7;(try rw[AP]);clear c7;obtain rfl:=oj H;have BU:=trivial;exact impl_termsOk.z1
      ·rw[if_neg c7]at H;have AP:=df c7;(try rw[AP]);clear c7;obtain⟨Bl,Bj,H⟩:=bd H;by_cases Ay:Bl=true
       ·subst Ay;replace H:=iT H;by_cases Ba:(((rd_T115 l0 Y).f1).size:Int)>900
        ·rw[if_pos Ba]at H;have AW:=dt Ba;(try rw[AW]);have AX:decide (900<((rd_T115 l0 Y).f1).size)=true:=dt (by omega);(try rw[AX]);clear Ba;obtain rfl:=oj H;have BU:=trivial;exact impl_termsOk.z1
        ·rw[if_neg Ba]at H;have AW:=df Ba;(try rw[AW]);have AX:decide (900<((rd_T115 l0 Y).f1).size)=false:=df (by omega);(try rw[AX]);clear Ba;have H':=aK H;clear H;have Cu:=trivial;exact impl_termsOk.z1
       ·replace Ay:=bF Ay;subst Ay;replace H:=iF H;obtain rfl:=oj H;have BU:=trivial;exact impl_termsOk.z1
     ·rw[if_neg c6]at H;exact absurd H (by simp)
    ·rw[if_neg c5]at H;exact absurd H (by simp)
   ·rw[if_neg c4]at H;have AL:=df c4;clear c4;obtain rfl:=oj H;go_wp2
    go_ret
    exact⟨fe,bl⟩
def impl_WalOk.f (k:Nat) (Z:Int) (A9:Int) (Az:Int) (Ak:Int) (U:List (S115)):Option (Bool):=(impl_from.f Z 0 100000).bind fun Bp=>(if Bp=true then((impl_isVote.f A9).bind fun Bq=>(if Bq=true then((impl_isPlace.f Az Ak).bind fun Br=>(if Br=true then(if Ak≤Z then(if(U.length:Int)≤60 then((impl_termsOk.f k U Ak Z).bind fun Bs=>(if Bs=true then(some (decide ((wrap64 (Az+(U.length:Int)))≤100000)))else(some false)))else(some false))else(some false))else(some false)))else(some false)))else(some false))
theorem impl_WalOk.z1 {p:Prop} (h:p:=by
 go_enter Tryz.func75,Tryz.ntmps75
 go_wp2_with (first|((with_reducible refine gD 1 rfl ?_);(try (refine gate_guard rfl ?_;dsimp only));refine boxW ?_;intro Cz hg Bm hbox hb;have AD:=aK hbox;have C_:=gW HB hg;replace HB:=bS HB hb;clear hb hbox hg;have:=cf5 AD)|((with_reducible refine gC 119 rfl ?_);refine goesW Tryz.func119 ?_;(with_reducible refine(impl_from.calls Z 0 100000 _ _ A2.o).mono ?_);rintro e w' ⟨rfl,⟨nd,rfl⟩⟩;refine⟨_,rfl,?_⟩)|(go_at_call 135;(with_reducible refine(impl_isVote.calls A9 _ _ A4.o).mono ?_);rintro e w' ⟨rfl,⟨nd,rfl⟩⟩)|(go_at_call 136;(with_reducible refine(impl_isPlace.calls Az Ak _ _ A6.o).mono ?_);rintro e w' ⟨rfl,⟨nd,rfl⟩⟩)|(go_at_call 137;(with_reducible refine(impl_termsOk.calls k _ _ U Ak Z _ _ ?_ ?_ Bj.o).mono ?_);exact ca (Kd.C_below AE.o bl);exact AF.o;rintro e BV ⟨rfl,hb⟩;replace AD:=bv AD hb;replace HB:=bS HB hb;(try clear hb);have:=cf5 AD))
 go_ret
 exact⟨fe,bl⟩):p:=h
theorem impl_WalOk.calls (k:Nat) (Z:Int) (A9:Int) (Az:Int) (Ak:Int) (Ao:Option Addr) (Ap:Nat) (U:List (S115)) (r:Bool) (w:World) (Aq:Kd.C k115 w Ao U.length U) (Ar:U.length≤Ap) (h:impl_WalOk.f k Z A9 Az Ak U=some r) :
 Calls Tryz.prog 75 #[.agg #[.int .i64 Z,.int .i64 A9,.int .i64 Az,.int .i64 Ak,.slice Ao U.length Ap]] w fun e w'=>e = .returned (.bool r)∧Below w.heap.size w w':=by
 have CN:=Tryz.underlying52;have AE:=aK Aq;have AF:=aK Ar;clear Aq Ar;have HB:=aK (Below.refl w.heap.size w);have H:=h;unfold impl_WalOk.f at H;clear h;obtain⟨Bp,A2,H⟩:=bd H;by_cases c3:Bp=true
 ·subst c3;replace H:=iT H;obtain⟨Bq,A4,H⟩:=bd H;by_cases c5:Bq=true
  ·subst c5;replace H:=iT H;obtain⟨Br,A6,H⟩:=bd H;by_cases c7:Br=true
   ·subst c7;replace H:=iT H;by_cases c8:Ak≤Z
    ·rw[if_pos c8]at H;have AQ:=dt c8;clear c8;by_cases c9:(U.length:Int)≤60
     ·rw[if_pos c9]at H;have BP:=dt c9;have BQ:decide (U.length≤60)=true:=dt (by omega);clear c9;obtain⟨Bs,Bj,H⟩:=bd H;by_cases Ay:Bs=true
      ·subst Ay;replace H:=iT H;obtain rfl:=oj H
       exact impl_WalOk.z1
      ·replace Ay:=bF Ay;subst Ay;replace H:=iF H;obtain rfl:=oj H
       exact impl_WalOk.z1
     ·rw[if_neg c9]at H;have BP:=df c9;have BQ:decide (U.length≤60)=false:=df (by omega);clear c9;obtain rfl:=oj H
      exact impl_WalOk.z1
    ·rw[if_neg c8]at H;have AQ:=df c8;clear c8;obtain rfl:=oj H
     exact impl_WalOk.z1
   ·replace c7:=bF c7;subst c7;replace H:=iF H;obtain rfl:=oj H
    exact impl_WalOk.z1
  ·replace c5:=bF c5;subst c5;replace H:=iF H;obtain rfl:=oj H
   exact impl_WalOk.z1
 ·replace c3:=bF c3;subst c3;replace H:=iF H;obtain rfl:=oj H
  exact impl_WalOk.z1
def impl_renewed.f (k:Nat) (Z:Int) (A9:Int) (Ad:List (S130)) (Ae:List (S133)) (U:List (S135)) (D:ByteArray) (a2:ByteArray) (a3:ByteArray):Option ((List (S39))):=(some (([]:List (S39)):List (S39))).bind fun Aa=>((impl_find.f k Z A9 Ad Ae U D).bind fun As=>(if As≥0 then(if Aa.length<2513169434916 then((some (Aa ++ [(⟨5,D,(⟨#[]⟩:ByteArray),(⟨#[]⟩:ByteArray)⟩:S39)]:List (S39))).bind fun Al=>((some (([(⟨1,D,(⟨#[]⟩:ByteArray),(⟨#[]⟩:ByteArray)⟩:S39),(⟨2,D,(⟨#[]⟩:ByteArray),a3⟩:S39),(⟨3,D,(⟨#[]⟩:ByteArray),(⟨#[]⟩:ByteArray)⟩:S39),(⟨4,D,a2,(⟨#[]⟩:ByteArray)⟩:S39),(⟨6,(⟨#[]⟩:ByteArray),(⟨#[]⟩:ByteArray),(⟨#[]⟩:ByteArray)⟩:S39)]:List (S39)):List (S39))).bind fun Ai=>(if Al.length+Ai.length<2513169434916 then(some (Al++Ai))else(none))))else(none))else((some (([(⟨1,D,(⟨#[]⟩:ByteArray),(⟨#[]⟩:ByteArray)⟩:S39),(⟨2,D,(⟨#[]⟩:ByteArray),a3⟩:S39),(⟨3,D,(⟨#[]⟩:ByteArray),(⟨#[]⟩:ByteArray)⟩:S39),(⟨4,D,a2,(⟨#[]⟩:ByteArray)⟩:S39),(⟨6,(⟨#[]⟩:ByteArray),(⟨#[]⟩:ByteArray),(⟨#[]⟩:ByteArray)⟩:S39)]:List (S39)):List (S39))).bind fun Aj=>(if Aa.length+Aj.length<2513169434916 then(some (Aa++Aj))else(none)))))
theorem impl_renewed.calls (k:Nat) (Z:Int) (A9:Int) (AR:Option Addr) (AS:Nat) (Ad:List (S130)) (AT:Option Addr) (AU:Nat) (Ae:List (S133)) (Ao:Option Addr) (Ap:Nat) (U:List (S135)) (D:ByteArray) (a2:ByteArray) (a3:ByteArray) (r:List (S39)) (w:World) (Bt:Kd.C k130 w AR Ad.length Ad) (Bu:Ad.length≤AS) (Bv:Kd.C k133 w AT Ae.length Ae) (Bw:Ae.length≤AU) (Aq:Kd.C k135 w Ao U.length U) (Ar:U.length≤Ap) (h:impl_renewed.f k Z A9 Ad Ae U D a2 a3=some r) :
 Calls Tryz.prog 76 #[.agg #[.int .i64 Z,.int .i64 A9,.slice AR Ad.length AS,.slice AT Ae.length AU,.slice Ao U.length Ap],.string D,.string a2,.string a3] w fun e w'=>∃Cg:Value,e = .returned (Cg)∧Kd.R k39 39 w' w.heap.size (fun _=>True) Cg r∧Below w.heap.size w w':=by
 have CO:=Tryz.underlying35;have CP:=Tryz.underlying39;have Bx:=aK Bt;have By:=aK Bu;clear Bt Bu;have Bz:=aK Bv;have B_:=aK Bw;clear Bv Bw;have AE:=aK Aq;have AF:=aK Ar;clear Aq Ar;have HB:=aK (Below.refl w.heap.size w);have H:=h;unfold impl_renewed.f at H;clear h
 obtain⟨Aa,At⟩:∃y_:List (S39),y_=(([]:List (S39))):=⟨_,rfl⟩;replace H:((impl_find.f k Z A9 Ad Ae U D).bind fun As=>(if As≥0 then(if Aa.length<2513169434916 then((some (Aa ++ [(⟨5,D,(⟨#[]⟩:ByteArray),(⟨#[]⟩:ByteArray)⟩:S39)]:List (S39))).bind fun Al=>((some (([(⟨1,D,(⟨#[]⟩:ByteArray),(⟨#[]⟩:ByteArray)⟩:S39),(⟨2,D,(⟨#[]⟩:ByteArray),a3⟩:S39),(⟨3,D,(⟨#[]⟩:ByteArray),(⟨#[]⟩:ByteArray)⟩:S39),(⟨4,D,a2,(⟨#[]⟩:ByteArray)⟩:S39),(⟨6,(⟨#[]⟩:ByteArray),(⟨#[]⟩:ByteArray),(⟨#[]⟩:ByteArray)⟩:S39)]:List (S39)):List (S39))).bind fun Ai=>(if Al.length+Ai.length<2513169434916 then(some (Al++Ai))else(none))))else(none))else((some (([(⟨1,D,(⟨#[]⟩:ByteArray),(⟨#[]⟩:ByteArray)⟩:S39),(⟨2,D,(⟨#[]⟩:ByteArray),a3⟩:S39),(⟨3,D,(⟨#[]⟩:ByteArray),(⟨#[]⟩:ByteArray)⟩:S39),(⟨4,D,a2,(⟨#[]⟩:ByteArray)⟩:S39),(⟨6,(⟨#[]⟩:ByteArray),(⟨#[]⟩:ByteArray),(⟨#[]⟩:ByteArray)⟩:S39)]:List (S39)):List (S39))).bind fun Aj=>(if Aa.length+Aj.length<2513169434916 then(some (Aa++Aj))else(none)))))=some r:=by first|(rw[At];with_reducible exact H)|(have AY:=(Option.bind_some _ _).symm.trans H;rw[At];with_reducible exact AY)|(have AY:=(Option.bind_some _ _).symm.trans H;with_reducible exact AY)|with_reducible exact H|(rw[At];exact H)|exact H
 have AG:=aK At;clear At;obtain⟨As,A5,H⟩:=bd H;by_cases c6:As≥0
 ·rw[if_pos c6]at H;have Ag:=dt c6;clear c6;by_cases c7:Aa.length<2513169434916
  ·rw[if_pos c7]at H;have Ch:=aK c7;clear c7;obtain⟨Al,AZ⟩:=yy (Aa ++ [(⟨5,D,(⟨#[]⟩:ByteArray),(⟨#[]⟩:ByteArray)⟩:S39)]);rw[←AZ]at H;(try rw[obs]at H)
   have BW:=aK AZ;clear AZ;obtain⟨Ai,B0⟩:=yy ([(⟨1,D,(⟨#[]⟩:ByteArray),(⟨#[]⟩:ByteArray)⟩:S39),(⟨2,D,(⟨#[]⟩:ByteArray),a3⟩:S39),(⟨3,D,(⟨#[]⟩:ByteArray),(⟨#[]⟩:ByteArray)⟩:S39),(⟨4,D,a2,(⟨#[]⟩:ByteArray)⟩:S39),(⟨6,(⟨#[]⟩:ByteArray),(⟨#[]⟩:ByteArray),(⟨#[]⟩:ByteArray)⟩:S39)]:List (S39));rw[←B0]at H;(try rw[obs]at H)
   have BA:=aK B0;clear B0;by_cases c8:Al.length+Ai.length<2513169434916
   ·rw[if_pos c8]at H;have Ci:=aK c8;clear c8;obtain⟨CQ,B1⟩:=yy (Al++Ai);rw[←B1]at H;(try rw[obs]at H)
    have BX:=aK B1;clear B1;obtain rfl:=oj H
    go_enter Tryz.func76,Tryz.ntmps76
    go_wp2_with (first|((with_reducible refine gD 4 rfl ?_);refine boxW ?_;intro AH hg Bm hbox hb;have J:=aK hbox;have BY:=gW HB hg;replace HB:=bS HB hb;clear hb hbox hg)|((with_reducible refine gD 10 rfl ?_);refine Kd.R_lit k39 _ 39 ?hg (N:=10) ?hd (xs:=([]:List (S39))) (inner:=[]) (ok:=fun _=>True) (okp:=fun _=>True) ?hr ?hp (fun _ hk=>hk) trivial (Below.refl _ _) (Nat.le_refl _) (by simp) ?_;(case hd=>rfl);(case hg=>rfl);(case hr=>first|(go_simp;done)|(go_simp;rfl));(case hp=>exact(Reps.none _ _));intro BB BV A3 hb hg_ hnew_;clear hg_ hnew_;(first|rw[←AG.o]at A3|(simp only[Int.reduceToNat]at A3;rw[←AG.o]at A3));have A1:=rl HB A3;replace J:=bv J hb;replace HB:=bS HB hb;clear hb A3;have:=cf5 J)|((with_reducible refine gC 92 rfl ?_);refine goesW Tryz.func92 ?_;(with_reducible refine(impl_find.calls k Z A9 _ _ Ad _ _ Ae _ _ U D As _ ?_ ?_ ?_ ?_ ?_ ?_ A5.o).mono ?_);exact cB Bx HB;exact By.o;exact cB Bz HB;exact B_.o;exact cB AE HB;exact AF.o;rintro e CA ⟨rfl,hb⟩;refine⟨_,rfl,?_⟩;replace A1:=rb A1 hb;replace J:=bv J hb;replace HB:=bS HB hb;(try clear hb))|((with_reducible refine gate_builtin (b:=.append) (xs:=#[.tmp 15,.tmp 18]) rfl ?_);at_builtin;refine Kd.R_append k39 (w0:=w) w.heap.size rfl (.tmp 15) (.tmp 18) 48 39 (.agg #[(.int .i64 0),(.string ⟨#[]⟩),(.string ⟨#[]⟩),(.string ⟨#[]⟩)]) 56 rfl Tryz.underlying48 info39 rfl (by decide) (by omega) BB Aa (⟨5,D,(⟨#[]⟩:ByteArray),(⟨#[]⟩:ByteArray)⟩:S39) [.int .i64 5,.string D,.string (⟨#[]⟩:ByteArray),.string (⟨#[]⟩:ByteArray)] (fun _=>True) (fun _=>False) rfl rfl ?aP (fun _ hk=>hk.elim) ?aF ?aO ?aB ?aS ?aL ?_;(case aP=>exact k39_mkM _ _ _ (⟨5,D,(⟨#[]⟩:ByteArray),(⟨#[]⟩:ByteArray)⟩:S39));(case aB=>exact bl);(case aF=>exact(fun _ _=>trivial));(case aO=>exact(rpR A1.o));(case aS=>exact(below_size bl));(case aL=>have:=Ch.o;omega);intro BZ CB ho hb hg hat;rw[←BW.o]at ho;replace J:=aK (blk_grown (g:=AH) (o:=.cells #[.int .i64 Z,.int .i64 A9,.slice AR Ad.length AS,.slice AT Ae.length AU,.slice Ao U.length Ap] 35 (0,0)) bk hg (Kd.R_ne A1.o J.o (by decide)));replace HB:=aK (hb);have Ab:=aK (ho);clear A1;clear ho hb hg hat)|((with_reducible refine gD 32 rfl ?_);refine Kd.R_lit k39 _ 39 ?hg (N:=32) ?hd (xs:=([(⟨1,D,(⟨#[]⟩:ByteArray),(⟨#[]⟩:ByteArray)⟩:S39),(⟨2,D,(⟨#[]⟩:ByteArray),a3⟩:S39),(⟨3,D,(⟨#[]⟩:ByteArray),(⟨#[]⟩:ByteArray)⟩:S39),(⟨4,D,a2,(⟨#[]⟩:ByteArray)⟩:S39),(⟨6,(⟨#[]⟩:ByteArray),(⟨#[]⟩:ByteArray),(⟨#[]⟩:ByteArray)⟩:S39)]:List (S39))) (inner:=[.int .i64 1,.string D,.string (⟨#[]⟩:ByteArray),.string (⟨#[]⟩:ByteArray),.int .i64 2,.string D,.string (⟨#[]⟩:ByteArray),.string a3,.int .i64 3,.string D,.string (⟨#[]⟩:ByteArray),.string (⟨#[]⟩:ByteArray),.int .i64 4,.string D,.string a2,.string (⟨#[]⟩:ByteArray),.int .i64 6,.string (⟨#[]⟩:ByteArray),.string (⟨#[]⟩:ByteArray),.string (⟨#[]⟩:ByteArray)]) (ok:=fun _=>True) (okp:=fun _=>True) ?hr ?hp (fun _ hk=>hk) trivial (Below.refl _ _) (Nat.le_refl _) (by simp) ?_;(case hd=>rfl);(case hg=>rfl);(case hr=>first|(go_simp;done)|(go_simp;rfl));(case hp=>exact(Reps.c4 (show Kd.M k39 _ _ _ (⟨1,D,(⟨#[]⟩:ByteArray),(⟨#[]⟩:ByteArray)⟩:S39) [.int .i64 1,.string D,.string (⟨#[]⟩:ByteArray),.string (⟨#[]⟩:ByteArray)]from(k39_mkM _ _ _ (⟨1,D,(⟨#[]⟩:ByteArray),(⟨#[]⟩:ByteArray)⟩:S39))) (Reps.c4 (show Kd.M k39 _ _ _ (⟨2,D,(⟨#[]⟩:ByteArray),a3⟩:S39) [.int .i64 2,.string D,.string (⟨#[]⟩:ByteArray),.string a3]from(k39_mkM _ _ _ (⟨2,D,(⟨#[]⟩:ByteArray),a3⟩:S39))) (Reps.c4 (show Kd.M k39 _ _ _ (⟨3,D,(⟨#[]⟩:ByteArray),(⟨#[]⟩:ByteArray)⟩:S39) [.int .i64 3,.string D,.string (⟨#[]⟩:ByteArray),.string (⟨#[]⟩:ByteArray)]from(k39_mkM _ _ _ (⟨3,D,(⟨#[]⟩:ByteArray),(⟨#[]⟩:ByteArray)⟩:S39))) (Reps.c4 (show Kd.M k39 _ _ _ (⟨4,D,a2,(⟨#[]⟩:ByteArray)⟩:S39) [.int .i64 4,.string D,.string a2,.string (⟨#[]⟩:ByteArray)]from(k39_mkM _ _ _ (⟨4,D,a2,(⟨#[]⟩:ByteArray)⟩:S39))) (Reps.c4 (show Kd.M k39 _ _ _ (⟨6,(⟨#[]⟩:ByteArray),(⟨#[]⟩:ByteArray),(⟨#[]⟩:ByteArray)⟩:S39) [.int .i64 6,.string (⟨#[]⟩:ByteArray),.string (⟨#[]⟩:ByteArray),.string (⟨#[]⟩:ByteArray)]from(k39_mkM _ _ _ (⟨6,(⟨#[]⟩:ByteArray),(⟨#[]⟩:ByteArray),(⟨#[]⟩:ByteArray)⟩:S39))) (Reps.none _ _)))))));intro CC CD Af hb hg_ hnew_;clear hg_ hnew_;(first|rw[←BA.o]at Af|(simp only[Int.reduceToNat]at Af;rw[←BA.o]at Af));have Au:=rl HB (Kd.R_new' Af (Kd.R_lt (rpR Ab.o)));replace Ab:=re Ab.o Af hb;replace J:=bv J hb;replace HB:=bS HB hb;clear hb Af;obtain⟨BC,BD,rfl⟩:=rs Au)|((with_reducible refine gate_builtin (b:=.append) (xs:=#[.tmp 20,.tmp 32]) rfl ?_);at_builtin;refine Kd.R_append_rows k39 (w0:=w) w.heap.size rfl (.tmp 20) (.tmp 32) 48 39 (.agg #[(.int .i64 0),(.string ⟨#[]⟩),(.string ⟨#[]⟩),(.string ⟨#[]⟩)]) 56 rfl Tryz.underlying48 info39 rfl (by decide) (by omega) BZ Al Ai _ _ _ (fun k_=>some k_≠(.slice BC Ai.length BD:Value).ownBlock) (fun _=>False) rfl rfl ?aO ?aR (fun _ _ h=>h) (fun _ h=>h.elim) ?aF ?aB ?aS ?aL ?_;(case aR=>exact ca (cR Au.o));(case aB=>exact bl);(case aF=>exact(fun k_ hk=>Kd.fresh' (Kd.R_lt (rpR Au.o)) k_ hk));(case aO=>exact(rpR (rM Ab.o (fun _ hk=>hk.2))));(case aS=>exact(below_size bl));(case aL=>have:=Ci.o;omega);intro CX CY ho hb hg hat;rw[←BX.o]at ho;replace J:=aK (blk_grown (g:=AH) (o:=.cells #[.int .i64 Z,.int .i64 A9,.slice AR Ad.length AS,.slice AT Ae.length AU,.slice Ao U.length Ap] 35 (0,0)) bk hg (Kd.R_ne Ab.o J.o (by decide)));replace Au:=aK (Kd.R_after (ok:=(fun _=>True)) (rpR Au.o) hg hat);replace HB:=aK (hb);have Cj:=aK (ho);clear Ab;clear ho hb hg hat))
    go_ret
    exact⟨_,fe,rpR (rM Cj.o (fun _ hk=>trivial)),bl⟩
   ·rw[if_neg c8]at H;exact absurd H (by simp)
  ·rw[if_neg c7]at H;exact absurd H (by simp)
 ·rw[if_neg c6]at H;have Ag:=df c6;clear c6;obtain⟨Aj,B2⟩:=yy ([(⟨1,D,(⟨#[]⟩:ByteArray),(⟨#[]⟩:ByteArray)⟩:S39),(⟨2,D,(⟨#[]⟩:ByteArray),a3⟩:S39),(⟨3,D,(⟨#[]⟩:ByteArray),(⟨#[]⟩:ByteArray)⟩:S39),(⟨4,D,a2,(⟨#[]⟩:ByteArray)⟩:S39),(⟨6,(⟨#[]⟩:ByteArray),(⟨#[]⟩:ByteArray),(⟨#[]⟩:ByteArray)⟩:S39)]:List (S39));rw[←B2]at H;(try rw[obs]at H)
  have BE:=aK B2;clear B2;by_cases BL:Aa.length+Aj.length<2513169434916
  ·rw[if_pos BL]at H;have C0:=aK BL;clear BL;obtain⟨CR,B3⟩:=yy (Aa++Aj);rw[←B3]at H;(try rw[obs]at H)
   have C1:=aK B3;clear B3;obtain rfl:=oj H
   go_enter Tryz.func76,Tryz.ntmps76
   go_wp2_with (first|((with_reducible refine gD 4 rfl ?_);refine boxW ?_;intro AH hg Bm hbox hb;have J:=aK hbox;have BY:=gW HB hg;replace HB:=bS HB hb;clear hb hbox hg)|((with_reducible refine gD 10 rfl ?_);refine Kd.R_lit k39 _ 39 ?hg (N:=10) ?hd (xs:=([]:List (S39))) (inner:=[]) (ok:=fun _=>True) (okp:=fun _=>True) ?hr ?hp (fun _ hk=>hk) trivial (Below.refl _ _) (Nat.le_refl _) (by simp) ?_;(case hd=>rfl);(case hg=>rfl);(case hr=>first|(go_simp;done)|(go_simp;rfl));(case hp=>exact(Reps.none _ _));intro BB BV A3 hb hg_ hnew_;clear hg_ hnew_;(first|rw[←AG.o]at A3|(simp only[Int.reduceToNat]at A3;rw[←AG.o]at A3));have A1:=rl HB A3;replace J:=bv J hb;replace HB:=bS HB hb;clear hb A3;have:=cf5 J)|((with_reducible refine gC 92 rfl ?_);refine goesW Tryz.func92 ?_;(with_reducible refine(impl_find.calls k Z A9 _ _ Ad _ _ Ae _ _ U D As _ ?_ ?_ ?_ ?_ ?_ ?_ A5.o).mono ?_);exact cB Bx HB;exact By.o;exact cB Bz HB;exact B_.o;exact cB AE HB;exact AF.o;rintro e CA ⟨rfl,hb⟩;refine⟨_,rfl,?_⟩;replace A1:=rb A1 hb;replace J:=bv J hb;replace HB:=bS HB hb;(try clear hb))|((with_reducible refine gD 32 rfl ?_);refine Kd.R_lit k39 _ 39 ?hg (N:=32) ?hd (xs:=([(⟨1,D,(⟨#[]⟩:ByteArray),(⟨#[]⟩:ByteArray)⟩:S39),(⟨2,D,(⟨#[]⟩:ByteArray),a3⟩:S39),(⟨3,D,(⟨#[]⟩:ByteArray),(⟨#[]⟩:ByteArray)⟩:S39),(⟨4,D,a2,(⟨#[]⟩:ByteArray)⟩:S39),(⟨6,(⟨#[]⟩:ByteArray),(⟨#[]⟩:ByteArray),(⟨#[]⟩:ByteArray)⟩:S39)]:List (S39))) (inner:=[.int .i64 1,.string D,.string (⟨#[]⟩:ByteArray),.string (⟨#[]⟩:ByteArray),.int .i64 2,.string D,.string (⟨#[]⟩:ByteArray),.string a3,.int .i64 3,.string D,.string (⟨#[]⟩:ByteArray),.string (⟨#[]⟩:ByteArray),.int .i64 4,.string D,.string a2,.string (⟨#[]⟩:ByteArray),.int .i64 6,.string (⟨#[]⟩:ByteArray),.string (⟨#[]⟩:ByteArray),.string (⟨#[]⟩:ByteArray)]) (ok:=fun _=>True) (okp:=fun _=>True) ?hr ?hp (fun _ hk=>hk) trivial (Below.refl _ _) (Nat.le_refl _) (by simp) ?_;(case hd=>rfl);(case hg=>rfl);(case hr=>first|(go_simp;done)|(go_simp;rfl));(case hp=>exact(Reps.c4 (show Kd.M k39 _ _ _ (⟨1,D,(⟨#[]⟩:ByteArray),(⟨#[]⟩:ByteArray)⟩:S39) [.int .i64 1,.string D,.string (⟨#[]⟩:ByteArray),.string (⟨#[]⟩:ByteArray)]from(k39_mkM _ _ _ (⟨1,D,(⟨#[]⟩:ByteArray),(⟨#[]⟩:ByteArray)⟩:S39))) (Reps.c4 (show Kd.M k39 _ _ _ (⟨2,D,(⟨#[]⟩:ByteArray),a3⟩:S39) [.int .i64 2,.string D,.string (⟨#[]⟩:ByteArray),.string a3]from(k39_mkM _ _ _ (⟨2,D,(⟨#[]⟩:ByteArray),a3⟩:S39))) (Reps.c4 (show Kd.M k39 _ _ _ (⟨3,D,(⟨#[]⟩:ByteArray),(⟨#[]⟩:ByteArray)⟩:S39) [.int .i64 3,.string D,.string (⟨#[]⟩:ByteArray),.string (⟨#[]⟩:ByteArray)]from(k39_mkM _ _ _ (⟨3,D,(⟨#[]⟩:ByteArray),(⟨#[]⟩:ByteArray)⟩:S39))) (Reps.c4 (show Kd.M k39 _ _ _ (⟨4,D,a2,(⟨#[]⟩:ByteArray)⟩:S39) [.int .i64 4,.string D,.string a2,.string (⟨#[]⟩:ByteArray)]from(k39_mkM _ _ _ (⟨4,D,a2,(⟨#[]⟩:ByteArray)⟩:S39))) (Reps.c4 (show Kd.M k39 _ _ _ (⟨6,(⟨#[]⟩:ByteArray),(⟨#[]⟩:ByteArray),(⟨#[]⟩:ByteArray)⟩:S39) [.int .i64 6,.string (⟨#[]⟩:ByteArray),.string (⟨#[]⟩:ByteArray),.string (⟨#[]⟩:ByteArray)]from(k39_mkM _ _ _ (⟨6,(⟨#[]⟩:ByteArray),(⟨#[]⟩:ByteArray),(⟨#[]⟩:ByteArray)⟩:S39))) (Reps.none _ _)))))));intro BZ CB Af hb hg_ hnew_;clear hg_ hnew_;(first|rw[←BE.o]at Af|(simp only[Int.reduceToNat]at Af;rw[←BE.o]at Af));have Ab:=rl HB (Kd.R_new' Af (Kd.R_lt (rpR A1.o)));replace A1:=re A1.o Af hb;replace J:=bv J hb;replace HB:=bS HB hb;clear hb Af;obtain⟨BC,BD,rfl⟩:=rs Ab)|((with_reducible refine gate_builtin (b:=.append) (xs:=#[.tmp 20,.tmp 32]) rfl ?_);at_builtin;refine Kd.R_append_rows k39 (w0:=w) w.heap.size rfl (.tmp 20) (.tmp 32) 48 39 (.agg #[(.int .i64 0),(.string ⟨#[]⟩),(.string ⟨#[]⟩),(.string ⟨#[]⟩)]) 56 rfl Tryz.underlying48 info39 rfl (by decide) (by omega) BB Aa Aj _ _ _ (fun k_=>some k_≠(.slice BC Aj.length BD:Value).ownBlock) (fun _=>False) rfl rfl ?aO ?aR (fun _ _ h=>h) (fun _ h=>h.elim) ?aF ?aB ?aS ?aL ?_;(case aR=>exact ca (cR Ab.o));(case aB=>exact bl);(case aF=>exact(fun k_ hk=>Kd.fresh' (Kd.R_lt (rpR Ab.o)) k_ hk));(case aO=>exact(rpR (rM A1.o (fun _ hk=>hk.2))));(case aS=>exact(below_size bl));(case aL=>have:=C0.o;omega);intro CC CD ho hb hg hat;rw[←C1.o]at ho;replace J:=aK (blk_grown (g:=AH) (o:=.cells #[.int .i64 Z,.int .i64 A9,.slice AR Ad.length AS,.slice AT Ae.length AU,.slice Ao U.length Ap] 35 (0,0)) bk hg (Kd.R_ne A1.o J.o (by decide)));replace Ab:=aK (Kd.R_after (ok:=(fun _=>True)) (rpR Ab.o) hg hat);replace HB:=aK (hb);have Au:=aK (ho);clear A1;clear ho hb hg hat))
   go_ret
   exact⟨_,fe,rpR (rM Au.o (fun _ hk=>trivial)),bl⟩
  ·rw[if_neg BL]at H;exact absurd H (by simp)
mutual
def impl_Fixed.j0:Nat→Int→Int→Bool→Option (ByteArray)
 | 0,_,_,_=>none
 |k+1,x0,x1,CE=>if CE=true then(some (⟨#[]⟩:ByteArray))else(impl_Fixed.l0 k x0 (([]:List Int)) (wrap64 (x1-1)))
def impl_Fixed.l0:Nat→Int→List Int→Int→Option (ByteArray)
 | 0,_,_,_=>none
 |k+1,x0,x5,x6=>if x6≥0 then(if 0≤(wrap64 (8*x6))then(if x5.length<140737488355328 then(impl_Fixed.l0 k x0 (x5 ++ [(shr .i64 x0 (wrap64 (8*x6)))%256]) (wrap64 (x6-1)))else(none))else(none))else(some (strOfNums x5))
end
def impl_Fixed.f (k:Nat) (X:Int) (D:Int):Option (ByteArray):=(impl_from.f D 1 7).bind fun BF=>(if BF=true then(if X<0 then(impl_Fixed.j0 k X D true)else(if 0≤(wrap64 (8*D))then(impl_Fixed.j0 k X D ((shr .i64 X (wrap64 (8*D))) != 0))else(none)))else(impl_Fixed.j0 k X D true))
theorem impl_Fixed.z1 {p:Prop} (h:p:=by
 go_wp2_with (first|((with_reducible refine gC 119 rfl ?_);refine goesW Tryz.func119 ?_;(with_reducible refine(impl_from.calls D 1 7 _ _ A4.o).mono ?_);rintro e w' ⟨rfl,⟨nd,rfl⟩⟩;refine⟨_,rfl,?_⟩))
 go_meet
 case rel=>exact⟨_,(true),fa,H',⟨by first|omega|exact Nat.le_refl _⟩,⟨bl⟩⟩):p:=h
theorem impl_Fixed.calls (k:Nat) (X:Int) (D:Int) (r:ByteArray) (w:World) (h:impl_Fixed.f k X D=some r) :
 Calls Tryz.prog 145 #[.int .i64 X,.int .i64 D] w fun e w'=>e = .returned (.string r)∧Below w.heap.size w w':=by
 have HB:=aK (Below.refl w.heap.size w);have H:=h;unfold impl_Fixed.f at H;clear h;have C2:=aK H;clear H
 go_enter Tryz.func145,Tryz.ntmps145
 go_upto_region 1 with(fail)
 go_cut [20] (fun CF wc=>∃(kq:Nat) (AI:Bool),CF = .bool AI∧Aside0 (impl_Fixed.j0 kq X D AI=some r)∧Aside0 (kq≤k)∧Aside0 (Below w.heap.size w wc))
 case first=>
  have H:=C2.o;clear C2;obtain⟨BF,A4,H⟩:=bd H;by_cases c5:BF=true
  ·subst c5;replace H:=iT H;by_cases c6:X<0
   ·rw[if_pos c6]at H;have Ag:=dt c6;clear c6;(first|rw[Ag]|(simp only[i64_w,i32_w];rw[Ag])|skip);have H':=aK H;clear H;exact impl_Fixed.z1
   ·rw[if_neg c6]at H;have Ag:=df c6;clear c6;(first|rw[Ag]|(simp only[i64_w,i32_w];rw[Ag])|skip);obtain⟨Bb,B7⟩:∃j_:Int,(wrap64 (8*D))=j_:=⟨_,rfl⟩;(first|rw[B7]at H|simp only[B7]at H)
    (try rw[B7]at A4);have CG:(IntKind.i64.wrap (8*D))=Bb:=(i64_w _).trans B7;by_cases c8:0≤(Bb)
    ·rw[if_pos c8]at H;have AQ:=eq_true c8;have BG:=dt c8;clear c8;obtain⟨C3,A_⟩:∃j_:Int,(shr .i64 X (Bb))=j_:=⟨_,rfl⟩;(first|rw[A_]at H|simp only[A_]at H)
     (try rw[A_]at A4);have CH:(X/2 ^ min (Bb).toNat 64)=C3:=A_;have CI:(Bb)≤64→(X/2 ^ (Bb).toNat)=C3:=shr_small A_;have H':=aK H;clear H;go_wp2_with (first|((with_reducible refine gC 119 rfl ?_);refine goesW Tryz.func119 ?_;(with_reducible refine(impl_from.calls D 1 7 _ _ A4.o).mono ?_);rintro e w' ⟨rfl,⟨nd,rfl⟩⟩;refine⟨_,rfl,?_⟩))
     go_meet
     case rel=>exact⟨_,(((C3) != 0)),(by first|rfl|(simp;done)|(simp only[←A_]<;>(first|rfl|simp))|(simp[*];done)),H',⟨by first|omega|exact Nat.le_refl _⟩,⟨bl⟩⟩
    ·rw[if_neg c8]at H;exact absurd H (by simp)
  ·replace c5:=bF c5;subst c5;replace H:=iF H;have H':=aK H;clear H;exact impl_Fixed.z1
 case rest=>
  clear C2;(try clear c1);(try clear p2);(try clear c5);(try clear c6);(try clear Ag);(try clear p6);(try clear c8);(try clear AQ);(try clear BG);obtain⟨kq,AI,rfl,HA,Ck,HB⟩:=hcut;cases kq with
  |zero=>exact absurd HA.o (by simp[impl_Fixed.j0])
  |succ C4=>
   have H:=HA.o;clear HA;simp only[impl_Fixed.j0]at H;by_cases c10:AI=true
   ·subst c10;replace H:=iT H;obtain rfl:=oj H;go_wp2
    go_ret
    exact⟨fe,bl⟩
   ·replace c10:=bF c10;subst c10;replace H:=iF H;obtain⟨BR,Av⟩:∃y_:List Int,y_=(([]:List Int)):=⟨_,rfl⟩;replace H:(impl_Fixed.l0 C4 X BR (wrap64 (D-1)))=some r:=by first|(rw[Av];with_reducible exact H)|(have AY:=(Option.bind_some _ _).symm.trans H;rw[Av];with_reducible exact AY)|(have AY:=(Option.bind_some _ _).symm.trans H;with_reducible exact AY)|with_reducible exact H|(rw[Av];exact H)|exact H
    have BH:=aK Av;clear Av;have H':=aK H;clear H;go_wp2_with (first|((with_reducible refine gD 21 rfl ?_);refine Kd.R_lit (Kd.int .u8) _ 5 ?hg (N:=21) ?hd (xs:=([]:List Int)) (inner:=[]) (ok:=fun _=>True) (okp:=fun _=>True) ?hr ?hp (fun _ hk=>hk) trivial (Below.refl _ _) (Nat.le_refl _) (by simp) ?_;(case hd=>rfl);(case hg=>rfl);(case hr=>first|(go_simp;done)|(go_simp;rfl));(case hp=>exact(Reps.none _ _));intro BZ Bm A3 hb hg_ hnew_;clear hg_ hnew_;(first|rw[←BH.o]at A3|(simp only[Int.reduceToNat]at A3;rw[←BH.o]at A3));have Ab:=rl HB A3;replace HB:=bS HB hb;clear hb A3))
    go_loopg [5,6] C4 (fun kq v5 v6 w'=>∃(AA:List Int) (Aw:Int),v6 = .int .i64 Aw∧Aside0 (impl_Fixed.l0 kq X AA Aw=some r)∧Aside0 (kq≤C4)∧Aside0 (Kd.R (Kd.int .u8) 5 w' w.heap.size (fun _=>True) v5 AA)∧Aside0 (Below w.heap.size w w'))
    case atStart=>exact⟨(BR),(wrap64 (D-1)),fa,H',⟨Nat.le_refl _⟩,⟨rpR Ab.o⟩,⟨bl⟩⟩
    case round=>
     clear H';(try clear c1);(try clear p2);(try clear c5);(try clear c6);(try clear Ag);(try clear p6);(try clear c8);(try clear AQ);(try clear BG);(try clear c10);(try clear Ay);(try clear p2);(try clear p6);obtain⟨AA,Aw,rfl,HA,AJ,BI,HB⟩:=hrel;cases gk with
     |zero=>exact absurd HA.o (by simp[impl_Fixed.l0])
     |succ k2=>
      have H:=HA.o;clear HA;simp only[impl_Fixed.l0]at H;by_cases Bc:Aw≥0
      ·rw[if_pos Bc]at H;have C5:=dt Bc;clear Bc;obtain⟨AB,B4⟩:∃j_:Int,(wrap64 (8*Aw))=j_:=⟨_,rfl⟩;(first|rw[B4]at H|simp only[B4]at H)
       have Cp:(IntKind.i64.wrap (8*Aw))=AB:=(i64_w _).trans B4;by_cases BJ:0≤(AB)
       ·rw[if_pos BJ]at H;have CJ:=eq_true BJ;have CK:=dt BJ;clear BJ;obtain⟨AV,AK⟩:∃j_:Int,(shr .i64 X (AB))=j_:=⟨_,rfl⟩;(first|rw[AK]at H|simp only[AK]at H)
        have Cq:(X/2 ^ min (AB).toNat 64)=AV:=AK;have Cr:(AB)≤64→(X/2 ^ (AB).toNat)=AV:=shr_small AK;by_cases BM:AA.length<140737488355328
        ·rw[if_pos BM]at H;have C6:=aK BM;clear BM;obtain⟨Cl,B5⟩:=yy (AA ++ [(AV)%256]);rw[←B5]at H;(try rw[obs]at H)
         have C7:=aK B5;clear B5;have H':=aK H;clear H;go_wp2_with (first|((with_reducible refine gate_builtin (b:=.append) (xs:=#[.tmp 28,.tmp 34]) rfl ?_);at_builtin;refine Kd.R_append (Kd.int .u8) (w0:=w) w.heap.size rfl (.tmp 28) (.tmp 34) 169 5 (.int .u8 0) 1 rfl Tryz.underlying169 info5 rfl (by decide) (by omega) u5 AA ((AV)%256) [.int .u8 ((AV)%256)] (fun _=>True) (fun _=>False) rfl rfl ?aP (fun _ hk=>hk.elim) ?aF ?aO ?aB ?aS ?aL ?_;(case aP=>exact rfl);(case aB=>exact bl);(case aF=>exact(fun _ _=>trivial));(case aO=>exact(rpR BI.o));(case aS=>exact(below_size bl));(case aL=>have:=C6.o;omega);intro CZ D0 ho hb hg hat;rw[←C7.o]at ho;replace HB:=aK (hb);have Cm:=aK (ho);clear BI;clear ho hb hg hat))
         go_roundg k2
         case measure=>have:=Ck.o;have:=AJ.o;omega
         case rel=>exact⟨(Cl),(wrap64 (Aw-1)),fa,H',⟨by have:=Ck.o;have:=AJ.o;omega⟩,⟨rpR Cm.o⟩,⟨bl⟩⟩
        ·rw[if_neg BM]at H;exact absurd H (by simp)
       ·rw[if_neg BJ]at H;exact absurd H (by simp)
      ·rw[if_neg Bc]at H;have C5:=df Bc;clear Bc;obtain rfl:=oj H;have CL:=own_string (P:=Tryz.prog) Tryz.underlying169 Tryz.underlying5 Tryz.underlying9 (Kd.own_of_R BI.o);go_wp2
       go_ret
       exact⟨fe,bl⟩
mutual
def impl_Crc.l0:Nat→ByteArray→Int→Int→Int→Option (Int)
 | 0,_,_,_,_=>none
 |k+1,x0,x3,x7,x8=>if x8<x7 then(if 0≤x8 then(if x8<(x0.size:Int)then(impl_Crc.l1 k x0 (Go.bits .xor .u32 x3 ((bt x0 x8)%4294967296)) x7 x8 0)else(none))else(none))else(some (wrap64 (Go.bits .xor .u32 4294967295 x3)))
def impl_Crc.l1:Nat→ByteArray→Int→Int→Int→Int→Option (Int)
 | 0,_,_,_,_,_=>none
 |k+1,x0,x3,x7,x8,C8=>if C8<8 then(if(Go.bits .and .u32 x3 1)=1 then(impl_Crc.l1 k x0 (Go.bits .xor .u32 (x3/2) 2197175160) x7 x8 (wrap64 (C8+1)))else(impl_Crc.l1 k x0 (x3/2) x7 x8 (wrap64 (C8+1))))else(impl_Crc.l0 k x0 x3 x7 (wrap64 (x8+1)))
end
def impl_Crc.f (k:Nat) (X:ByteArray):Option (Int):=impl_Crc.l0 k X 4294967295 (X.size:Int) 0
theorem impl_Crc.calls (k:Nat) (X:ByteArray) (r:Int) (w:World) (h:impl_Crc.f k X=some r) :
 Calls Tryz.prog 146 #[.string X] w fun e w'=>e = .returned (.int .i64 r)∧Drawn0 w w':=by
 have H:=h;unfold impl_Crc.f at H;clear h;have H':=aK H;clear H
 go_enter Tryz.func146,Tryz.ntmps146
 go_wp2
 go_loopg [3,8] k (fun kq v3 v8 w'=>∃(B8:Int) (Ah:Int),v3 = .int .u32 B8∧v8 = .int .i64 Ah∧Aside0 (impl_Crc.l0 kq X B8 (X.size:Int) Ah=some r)∧Aside0 (kq≤k)∧Drawn0 w w')
 case atStart=>exact⟨(4294967295),(0),fa,fa,H',⟨Nat.le_refl _⟩,fd⟩
 case round=>
  clear H';(try clear c1);obtain⟨B8,Ah,rfl,rfl,HA,AC,⟨m1,rfl⟩⟩:=hrel;cases gk with
  |zero=>exact absurd HA.o (by simp[impl_Crc.l0])
  |succ k1=>
   have H:=HA.o;clear HA;simp only[impl_Crc.l0]at H;by_cases c2:Ah<(X.size:Int)
   ·rw[if_pos c2]at H;have BS:=dt c2;clear c2;by_cases c3:0≤Ah
    ·rw[if_pos c3]at H;have Bk:=dt c3;clear c3;by_cases c4:Ah<(X.size:Int)
     ·rw[if_pos c4]at H;have AL:=dt c4;clear c4;have H':=aK H;clear H;have BN:0≤(Ah:Int):=dT am;have BO:Ah<(X.size:Int):=dT am;have Cn:=bt_at X Ah;replace BN:=eq_true BN;replace BO:=eq_true BO;go_wp2
      go_loopg [3,17] k1 (fun kq v3 CM w'=>∃(Ax:Int) (An:Int),v3 = .int .u32 Ax∧CM = .int .i64 An∧Aside0 (impl_Crc.l1 kq X Ax (X.size:Int) Ah An=some r)∧Aside0 (kq≤k1)∧Drawn0 w w')
      case atStart=>exact⟨(Go.bits .xor .u32 B8 ((bt X Ah)%4294967296)),(0),fa,fa,H',⟨Nat.le_refl _⟩,fd⟩
      case round=>
       clear H';(try clear c1);(try clear c2);(try clear BS);(try clear p2);(try clear c3);(try clear Bk);(try clear c4);(try clear AL);(try clear BN);(try clear BO);(try clear Cn);(try clear BN);(try clear BO);obtain⟨Ax,An,rfl,rfl,HA,AJ,⟨m2,rfl⟩⟩:=hrel;cases gk with
       |zero=>exact absurd HA.o (by simp[impl_Crc.l1])
       |succ k2=>
        have H:=HA.o;clear HA;simp only[impl_Crc.l1]at H;by_cases c6:An<8
        ·rw[if_pos c6]at H;have Ag:=dt c6;clear c6;by_cases c7:(Go.bits .and .u32 Ax 1)=1
         ·rw[if_pos c7]at H;have AP:=bT c7;have Co:=bE c7;clear c7;have H':=aK H;clear H;go_wp2
          go_roundg k2
          case measure=>have:=AC.o;have:=AJ.o;omega
          case rel=>exact⟨(Go.bits .xor .u32 (Ax/2) 2197175160),(wrap64 (An+1)),fa,fa,H',⟨by have:=AC.o;have:=AJ.o;omega⟩,fd⟩
         ·rw[if_neg c7]at H;have AP:=bN c7;have Co:=bQ c7;have H':=aK H;clear H;go_wp2
          go_roundg k2
          case measure=>have:=AC.o;have:=AJ.o;omega
          case rel=>exact⟨(Ax/2),(wrap64 (An+1)),fa,fa,H',⟨by have:=AC.o;have:=AJ.o;omega⟩,fd⟩
        ·rw[if_neg c6]at H;have Ag:=df c6;clear c6;have H':=aK H;clear H;go_wp2
         go_roundg k2
         case measure=>have:=AC.o;have:=AJ.o;omega
         case rel=>exact⟨(Ax),(wrap64 (Ah+1)),fa,fa,H',⟨by have:=AC.o;have:=AJ.o;omega⟩,fd⟩
     ·rw[if_neg c4]at H;exact absurd H (by simp)
    ·rw[if_neg c3]at H;exact absurd H (by simp)
   ·rw[if_neg c2]at H;have BS:=df c2;clear c2;obtain rfl:=oj H;go_wp2
    go_ret
    exact⟨fa,fd⟩
def impl_Frame.f (k:Nat) (X:ByteArray):Option (ByteArray):=(impl_from.f (X.size:Int) 1 2000).bind fun BK=>(if BK=true then((impl_Fixed.f k (X.size:Int) 4).bind fun Ac=>(if Ac.size+X.size≤9223372036854775807 then((impl_Crc.f k (Ac++X)).bind fun B9=>((impl_Fixed.f k B9 4).bind fun Am=>(if Ac.size+Am.size≤9223372036854775807 then(if(Ac.size+Am.size)+X.size≤9223372036854775807 then(some ((Ac++Am)++X))else(none))else(none))))else(none)))else(some (⟨#[]⟩:ByteArray)))
theorem impl_Frame.calls (k:Nat) (X:ByteArray) (r:ByteArray) (w:World) (h:impl_Frame.f k X=some r) :
 Calls Tryz.prog 144 #[.string X] w fun e w'=>e = .returned (.string r)∧Below w.heap.size w w':=by
 have HB:=aK (Below.refl w.heap.size w);have H:=h;unfold impl_Frame.f at H;clear h;obtain⟨BK,A2,H⟩:=bd H;by_cases c3:BK=true
 ·subst c3;replace H:=iT H;obtain⟨Ac,A4,H⟩:=bd H;by_cases c5:Ac.size+X.size≤9223372036854775807
  ·rw[if_pos c5]at H;have Ce:=eq_true c5;have CS:=dt c5;(try have CT:(9223372036854775807<Ac.size+X.size)=False:=eq_false (Nat.not_lt.2 c5));obtain⟨B9,A6,H⟩:=bd H;obtain⟨Am,A7,H⟩:=bd H;by_cases c8:Ac.size+Am.size≤9223372036854775807
   ·rw[if_pos c8]at H;have AQ:=eq_true c8;have BG:=dt c8;(try have CU:(9223372036854775807<Ac.size+Am.size)=False:=eq_false (Nat.not_lt.2 c8));by_cases c9:(Ac.size+Am.size)+X.size≤9223372036854775807
    ·rw[if_pos c9]at H;have BP:=eq_true c9;have BQ:=dt c9;(try have CV:(9223372036854775807<(Ac.size+Am.size)+X.size)=False:=eq_false (Nat.not_lt.2 c9));obtain rfl:=oj H
     go_enter Tryz.func144,Tryz.ntmps144
     go_wp2_with (first|((with_reducible refine gC 119 rfl ?_);refine goesW Tryz.func119 ?_;(with_reducible refine(impl_from.calls (X.size:Int) 1 2000 _ _ A2.o).mono ?_);rintro e w' ⟨rfl,⟨nd,rfl⟩⟩;refine⟨_,rfl,?_⟩)|((with_reducible refine gC 145 rfl ?_);refine goesW Tryz.func145 ?_;(with_reducible refine(impl_Fixed.calls k (X.size:Int) 4 Ac _ A4.o).mono ?_);rintro e Bm ⟨rfl,hb⟩;refine⟨_,rfl,?_⟩;replace HB:=bS HB hb;(try clear hb))|((with_reducible refine gC 146 rfl ?_);refine goesW Tryz.func146 ?_;(with_reducible refine(impl_Crc.calls k (Ac++X) B9 _ A6.o).mono ?_);rintro e w' ⟨rfl,⟨nd,rfl⟩⟩;refine⟨_,rfl,?_⟩)|((with_reducible refine gC 145 rfl ?_);refine goesW Tryz.func145 ?_;(with_reducible refine(impl_Fixed.calls k B9 4 Am _ A7.o).mono ?_);rintro e BV ⟨rfl,hb⟩;refine⟨_,rfl,?_⟩;replace HB:=bS HB hb;(try clear hb)))
     go_ret
     exact⟨fe,bl⟩
    ·rw[if_neg c9]at H;exact absurd H (by simp)
   ·rw[if_neg c8]at H;exact absurd H (by simp)
  ·rw[if_neg c5]at H;exact absurd H (by simp)
 ·replace c3:=bF c3;subst c3;replace H:=iF H;obtain rfl:=oj H
  go_enter Tryz.func144,Tryz.ntmps144
  go_wp2_with (first|((with_reducible refine gC 119 rfl ?_);refine goesW Tryz.func119 ?_;(with_reducible refine(impl_from.calls (X.size:Int) 1 2000 _ _ A2.o).mono ?_);rintro e w' ⟨rfl,⟨nd,rfl⟩⟩;refine⟨_,rfl,?_⟩))
  go_ret
  exact⟨fe,bl⟩
def impl_RecOk.f (D:Int) (J:Int) (U:Int) (Y:Int) (Z:ByteArray):Option (Bool):=if D=1 then((impl_from.f J 0 100000).bind fun Ah=>(if Ah=true then((impl_isVote.f Y).bind fun Ai=>(if Ai=true then(if U=0 then(some (Z.toList==([]:List UInt8)))else(some false))else(some false)))else(some false)))else(if D=2 then((impl_isTerm.f J).bind fun Aj=>(if Aj=true then((impl_from.f U 1 100000).bind fun Ak=>(if Ak=true then(if(Z.size:Int)≤900 then(some (Y==0))else(some false))else(some false)))else(some false)))else(if D=3 then((impl_from.f U 1 100000).bind fun Al=>(if Al=true then(if J=0 then(if Y=0 then(some (Z.toList==([]:List UInt8)))else(some false))else(some false))else(some false)))else(if D=4 then((impl_isPlace.f U J).bind fun Am=>(if Am=true then(if Y=0 then(some (Z.toList==([]:List UInt8)))else(some false))else(some false)))else(some false))))
theorem impl_RecOk.z1 {p:Prop} (h:p:=by
 go_enter Tryz.func181,Tryz.ntmps181
 go_wp2_with (first|((with_reducible refine gD 1 rfl ?_);(try (refine gate_guard rfl ?_;dsimp only));refine boxW ?_;intro Av hg AN hbox hb;have A6:=aK hbox;have Aw:=gW HB hg;replace HB:=bS HB hb;clear hb hbox hg;have:=cf5 A6)|((with_reducible refine gC 119 rfl ?_);refine goesW Tryz.func119 ?_;(with_reducible refine(impl_from.calls J 0 100000 _ _ A3.o).mono ?_);rintro e w' ⟨rfl,⟨nd,rfl⟩⟩;refine⟨_,rfl,?_⟩)|(go_at_call 135;(with_reducible refine(impl_isVote.calls Y _ _ A5.o).mono ?_);rintro e w' ⟨rfl,⟨nd,rfl⟩⟩)|((with_reducible refine gC 143 rfl ?_);refine goesW Tryz.func143 ?_;(with_reducible refine(impl_isTerm.calls J _ _ AY.o).mono ?_);rintro e w' ⟨rfl,⟨nd,rfl⟩⟩;refine⟨_,rfl,?_⟩)|(go_at_call 119;(with_reducible refine(impl_from.calls U 1 100000 _ _ AZ.o).mono ?_);rintro e w' ⟨rfl,⟨nd,rfl⟩⟩)|((with_reducible refine gC 136 rfl ?_);refine goesW Tryz.func136 ?_;(with_reducible refine(impl_isPlace.calls U J _ _ B0.o).mono ?_);rintro e w' ⟨rfl,⟨nd,rfl⟩⟩;refine⟨_,rfl,?_⟩))
 go_ret
 exact⟨fe,bl⟩):p:=h
theorem impl_RecOk.z2 {p:Prop} (h:p:=by
 go_enter Tryz.func181,Tryz.ntmps181
 go_wp2_with (first|((with_reducible refine gD 1 rfl ?_);(try (refine gate_guard rfl ?_;dsimp only));refine boxW ?_;intro Av hg AN hbox hb;have A6:=aK hbox;have Aw:=gW HB hg;replace HB:=bS HB hb;clear hb hbox hg;have:=cf5 A6)|((with_reducible refine gC 119 rfl ?_);refine goesW Tryz.func119 ?_;(with_reducible refine(impl_from.calls U 1 100000 _ _ B1.o).mono ?_);rintro e w' ⟨rfl,⟨nd,rfl⟩⟩;refine⟨_,rfl,?_⟩))
 go_ret
 exact⟨fe,bl⟩):p:=h
theorem impl_RecOk.calls (D:Int) (J:Int) (U:Int) (Y:Int) (Z:ByteArray) (r:Bool) (w:World) (h:impl_RecOk.f D J U Y Z=some r) :
 Calls Tryz.prog 181 #[.agg #[.int .i64 D,.int .i64 J,.int .i64 U,.int .i64 Y,.string Z]] w fun e w'=>e = .returned (.bool r)∧Below w.heap.size w w':=by
 have B2:=Tryz.underlying161;have HB:=aK (Below.refl w.heap.size w);have H:=h;unfold impl_RecOk.f at H;clear h;by_cases c2:D=1
 ·rw[if_pos c2]at H;have AO:=bT c2;have AP:=bE c2;clear c2;obtain⟨Ah,A3,H⟩:=bd H;by_cases c4:Ah=true
  ·subst c4;replace H:=iT H;obtain⟨Ai,A5,H⟩:=bd H;by_cases c6:Ai=true
   ·subst c6;replace H:=iT H;by_cases c7:U=0
    ·rw[if_pos c7]at H;have AQ:=bT c7;have AR:=bE c7;clear c7;obtain rfl:=oj H
     exact impl_RecOk.z1
    ·rw[if_neg c7]at H;have AQ:=bN c7;have AR:=bQ c7;obtain rfl:=oj H
     exact impl_RecOk.z1
   ·replace c6:=bF c6;subst c6;replace H:=iF H;obtain rfl:=oj H
    exact impl_RecOk.z1
  ·replace c4:=bF c4;subst c4;replace H:=iF H;obtain rfl:=oj H
   exact impl_RecOk.z1
 ·rw[if_neg c2]at H;have AO:=bN c2;have AP:=bQ c2;by_cases A7:D=2
  ·rw[if_pos A7]at H;have Ax:=bT A7;have Ay:=bE A7;clear A7;obtain⟨Aj,AY,H⟩:=bd H;by_cases Aq:Aj=true
   ·subst Aq;replace H:=iT H;obtain⟨Ak,AZ,H⟩:=bd H;by_cases Ar:Ak=true
    ·subst Ar;replace H:=iT H;by_cases Ag:(Z.size:Int)≤900
     ·rw[if_pos Ag]at H;have Az:=dt Ag;have A_:decide (Z.size≤900)=true:=dt (by omega);clear Ag;obtain rfl:=oj H
      exact impl_RecOk.z1
     ·rw[if_neg Ag]at H;have Az:=df Ag;have A_:decide (Z.size≤900)=false:=df (by omega);clear Ag;obtain rfl:=oj H
      exact impl_RecOk.z1
    ·replace Ar:=bF Ar;subst Ar;replace H:=iF H;obtain rfl:=oj H
     exact impl_RecOk.z1
   ·replace Aq:=bF Aq;subst Aq;replace H:=iF H;obtain rfl:=oj H
    exact impl_RecOk.z1
  ·rw[if_neg A7]at H;have Ax:=bN A7;have Ay:=bQ A7;by_cases A8:D=3
   ·rw[if_pos A8]at H;have AA:=bT A8;have AB:=bE A8;clear A8;obtain⟨Al,B1,H⟩:=bd H;by_cases As:Al=true
    ·subst As;replace H:=iT H;by_cases A9:J=0
     ·rw[if_pos A9]at H;have AC:=bT A9;have AD:=bE A9;clear A9;by_cases Aa:Y=0
      ·rw[if_pos Aa]at H;have AE:=bT Aa;have AF:=bE Aa;clear Aa;obtain rfl:=oj H
       exact impl_RecOk.z2
      ·rw[if_neg Aa]at H;have AE:=bN Aa;have AF:=bQ Aa;obtain rfl:=oj H
       exact impl_RecOk.z2
     ·rw[if_neg A9]at H;have AC:=bN A9;have AD:=bQ A9;obtain rfl:=oj H
      exact impl_RecOk.z2
    ·replace As:=bF As;subst As;replace H:=iF H;obtain rfl:=oj H
     exact impl_RecOk.z2
   ·rw[if_neg A8]at H;have AA:=bN A8;have AB:=bQ A8;by_cases Ab:D=4
    ·rw[if_pos Ab]at H;have AG:=bT Ab;have AH:=bE Ab;clear Ab;obtain⟨Am,B0,H⟩:=bd H;by_cases At:Am=true
     ·subst At;replace H:=iT H;by_cases Ac:Y=0
      ·rw[if_pos Ac]at H;have AI:=bT Ac;have AJ:=bE Ac;clear Ac;obtain rfl:=oj H
       exact impl_RecOk.z1
      ·rw[if_neg Ac]at H;have AI:=bN Ac;have AJ:=bQ Ac;obtain rfl:=oj H
       exact impl_RecOk.z1
     ·replace At:=bF At;subst At;replace H:=iF H;obtain rfl:=oj H
      exact impl_RecOk.z1
    ·rw[if_neg Ab]at H;have AG:=bN Ab;have AH:=bQ Ab;obtain rfl:=oj H
     exact impl_RecOk.z1
def impl_Var.l0:Nat→Int→List Int→Option (ByteArray)
 | 0,_,_=>none
 |k+1,x0,x3=>if x0>127 then(if x3.length<140737488355328 then(impl_Var.l0 k (wrap64 (Int.tdiv x0 128)) (x3 ++ [(wrap64 ((Int.tmod x0 128)+128))%256]))else(none))else(if x3.length<140737488355328 then(some (strOfNums (x3 ++ [(x0)%256])))else(none))
def impl_Var.f (k:Nat) (a0:Int):Option (ByteArray):=(impl_from.f a0 0 562949953421311).bind fun An=>(if An=true then(impl_Var.l0 k a0 (([]:List Int)))else(some (⟨#[]⟩:ByteArray)))
theorem impl_Var.calls (k:Nat) (a0:Int) (r:ByteArray) (w:World) (h:impl_Var.f k a0=some r) :
 Calls Tryz.prog 191 #[.int .i64 a0] w fun e w'=>e = .returned (.string r)∧Below w.heap.size w w':=by
 have HB:=aK (Below.refl w.heap.size w);have H:=h;unfold impl_Var.f at H;clear h;obtain⟨An,A2,H⟩:=bd H;by_cases c3:An=true
 ·subst c3;replace H:=iT H;obtain⟨Au,A1⟩:∃y_:List Int,y_=(([]:List Int)):=⟨_,rfl⟩;replace H:(impl_Var.l0 k a0 Au)=some r:=by first|(rw[A1];with_reducible exact H)|(have AK:=(Option.bind_some _ _).symm.trans H;rw[A1];with_reducible exact AK)|(have AK:=(Option.bind_some _ _).symm.trans H;with_reducible exact AK)|with_reducible exact H|(rw[A1];exact H)|exact H
  have Ao:=aK A1;clear A1;have H':=aK H;clear H
  go_enter Tryz.func191,Tryz.ntmps191
  go_wp2_with (first|((with_reducible refine gC 119 rfl ?_);refine goesW Tryz.func119 ?_;(with_reducible refine(impl_from.calls a0 0 562949953421311 _ _ A2.o).mono ?_);rintro e w' ⟨rfl,⟨nd,rfl⟩⟩;refine⟨_,rfl,?_⟩)|((with_reducible refine gD 7 rfl ?_);refine Kd.R_lit (Kd.int .u8) _ 5 ?hg (N:=7) ?hd (xs:=([]:List Int)) (inner:=[]) (ok:=fun _=>True) (okp:=fun _=>True) ?hr ?hp (fun _ hk=>hk) trivial (Below.refl _ _) (Nat.le_refl _) (by simp) ?_;(case hd=>rfl);(case hg=>rfl);(case hr=>first|(go_simp;done)|(go_simp;rfl));(case hp=>exact(Reps.none _ _));intro B7 AN A4 hb hg_ hnew_;clear hg_ hnew_;(first|rw[←Ao.o]at A4|(simp only[Int.reduceToNat]at A4;rw[←Ao.o]at A4));have AS:=rl HB A4;replace HB:=bS HB hb;clear hb A4))
  go_loopg [0,3] k (fun kq v0 v3 w'=>∃(X:Int) (A0:List Int),v0 = .int .i64 X∧Aside0 (impl_Var.l0 kq X A0=some r)∧Aside0 (kq≤k)∧Aside0 (Kd.R (Kd.int .u8) 5 w' w.heap.size (fun _=>True) v3 A0)∧Aside0 (Below w.heap.size w w'))
  case atStart=>exact⟨(a0),(Au),fa,H',⟨Nat.le_refl _⟩,⟨rpR AS.o⟩,⟨bl⟩⟩
  case round=>
   clear H';(try clear c1);(try clear p2);(try clear c3);obtain⟨X,A0,rfl,HA,AT,Af,HB⟩:=hrel;cases gk with
   |zero=>exact absurd HA.o (by simp[impl_Var.l0])
   |succ k1=>
    have H:=HA.o;clear HA;simp only[impl_Var.l0]at H;by_cases c6:X>127
    ·rw[if_pos c6]at H;have AU:=dt c6;clear c6;by_cases c7:A0.length<140737488355328
     ·rw[if_pos c7]at H;have AV:=aK c7;clear c7;obtain⟨AW,Ad⟩:=yy (A0 ++ [(wrap64 ((Int.tmod X 128)+128))%256]);rw[←Ad]at H;(try rw[obs]at H)
      have AL:=aK Ad;clear Ad;have H':=aK H;clear H;go_wp2_with (first|((with_reducible refine gate_builtin (b:=.append) (xs:=#[.tmp 10,.tmp 15]) rfl ?_);at_builtin;refine Kd.R_append (Kd.int .u8) (w0:=w) w.heap.size rfl (.tmp 10) (.tmp 15) 169 5 (.int .u8 0) 1 rfl Tryz.underlying169 info5 rfl (by decide) (by omega) u3 A0 ((wrap64 ((Int.tmod X 128)+128))%256) [.int .u8 ((wrap64 ((Int.tmod X 128)+128))%256)] (fun _=>True) (fun _=>False) rfl rfl ?aP (fun _ hk=>hk.elim) ?aF ?aO ?aB ?aS ?aL ?_;(case aP=>exact rfl);(case aB=>exact bl);(case aF=>exact(fun _ _=>trivial));(case aO=>exact(rpR Af.o));(case aS=>exact(below_size bl));(case aL=>have:=AV.o;omega);intro B3 B4 ho hb hg hat;rw[←AL.o]at ho;replace HB:=aK (hb);have Ap:=aK (ho);clear Af;clear ho hb hg hat))
      go_roundg k1
      case measure=>have:=AT.o;omega
      case rel=>exact⟨(wrap64 (Int.tdiv X 128)),(AW),fa,H',⟨by have:=AT.o;omega⟩,⟨rpR Ap.o⟩,⟨bl⟩⟩
     ·rw[if_neg c7]at H;exact absurd H (by simp)
    ·rw[if_neg c6]at H;have AU:=df c6;clear c6;by_cases c9:A0.length<140737488355328
     ·rw[if_pos c9]at H;have AX:=aK c9;clear c9;obtain⟨B6,Ae⟩:=yy (A0 ++ [(X)%256]);rw[←Ae]at H;(try rw[obs]at H)
      have AM:=aK Ae;clear Ae;obtain rfl:=oj H;go_wp2_with (first|((with_reducible refine gate_builtin (b:=.append) (xs:=#[.tmp 19,.tmp 22]) rfl ?_);at_builtin;refine Kd.R_append (Kd.int .u8) (w0:=w) w.heap.size rfl (.tmp 19) (.tmp 22) 169 5 (.int .u8 0) 1 rfl Tryz.underlying169 info5 rfl (by decide) (by omega) u3 A0 ((X)%256) [.int .u8 ((X)%256)] (fun _=>True) (fun _=>False) rfl rfl ?aP (fun _ hk=>hk.elim) ?aF ?aO ?aB ?aS ?aL ?_;(case aP=>exact rfl);(case aB=>exact bl);(case aF=>exact(fun _ _=>trivial));(case aO=>exact(rpR Af.o));(case aS=>exact(below_size bl));(case aL=>have:=AX.o;omega);intro B3 B4 ho hb hg hat;rw[←AM.o]at ho;replace HB:=aK (hb);have Ap:=aK (ho);clear Af;clear ho hb hg hat;have B5:=own_string (P:=Tryz.prog) Tryz.underlying169 Tryz.underlying5 Tryz.underlying9 (Kd.own_of_R Ap.o)))
      go_ret
      exact⟨fe,bl⟩
     ·rw[if_neg c9]at H;exact absurd H (by simp)
 ·replace c3:=bF c3;subst c3;replace H:=iF H;obtain rfl:=oj H
  go_enter Tryz.func191,Tryz.ntmps191
  go_wp2_with (first|((with_reducible refine gC 119 rfl ?_);refine goesW Tryz.func119 ?_;(with_reducible refine(impl_from.calls a0 0 562949953421311 _ _ A2.o).mono ?_);rintro e w' ⟨rfl,⟨nd,rfl⟩⟩;refine⟨_,rfl,?_⟩))
  go_ret
  exact⟨fe,bl⟩
def impl_ShowRec.f (k:Nat) (U:Int) (X:Int) (Y:Int) (Z:Int) (A1:ByteArray):Option (ByteArray):=(impl_RecOk.f U X Y Z A1).bind fun AT=>(if AT=true then((some (([(U)%256]:List Int):List Int)).bind fun A7=>((impl_Var.f k X).bind fun Aa=>(if(strOfNums A7).size+Aa.size≤9223372036854775807 then((impl_Var.f k Y).bind fun Ac=>(if((strOfNums A7).size+Aa.size)+Ac.size≤9223372036854775807 then((impl_Var.f k (wrap64 (Z+1))).bind fun Al=>(if(((strOfNums A7).size+Aa.size)+Ac.size)+Al.size≤9223372036854775807 then(if((((strOfNums A7).size+Aa.size)+Ac.size)+Al.size)+A1.size≤9223372036854775807 then(some (((((strOfNums A7)++Aa)++Ac)++Al)++A1))else(none))else(none)))else(none)))else(none))))else(some (⟨#[]⟩:ByteArray)))
def impl_ShowRec.T3:Bool×List (List Nat×List Nat):=(true,[([],[]),([0],[0]),([1],[1]),([2],[2]),([3],[3]),([],[]),([5],[5]),([6],[6]),([4,7],[4,7]),([],[]),([9],[9]),([10,7],[10]),([8,11],[8,11]),([],[]),([13],[13]),([14],[14]),([15,11],[15]),([12,16],[12,16]),([],[]),([18],[18]),([17,19],[17,19]),([20,16,0,1,2,3,4,5,6,7,8,9,10,11,12,13,14,15,16,17,18,19,20],[20])])
def impl_ShowRec.B3:List Nat:=[0,1,3,7,15,0,32,96,255,0,512,1760,4095,0,8192,24576,61152,131071,0,262144,1048575,2097151]
theorem impl_ShowRec.tab3:rtab .any (opsOf Tryz.f174 3)=impl_ShowRec.T3:=by kernel_rfl
theorem impl_ShowRec.bits3:waitsOk impl_ShowRec.T3.2 impl_ShowRec.B3=true:=by kernel_rfl
theorem impl_ShowRec.calls (k:Nat) (U:Int) (X:Int) (Y:Int) (Z:Int) (A1:ByteArray) (r:ByteArray) (w:World) (h:impl_ShowRec.f k U X Y Z A1=some r) :
 Calls Tryz.prog 174 #[.agg #[.int .i64 U,.int .i64 X,.int .i64 Y,.int .i64 Z,.string A1]] w fun e w'=>e = .returned (.string r)∧Below w.heap.size w w':=by
 have AU:=Tryz.underlying161;have HB:=aK (Below.refl w.heap.size w);have H:=h;unfold impl_ShowRec.f at H;clear h;obtain⟨AT,A2,H⟩:=bd H;by_cases c3:AT=true
 ·subst c3;replace H:=iT H;obtain⟨A7,AI⟩:=yy ([(U)%256]:List Int);rw[←AI]at H;(try rw[obs]at H)
  have Ap:=aK AI;clear AI;obtain⟨Aa,A4,H⟩:=bd H;by_cases c5:(strOfNums A7).size+Aa.size≤9223372036854775807
  ·rw[if_pos c5]at H;have B4:=eq_true c5;have BC:=dt c5;(try have BD:(9223372036854775807<(strOfNums A7).size+Aa.size)=False:=eq_false (Nat.not_lt.2 c5));obtain⟨Ac,A6,H⟩:=bd H;by_cases c7:((strOfNums A7).size+Aa.size)+Ac.size≤9223372036854775807
   ·rw[if_pos c7]at H;have B5:=eq_true c7;have Bk:=dt c7;(try have Bl:(9223372036854775807<((strOfNums A7).size+Aa.size)+Ac.size)=False:=eq_false (Nat.not_lt.2 c7));obtain⟨Al,A8,H⟩:=bd H;by_cases c9:(((strOfNums A7).size+Aa.size)+Ac.size)+Al.size≤9223372036854775807
    ·rw[if_pos c9]at H;have BE:=eq_true c9;have BF:=dt c9;(try have BG:(9223372036854775807<(((strOfNums A7).size+Aa.size)+Ac.size)+Al.size)=False:=eq_false (Nat.not_lt.2 c9));by_cases c10:((((strOfNums A7).size+Aa.size)+Ac.size)+Al.size)+A1.size≤9223372036854775807
     ·rw[if_pos c10]at H;have Bu:=eq_true c10;have Bv:=dt c10;(try have Bw:(9223372036854775807<((((strOfNums A7).size+Aa.size)+Ac.size)+Al.size)+A1.size)=False:=eq_false (Nat.not_lt.2 c10));obtain rfl:=oj H
      go_enter Tryz.func174,Tryz.ntmps174
      (try go_wp2_with (first|((with_reducible refine gD 1 rfl ?_);refine boxW ?_;intro D hg B7 hbox hb;have J:=aK hbox;have B8:=gW HB hg;replace HB:=bS HB hb;clear hb hbox hg;have:=cf5 J)|((with_reducible refine gC 181 rfl ?_);refine goesW Tryz.func181 ?_;(with_reducible refine(impl_RecOk.calls U X Y Z A1 _ _ A2.o).mono ?_);rintro e B9 ⟨rfl,hb⟩;refine⟨_,rfl,?_⟩;replace J:=bv J hb;replace HB:=bS HB hb;(try clear hb))));replace J:=dB J;replace HB:=dW HB;refine start_ (n:=22) (S:=fun w'=>w'.cell? ⟨D,0,none⟩=some (.int .i64 U)∧w'.cell? ⟨D,1,none⟩=some (.int .i64 X)∧w'.cell? ⟨D,2,none⟩=some (.int .i64 Y)∧w'.cell? ⟨D,3,none⟩=some (.int .i64 Z)∧w'.cell? ⟨D,4,none⟩=some (.string A1)) (ds:=[]) (bo 22 0) (by kernel_rfl) rfl rfl hh (fun hHeld=>?_);refine with_tabW impl_ShowRec.tab3 impl_ShowRec.bits3 (fun HT_ HW_=>?_);generalize B9.drew=Bm at J HB hHeld ⊢;refine pV 0 6 (bo 22 1) ?_;refine pV 5 11 (bo 22 33) ?_;refine pV 9 15 (bo 22 545) ?_;refine pV 13 19 (bo 22 8737) ?_;refine pV 18 24 (bo 22 270881) ?_
      refine tV 1 7 (bo 22 270883) ?_;refine pV 2 8 (bo 22 270887) ?_;refine tV 6 12 (bo 22 270951) ?_;refine tV 10 16 (bo 22 271975) ?_;refine tV 14 20 (bo 22 288359) ?_;refine pV 15 21 (bo 22 321127) ?_;refine tV 19 25 (bo 22 845415) ?_;refine join_ (σ:=Value) 3 (bo 22 917503) (fun s_=>[(9,s_),(10,.string (strOfNums A7)),(13,.string Aa),(17,.string Ac),(22,.string Al),(14,.string ((strOfNums A7)++Aa)),(18,.string (((strOfNums A7)++Aa)++Ac))]) (fun s_ w'=>(w'.cell? ⟨D,0,none⟩=some (.int .i64 U)∧w'.cell? ⟨D,1,none⟩=some (.int .i64 X)∧w'.cell? ⟨D,2,none⟩=some (.int .i64 Y)∧w'.cell? ⟨D,3,none⟩=some (.int .i64 Z)∧w'.cell? ⟨D,4,none⟩=some (.string A1))∧(Kd.R (Kd.int .u8) 5 w' w.heap.size (fun _=>True) s_ A7)∧(w'.heap[D]? = some (.cells #[.int .i64 U,.int .i64 X,.int .i64 Y,.int .i64 Z,.string A1] 161 (0,0)))∧(Below w.heap.size w w')) ?_ ?_
      rotate_left
      ·intro Aq;refine join_ (σ:=Value) 4 (bo 22 851967) (fun s_=>[(9,s_),(10,.string (strOfNums A7)),(13,.string Aa),(17,.string Ac),(14,.string ((strOfNums A7)++Aa)),(18,.string (((strOfNums A7)++Aa)++Ac))]) (fun s_ w'=>(w'.cell? ⟨D,0,none⟩=some (.int .i64 U)∧w'.cell? ⟨D,1,none⟩=some (.int .i64 X)∧w'.cell? ⟨D,2,none⟩=some (.int .i64 Y)∧w'.cell? ⟨D,3,none⟩=some (.int .i64 Z)∧w'.cell? ⟨D,4,none⟩=some (.string A1))∧(Kd.R (Kd.int .u8) 5 w' w.heap.size (fun _=>True) s_ A7)∧(w'.heap[D]? = some (.cells #[.int .i64 U,.int .i64 X,.int .i64 Y,.int .i64 Z,.string A1] 161 (0,0)))∧(Below w.heap.size w w')) ?_ ?_
       rotate_left
       ·intro Av;refine join_ (σ:=Value) 6 (bo 22 913135) (fun s_=>[(9,s_),(13,.string Aa),(17,.string Ac),(22,.string Al)]) (fun s_ w'=>(w'.cell? ⟨D,0,none⟩=some (.int .i64 U)∧w'.cell? ⟨D,1,none⟩=some (.int .i64 X)∧w'.cell? ⟨D,2,none⟩=some (.int .i64 Y)∧w'.cell? ⟨D,3,none⟩=some (.int .i64 Z)∧w'.cell? ⟨D,4,none⟩=some (.string A1))∧(Kd.R (Kd.int .u8) 5 w' w.heap.size (fun _=>True) s_ A7)∧(w'.heap[D]? = some (.cells #[.int .i64 U,.int .i64 X,.int .i64 Y,.int .i64 Z,.string A1] 161 (0,0)))∧(Below w.heap.size w w')) ?_ ?_
        rotate_left
        ·intro Ar;refine join_ (σ:=Value) 6 (bo 22 845823) (fun s_=>[(9,s_),(10,.string (strOfNums A7)),(13,.string Aa),(14,.string ((strOfNums A7)++Aa))]) (fun s_ w'=>(w'.cell? ⟨D,0,none⟩=some (.int .i64 U)∧w'.cell? ⟨D,1,none⟩=some (.int .i64 X)∧w'.cell? ⟨D,2,none⟩=some (.int .i64 Y)∧w'.cell? ⟨D,3,none⟩=some (.int .i64 Z)∧w'.cell? ⟨D,4,none⟩=some (.string A1))∧(Kd.R (Kd.int .u8) 5 w' w.heap.size (fun _=>True) s_ A7)∧(w'.heap[D]? = some (.cells #[.int .i64 U,.int .i64 X,.int .i64 Y,.int .i64 Z,.string A1] 161 (0,0)))∧(Below w.heap.size w w')) ?_ ?_
         rotate_left
         ·intro AC;refine join_ (σ:=Value) 7 (bo 22 847599) (fun s_=>[(9,s_),(13,.string Aa),(17,.string Ac)]) (fun s_ w'=>(w'.cell? ⟨D,0,none⟩=some (.int .i64 U)∧w'.cell? ⟨D,1,none⟩=some (.int .i64 X)∧w'.cell? ⟨D,2,none⟩=some (.int .i64 Y)∧w'.cell? ⟨D,3,none⟩=some (.int .i64 Z)∧w'.cell? ⟨D,4,none⟩=some (.string A1))∧(Kd.R (Kd.int .u8) 5 w' w.heap.size (fun _=>True) s_ A7)∧(w'.heap[D]? = some (.cells #[.int .i64 U,.int .i64 X,.int .i64 Y,.int .i64 Z,.string A1] 161 (0,0)))∧(Below w.heap.size w w')) ?_ ?_
          rotate_left
          ·intro Ay;refine join_ (σ:=Unit) 7 (bo 22 913127) (fun s_=>[(13,.string Aa),(17,.string Ac),(22,.string Al)]) (fun s_ w'=>(w'.cell? ⟨D,0,none⟩=some (.int .i64 U)∧w'.cell? ⟨D,1,none⟩=some (.int .i64 X)∧w'.cell? ⟨D,2,none⟩=some (.int .i64 Y)∧w'.cell? ⟨D,3,none⟩=some (.int .i64 Z)∧w'.cell? ⟨D,4,none⟩=some (.string A1))∧(w'.heap[D]? = some (.cells #[.int .i64 U,.int .i64 X,.int .i64 Y,.int .i64 Z,.string A1] 161 (0,0)))∧(Below w.heap.size w w')) ?_ ?_
           rotate_left
           ·intro AJ;refine join_ (σ:=Value) 8 (bo 22 845439) (fun s_=>[(9,s_),(10,.string (strOfNums A7))]) (fun s_ w'=>(w'.cell? ⟨D,0,none⟩=some (.int .i64 U)∧w'.cell? ⟨D,1,none⟩=some (.int .i64 X)∧w'.cell? ⟨D,2,none⟩=some (.int .i64 Y)∧w'.cell? ⟨D,3,none⟩=some (.int .i64 Z)∧w'.cell? ⟨D,4,none⟩=some (.string A1))∧(Kd.R (Kd.int .u8) 5 w' w.heap.size (fun _=>True) s_ A7)∧(w'.heap[D]? = some (.cells #[.int .i64 U,.int .i64 X,.int .i64 Y,.int .i64 Z,.string A1] 161 (0,0)))∧(Below w.heap.size w w')) ?_ ?_
            rotate_left
            ·intro Ba;refine join_ (σ:=Value) 8 (bo 22 845551) (fun s_=>[(9,s_),(13,.string Aa)]) (fun s_ w'=>(w'.cell? ⟨D,0,none⟩=some (.int .i64 U)∧w'.cell? ⟨D,1,none⟩=some (.int .i64 X)∧w'.cell? ⟨D,2,none⟩=some (.int .i64 Y)∧w'.cell? ⟨D,3,none⟩=some (.int .i64 Z)∧w'.cell? ⟨D,4,none⟩=some (.string A1))∧(Kd.R (Kd.int .u8) 5 w' w.heap.size (fun _=>True) s_ A7)∧(w'.heap[D]? = some (.cells #[.int .i64 U,.int .i64 X,.int .i64 Y,.int .i64 Z,.string A1] 161 (0,0)))∧(Below w.heap.size w w')) ?_ ?_
             rotate_left
             ·intro AV;refine join_ (σ:=Unit) 8 (bo 22 847591) (fun s_=>[(13,.string Aa),(17,.string Ac)]) (fun s_ w'=>(w'.cell? ⟨D,0,none⟩=some (.int .i64 U)∧w'.cell? ⟨D,1,none⟩=some (.int .i64 X)∧w'.cell? ⟨D,2,none⟩=some (.int .i64 Y)∧w'.cell? ⟨D,3,none⟩=some (.int .i64 Z)∧w'.cell? ⟨D,4,none⟩=some (.string A1))∧(w'.heap[D]? = some (.cells #[.int .i64 U,.int .i64 X,.int .i64 Y,.int .i64 Z,.string A1] 161 (0,0)))∧(Below w.heap.size w w')) ?_ ?_
              rotate_left
              ·intro B2;refine join_ (σ:=Value) 9 (bo 22 845423) (fun s_=>[(9,s_)]) (fun s_ w'=>(w'.cell? ⟨D,0,none⟩=some (.int .i64 U)∧w'.cell? ⟨D,1,none⟩=some (.int .i64 X)∧w'.cell? ⟨D,2,none⟩=some (.int .i64 Y)∧w'.cell? ⟨D,3,none⟩=some (.int .i64 Z)∧w'.cell? ⟨D,4,none⟩=some (.string A1))∧(Kd.R (Kd.int .u8) 5 w' w.heap.size (fun _=>True) s_ A7)∧(w'.heap[D]? = some (.cells #[.int .i64 U,.int .i64 X,.int .i64 Y,.int .i64 Z,.string A1] 161 (0,0)))∧(Below w.heap.size w w')) ?_ ?_
               rotate_left
               ·intro Bx;refine join_ (σ:=Unit) 9 (bo 22 845543) (fun s_=>[(13,.string Aa)]) (fun s_ w'=>(w'.cell? ⟨D,0,none⟩=some (.int .i64 U)∧w'.cell? ⟨D,1,none⟩=some (.int .i64 X)∧w'.cell? ⟨D,2,none⟩=some (.int .i64 Y)∧w'.cell? ⟨D,3,none⟩=some (.int .i64 Z)∧w'.cell? ⟨D,4,none⟩=some (.string A1))∧(w'.heap[D]? = some (.cells #[.int .i64 U,.int .i64 X,.int .i64 Y,.int .i64 Z,.string A1] 161 (0,0)))∧(Below w.heap.size w w')) ?_ ?_
                rotate_left
                ·intro By;refine two_ (i:=3) (j:=7) (Ni:=some 9) (Nj:=some 13) (bo 22 845423) (bo 22 845543) rfl rfl rfl rfl (two_of HT_.o (by kernel_rfl)) (by decide) (by decide) (fun K hK=>?_) (fun K hK=>?_)
                 ·skip;refine Kd.R_lit_step (Kd.int .u8) _ 5 ?hg (N:=9) ?hd (xs:=([(U)%256]:List Int)) (inner:=[.int .u8 ((U)%256)]) (ok:=fun _=>True) (okp:=fun _=>True) ?hr ?hp (fun _ hk=>hk) trivial (Below.refl _ _) (Nat.le_refl _) (by simp) ?_;(case hd=>rfl);(case hg=>rfl);(case hr=>first|(go_simp;done)|(go_simp;rfl));(case hp=>exact(Reps.one (show Kd.M (Kd.int .u8) _ _ _ ((U)%256) [.int .u8 ((U)%256)]from rfl) (Reps.none _ _)));intro Ab Bz AD hb hg_ hnew_;clear hg_ hnew_;(first|rw[←Ap.o]at AD|(simp only[Int.reduceToNat]at AD;rw[←Ap.o]at AD));have A3:=rl HB AD;replace J:=bv J hb;replace HB:=bS HB hb;clear hb AD;refine hK.out _ _ hh (fun hHeld=>?_);clear hK K;refine nm 9 ?_;exact norm_ pk (Bx (Ab) _ ⟨hHeld,(rpR A3.o),bk,bl⟩)
                 ·skip;refine goesV Tryz.func191 ?_;(with_reducible refine(impl_Var.calls k X Aa _ A4.o).mono ?_);rintro e Bz ⟨rfl,hb⟩;refine⟨_,rfl,?_⟩;replace J:=bv J hb;replace HB:=bS HB hb;(try clear hb AE hk hi);refine hK.out _ _ hh (fun hHeld=>?_);clear hK K;refine nm 13 ?_;exact norm_ pk (By () _ ⟨hHeld,bk,bl⟩)
                ·skip;rintro _ AK ⟨hS_,Ad,Ae⟩;have Af:Aside0 (AK.heap[D]? = some (.cells #[.int .i64 U,.int .i64 X,.int .i64 Y,.int .i64 Z,.string A1] 161 (0,0))):=⟨Ad⟩;have Ag:Aside0 (Below w.heap.size w AK):=⟨Ae⟩;clear J;clear HB;clear Ad Ae;have J:=Af;have HB:=Ag;clear Af Ag;have hHeld:AK.cell? ⟨D,0,none⟩=some (.int .i64 U)∧AK.cell? ⟨D,1,none⟩=some (.int .i64 X)∧AK.cell? ⟨D,2,none⟩=some (.int .i64 Y)∧AK.cell? ⟨D,3,none⟩=some (.int .i64 Z)∧AK.cell? ⟨D,4,none⟩=some (.string A1):=hS_;refine norm_ (a':=?_) ?_ ?_
                 rotate_left
                 ·simp only[putAll,Act.put,List.setIfInBounds_toArray,List.set_cons_zero,List.set_cons_succ];rfl
                 refine two_ (i:=3) (j:=11) (Ni:=some 9) (Nj:=some 17) (bo 22 845551) (bo 22 847591) rfl rfl rfl rfl (two_of HT_.o (by kernel_rfl)) (by decide) (by decide) (fun K hK=>?_) (fun K hK=>?_)
                 ·skip;refine Kd.R_lit_step (Kd.int .u8) _ 5 ?hg (N:=9) ?hd (xs:=([(U)%256]:List Int)) (inner:=[.int .u8 ((U)%256)]) (ok:=fun _=>True) (okp:=fun _=>True) ?hr ?hp (fun _ hk=>hk) trivial (Below.refl _ _) (Nat.le_refl _) (by simp) ?_;(case hd=>rfl);(case hg=>rfl);(case hr=>first|(go_simp;done)|(go_simp;rfl));(case hp=>exact(Reps.one (show Kd.M (Kd.int .u8) _ _ _ ((U)%256) [.int .u8 ((U)%256)]from rfl) (Reps.none _ _)));intro Ab Ao AF hb hg_ hnew_;clear hg_ hnew_;(first|rw[←Ap.o]at AF|(simp only[Int.reduceToNat]at AF;rw[←Ap.o]at AF));have A3:=rl HB AF;replace J:=bv J hb;replace HB:=bS HB hb;clear hb AF;refine hK.out _ _ hh (fun hHeld=>?_);clear hK K;refine nm 9 ?_;exact norm_ pk (AV (Ab) _ ⟨hHeld,(rpR A3.o),bk,bl⟩)
                 ·skip;refine goesV Tryz.func191 ?_;(with_reducible refine(impl_Var.calls k Y Ac _ A6.o).mono ?_);rintro e Ao ⟨rfl,hb⟩;refine⟨_,rfl,?_⟩;replace J:=bv J hb;replace HB:=bS HB hb;(try clear hb AE hk hi);refine hK.out _ _ hh (fun hHeld=>?_);clear hK K;refine nm 17 ?_;exact norm_ pk (B2 () _ ⟨hHeld,bk,bl⟩)
               ·skip;rintro Ab Ao ⟨hS_,Ad,Ae,Aj⟩;have Af:Aside0 (Kd.R (Kd.int .u8) 5 Ao w.heap.size (fun _=>True) Ab A7):=⟨Ad⟩;have Ag:Aside0 (Ao.heap[D]? = some (.cells #[.int .i64 U,.int .i64 X,.int .i64 Y,.int .i64 Z,.string A1] 161 (0,0))):=⟨Ae⟩;have Ak:Aside0 (Below w.heap.size w Ao):=⟨Aj⟩;clear J;clear HB;clear Ad Ae Aj;have A3:=Af;have J:=Ag;have HB:=Ak;clear Af Ag Ak;have hHeld:Ao.cell? ⟨D,0,none⟩=some (.int .i64 U)∧Ao.cell? ⟨D,1,none⟩=some (.int .i64 X)∧Ao.cell? ⟨D,2,none⟩=some (.int .i64 Y)∧Ao.cell? ⟨D,3,none⟩=some (.int .i64 Z)∧Ao.cell? ⟨D,4,none⟩=some (.string A1):=hS_;refine norm_ (a':=?_) ?_ ?_
                rotate_left
                ·simp only[putAll,Act.put,List.setIfInBounds_toArray,List.set_cons_zero,List.set_cons_succ];rfl
                refine two_ (i:=4) (j:=7) (Ni:=some 10) (Nj:=some 13) (bo 22 845439) (bo 22 845551) rfl rfl rfl rfl (two_of HT_.o (by kernel_rfl)) (by decide) (by decide) (fun K hK=>?_) (fun K hK=>?_)
                ·skip;have Bb:=own_string (P:=Tryz.prog) Tryz.underlying169 Tryz.underlying5 Tryz.underlying9 (Kd.own_of_R A3.o);refine value_ (w1:=?_) (v:=?_) (by rfl) rfl ?_ ?_
                 rotate_left 2
                 ·go_simp;constructor
                  ·rfl
                  ·rfl
                 clear Bb;refine hK.out _ _ hh (fun hHeld=>?_);clear hK K;refine nm 10 ?_;exact norm_ pk (Ba (Ab) _ ⟨hHeld,(rpR A3.o),bk,bl⟩)
                ·skip;refine goesV Tryz.func191 ?_;(with_reducible refine(impl_Var.calls k X Aa _ A4.o).mono ?_);rintro e Ai ⟨rfl,hb⟩;refine⟨_,rfl,?_⟩;replace A3:=rb A3 hb;replace J:=bv J hb;replace HB:=bS HB hb;(try clear hb AE hk hi);refine hK.out _ _ hh (fun hHeld=>?_);clear hK K;refine nm 13 ?_;exact norm_ pk (AV (Ab) _ ⟨hHeld,(rpR A3.o),bk,bl⟩)
              ·skip;rintro _ Ao ⟨hS_,Ad,Ae⟩;have Af:Aside0 (Ao.heap[D]? = some (.cells #[.int .i64 U,.int .i64 X,.int .i64 Y,.int .i64 Z,.string A1] 161 (0,0))):=⟨Ad⟩;have Ag:Aside0 (Below w.heap.size w Ao):=⟨Ae⟩;clear J;clear HB;clear Ad Ae;have J:=Af;have HB:=Ag;clear Af Ag;have hHeld:Ao.cell? ⟨D,0,none⟩=some (.int .i64 U)∧Ao.cell? ⟨D,1,none⟩=some (.int .i64 X)∧Ao.cell? ⟨D,2,none⟩=some (.int .i64 Y)∧Ao.cell? ⟨D,3,none⟩=some (.int .i64 Z)∧Ao.cell? ⟨D,4,none⟩=some (.string A1):=hS_;refine norm_ (a':=?_) ?_ ?_
               rotate_left
               ·simp only[putAll,Act.put,List.setIfInBounds_toArray,List.set_cons_zero,List.set_cons_succ];rfl
               refine two_ (i:=3) (j:=16) (Ni:=some 9) (Nj:=some 22) (bo 22 847599) (bo 22 913127) rfl rfl rfl rfl (two_of HT_.o (by kernel_rfl)) (by decide) (by decide) (fun K hK=>?_) (fun K hK=>?_)
               ·skip;refine Kd.R_lit_step (Kd.int .u8) _ 5 ?hg (N:=9) ?hd (xs:=([(U)%256]:List Int)) (inner:=[.int .u8 ((U)%256)]) (ok:=fun _=>True) (okp:=fun _=>True) ?hr ?hp (fun _ hk=>hk) trivial (Below.refl _ _) (Nat.le_refl _) (by simp) ?_;(case hd=>rfl);(case hg=>rfl);(case hr=>first|(go_simp;done)|(go_simp;rfl));(case hp=>exact(Reps.one (show Kd.M (Kd.int .u8) _ _ _ ((U)%256) [.int .u8 ((U)%256)]from rfl) (Reps.none _ _)));intro Ab Ai AG hb hg_ hnew_;clear hg_ hnew_;(first|rw[←Ap.o]at AG|(simp only[Int.reduceToNat]at AG;rw[←Ap.o]at AG));have A3:=rl HB AG;replace J:=bv J hb;replace HB:=bS HB hb;clear hb AG;refine hK.out _ _ hh (fun hHeld=>?_);clear hK K;refine nm 9 ?_;exact norm_ pk (Ay (Ab) _ ⟨hHeld,(rpR A3.o),bk,bl⟩)
               ·skip;refine goesV Tryz.func191 ?_;(with_reducible refine(impl_Var.calls k (wrap64 (Z+1)) Al _ A8.o).mono ?_);rintro e Ai ⟨rfl,hb⟩;refine⟨_,rfl,?_⟩;replace J:=bv J hb;replace HB:=bS HB hb;(try clear hb AE hk hi);refine hK.out _ _ hh (fun hHeld=>?_);clear hK K;refine nm 22 ?_;exact norm_ pk (AJ () _ ⟨hHeld,bk,bl⟩)
             ·skip;rintro Ab Ai ⟨hS_,Ad,Ae,Aj⟩;have Af:Aside0 (Kd.R (Kd.int .u8) 5 Ai w.heap.size (fun _=>True) Ab A7):=⟨Ad⟩;have Ag:Aside0 (Ai.heap[D]? = some (.cells #[.int .i64 U,.int .i64 X,.int .i64 Y,.int .i64 Z,.string A1] 161 (0,0))):=⟨Ae⟩;have Ak:Aside0 (Below w.heap.size w Ai):=⟨Aj⟩;clear J;clear HB;clear Ad Ae Aj;have A3:=Af;have J:=Ag;have HB:=Ak;clear Af Ag Ak;have hHeld:Ai.cell? ⟨D,0,none⟩=some (.int .i64 U)∧Ai.cell? ⟨D,1,none⟩=some (.int .i64 X)∧Ai.cell? ⟨D,2,none⟩=some (.int .i64 Y)∧Ai.cell? ⟨D,3,none⟩=some (.int .i64 Z)∧Ai.cell? ⟨D,4,none⟩=some (.string A1):=hS_;refine norm_ (a':=?_) ?_ ?_
              rotate_left
              ·simp only[putAll,Act.put,List.setIfInBounds_toArray,List.set_cons_zero,List.set_cons_succ];rfl
              refine two_ (i:=4) (j:=11) (Ni:=some 10) (Nj:=some 17) (bo 22 845567) (bo 22 847599) rfl rfl rfl rfl (two_of HT_.o (by kernel_rfl)) (by decide) (by decide) (fun K hK=>?_) (fun K hK=>?_)
              ·skip;have Bc:=own_string (P:=Tryz.prog) Tryz.underlying169 Tryz.underlying5 Tryz.underlying9 (Kd.own_of_R A3.o);refine value_ (w1:=?_) (v:=?_) (by rfl) rfl ?_ ?_
               rotate_left 2
               ·go_simp;constructor
                ·rfl
                ·rfl
               clear Bc;refine hK.out _ _ hh (fun hHeld=>?_);clear hK K;refine nm 10 ?_;refine pV 8 14 (bo 22 845823) ?_;exact norm_ pk (AC (Ab) _ ⟨hHeld,(rpR A3.o),bk,bl⟩)
              ·skip;refine goesV Tryz.func191 ?_;(with_reducible refine(impl_Var.calls k Y Ac _ A6.o).mono ?_);rintro e Am ⟨rfl,hb⟩;refine⟨_,rfl,?_⟩;replace A3:=rb A3 hb;replace J:=bv J hb;replace HB:=bS HB hb;(try clear hb AE hk hi);refine hK.out _ _ hh (fun hHeld=>?_);clear hK K;refine nm 17 ?_;exact norm_ pk (Ay (Ab) _ ⟨hHeld,(rpR A3.o),bk,bl⟩)
            ·skip;rintro Ab Ai ⟨hS_,Ad,Ae,Aj⟩;have Af:Aside0 (Kd.R (Kd.int .u8) 5 Ai w.heap.size (fun _=>True) Ab A7):=⟨Ad⟩;have Ag:Aside0 (Ai.heap[D]? = some (.cells #[.int .i64 U,.int .i64 X,.int .i64 Y,.int .i64 Z,.string A1] 161 (0,0))):=⟨Ae⟩;have Ak:Aside0 (Below w.heap.size w Ai):=⟨Aj⟩;clear J;clear HB;clear Ad Ae Aj;have A3:=Af;have J:=Ag;have HB:=Ak;clear Af Ag Ak;have hHeld:Ai.cell? ⟨D,0,none⟩=some (.int .i64 U)∧Ai.cell? ⟨D,1,none⟩=some (.int .i64 X)∧Ai.cell? ⟨D,2,none⟩=some (.int .i64 Y)∧Ai.cell? ⟨D,3,none⟩=some (.int .i64 Z)∧Ai.cell? ⟨D,4,none⟩=some (.string A1):=hS_;refine norm_ (a':=?_) ?_ ?_
             rotate_left
             ·simp only[putAll,Act.put,List.setIfInBounds_toArray,List.set_cons_zero,List.set_cons_succ];rfl
             refine o1 7 13 (bo 22 845567) (fun K hK=>?_);refine goesV Tryz.func191 ?_;(with_reducible refine(impl_Var.calls k X Aa _ A4.o).mono ?_);rintro e Am ⟨rfl,hb⟩;refine⟨_,rfl,?_⟩;replace A3:=rb A3 hb;replace J:=bv J hb;replace HB:=bS HB hb;(try clear hb AE hk hi);refine hK.out _ _ hh (fun hHeld=>?_);clear hK K;refine nm 13 ?_;refine pV 8 14 (bo 22 845823) ?_;exact norm_ pk (AC (Ab) _ ⟨hHeld,(rpR A3.o),bk,bl⟩)
           ·skip;rintro _ Ai ⟨hS_,Ad,Ae⟩;have Af:Aside0 (Ai.heap[D]? = some (.cells #[.int .i64 U,.int .i64 X,.int .i64 Y,.int .i64 Z,.string A1] 161 (0,0))):=⟨Ad⟩;have Ag:Aside0 (Below w.heap.size w Ai):=⟨Ae⟩;clear J;clear HB;clear Ad Ae;have J:=Af;have HB:=Ag;clear Af Ag;have hHeld:Ai.cell? ⟨D,0,none⟩=some (.int .i64 U)∧Ai.cell? ⟨D,1,none⟩=some (.int .i64 X)∧Ai.cell? ⟨D,2,none⟩=some (.int .i64 Y)∧Ai.cell? ⟨D,3,none⟩=some (.int .i64 Z)∧Ai.cell? ⟨D,4,none⟩=some (.string A1):=hS_;refine norm_ (a':=?_) ?_ ?_
            rotate_left
            ·simp only[putAll,Act.put,List.setIfInBounds_toArray,List.set_cons_zero,List.set_cons_succ];rfl
            refine o1 3 9 (bo 22 913135) (fun K hK=>?_);refine Kd.R_lit_step (Kd.int .u8) _ 5 ?hg (N:=9) ?hd (xs:=([(U)%256]:List Int)) (inner:=[.int .u8 ((U)%256)]) (ok:=fun _=>True) (okp:=fun _=>True) ?hr ?hp (fun _ hk=>hk) trivial (Below.refl _ _) (Nat.le_refl _) (by simp) ?_;(case hd=>rfl);(case hg=>rfl);(case hr=>first|(go_simp;done)|(go_simp;rfl));(case hp=>exact(Reps.one (show Kd.M (Kd.int .u8) _ _ _ ((U)%256) [.int .u8 ((U)%256)]from rfl) (Reps.none _ _)));intro Ab Am AH hb hg_ hnew_;clear hg_ hnew_;(first|rw[←Ap.o]at AH|(simp only[Int.reduceToNat]at AH;rw[←Ap.o]at AH));have A3:=rl HB AH;replace J:=bv J hb;replace HB:=bS HB hb;clear hb AH;refine hK.out _ _ hh (fun hHeld=>?_);clear hK K;refine nm 9 ?_;exact norm_ pk (Ar (Ab) _ ⟨hHeld,(rpR A3.o),bk,bl⟩)
          ·skip;rintro Ab Am ⟨hS_,Ad,Ae,Aj⟩;have Af:Aside0 (Kd.R (Kd.int .u8) 5 Am w.heap.size (fun _=>True) Ab A7):=⟨Ad⟩;have Ag:Aside0 (Am.heap[D]? = some (.cells #[.int .i64 U,.int .i64 X,.int .i64 Y,.int .i64 Z,.string A1] 161 (0,0))):=⟨Ae⟩;have Ak:Aside0 (Below w.heap.size w Am):=⟨Aj⟩;clear J;clear HB;clear Ad Ae Aj;have A3:=Af;have J:=Ag;have HB:=Ak;clear Af Ag Ak;have hHeld:Am.cell? ⟨D,0,none⟩=some (.int .i64 U)∧Am.cell? ⟨D,1,none⟩=some (.int .i64 X)∧Am.cell? ⟨D,2,none⟩=some (.int .i64 Y)∧Am.cell? ⟨D,3,none⟩=some (.int .i64 Z)∧Am.cell? ⟨D,4,none⟩=some (.string A1):=hS_;refine norm_ (a':=?_) ?_ ?_
           rotate_left
           ·simp only[putAll,Act.put,List.setIfInBounds_toArray,List.set_cons_zero,List.set_cons_succ];rfl
           refine two_ (i:=4) (j:=16) (Ni:=some 10) (Nj:=some 22) (bo 22 847615) (bo 22 913135) rfl rfl rfl rfl (two_of HT_.o (by kernel_rfl)) (by decide) (by decide) (fun K hK=>?_) (fun K hK=>?_)
           ·skip;have Bd:=own_string (P:=Tryz.prog) Tryz.underlying169 Tryz.underlying5 Tryz.underlying9 (Kd.own_of_R A3.o);refine value_ (w1:=?_) (v:=?_) (by rfl) rfl ?_ ?_
            rotate_left 2
            ·go_simp;constructor
             ·rfl
             ·rfl
            clear Bd;refine hK.out _ _ hh (fun hHeld=>?_);clear hK K;refine nm 10 ?_;refine pV 8 14 (bo 22 847871) ?_;refine pV 12 18 (bo 22 851967) ?_;exact norm_ pk (Av (Ab) _ ⟨hHeld,(rpR A3.o),bk,bl⟩)
           ·skip;refine goesV Tryz.func191 ?_;(with_reducible refine(impl_Var.calls k (wrap64 (Z+1)) Al _ A8.o).mono ?_);rintro e An ⟨rfl,hb⟩;refine⟨_,rfl,?_⟩;replace A3:=rb A3 hb;replace J:=bv J hb;replace HB:=bS HB hb;(try clear hb AE hk hi);refine hK.out _ _ hh (fun hHeld=>?_);clear hK K;refine nm 22 ?_;exact norm_ pk (Ar (Ab) _ ⟨hHeld,(rpR A3.o),bk,bl⟩)
         ·skip;rintro Ab Am ⟨hS_,Ad,Ae,Aj⟩;have Af:Aside0 (Kd.R (Kd.int .u8) 5 Am w.heap.size (fun _=>True) Ab A7):=⟨Ad⟩;have Ag:Aside0 (Am.heap[D]? = some (.cells #[.int .i64 U,.int .i64 X,.int .i64 Y,.int .i64 Z,.string A1] 161 (0,0))):=⟨Ae⟩;have Ak:Aside0 (Below w.heap.size w Am):=⟨Aj⟩;clear J;clear HB;clear Ad Ae Aj;have A3:=Af;have J:=Ag;have HB:=Ak;clear Af Ag Ak;have hHeld:Am.cell? ⟨D,0,none⟩=some (.int .i64 U)∧Am.cell? ⟨D,1,none⟩=some (.int .i64 X)∧Am.cell? ⟨D,2,none⟩=some (.int .i64 Y)∧Am.cell? ⟨D,3,none⟩=some (.int .i64 Z)∧Am.cell? ⟨D,4,none⟩=some (.string A1):=hS_;refine norm_ (a':=?_) ?_ ?_
          rotate_left
          ·simp only[putAll,Act.put,List.setIfInBounds_toArray,List.set_cons_zero,List.set_cons_succ];rfl
          refine o1 11 17 (bo 22 847871) (fun K hK=>?_);refine goesV Tryz.func191 ?_;(with_reducible refine(impl_Var.calls k Y Ac _ A6.o).mono ?_);rintro e An ⟨rfl,hb⟩;refine⟨_,rfl,?_⟩;replace A3:=rb A3 hb;replace J:=bv J hb;replace HB:=bS HB hb;(try clear hb AE hk hi);refine hK.out _ _ hh (fun hHeld=>?_);clear hK K;refine nm 17 ?_;refine pV 12 18 (bo 22 851967) ?_;exact norm_ pk (Av (Ab) _ ⟨hHeld,(rpR A3.o),bk,bl⟩)
        ·skip;rintro Ab An ⟨hS_,Ad,Ae,Aj⟩;have Af:Aside0 (Kd.R (Kd.int .u8) 5 An w.heap.size (fun _=>True) Ab A7):=⟨Ad⟩;have Ag:Aside0 (An.heap[D]? = some (.cells #[.int .i64 U,.int .i64 X,.int .i64 Y,.int .i64 Z,.string A1] 161 (0,0))):=⟨Ae⟩;have Ak:Aside0 (Below w.heap.size w An):=⟨Aj⟩;clear J;clear HB;clear Ad Ae Aj;have A3:=Af;have J:=Ag;have HB:=Ak;clear Af Ag Ak;have hHeld:An.cell? ⟨D,0,none⟩=some (.int .i64 U)∧An.cell? ⟨D,1,none⟩=some (.int .i64 X)∧An.cell? ⟨D,2,none⟩=some (.int .i64 Y)∧An.cell? ⟨D,3,none⟩=some (.int .i64 Z)∧An.cell? ⟨D,4,none⟩=some (.string A1):=hS_;refine norm_ (a':=?_) ?_ ?_
         rotate_left
         ·simp only[putAll,Act.put,List.setIfInBounds_toArray,List.set_cons_zero,List.set_cons_succ];rfl
         refine o1 4 10 (bo 22 913151) (fun K hK=>?_);have Be:=own_string (P:=Tryz.prog) Tryz.underlying169 Tryz.underlying5 Tryz.underlying9 (Kd.own_of_R A3.o);refine value_ (w1:=?_) (v:=?_) (by rfl) rfl ?_ ?_
         rotate_left 2
         ·go_simp;constructor
          ·rfl
          ·rfl
         clear Be;refine hK.out _ _ hh (fun hHeld=>?_);clear hK K;refine nm 10 ?_;refine pV 8 14 (bo 22 913407) ?_;refine pV 12 18 (bo 22 917503) ?_;exact norm_ pk (Aq (Ab) _ ⟨hHeld,(rpR A3.o),bk,bl⟩)
       ·skip;rintro Ab An ⟨hS_,Ad,Ae,Aj⟩;have Af:Aside0 (Kd.R (Kd.int .u8) 5 An w.heap.size (fun _=>True) Ab A7):=⟨Ad⟩;have Ag:Aside0 (An.heap[D]? = some (.cells #[.int .i64 U,.int .i64 X,.int .i64 Y,.int .i64 Z,.string A1] 161 (0,0))):=⟨Ae⟩;have Ak:Aside0 (Below w.heap.size w An):=⟨Aj⟩;clear J;clear HB;clear Ad Ae Aj;have A3:=Af;have J:=Ag;have HB:=Ak;clear Af Ag Ak;have hHeld:An.cell? ⟨D,0,none⟩=some (.int .i64 U)∧An.cell? ⟨D,1,none⟩=some (.int .i64 X)∧An.cell? ⟨D,2,none⟩=some (.int .i64 Y)∧An.cell? ⟨D,3,none⟩=some (.int .i64 Z)∧An.cell? ⟨D,4,none⟩=some (.string A1):=hS_;refine norm_ (a':=?_) ?_ ?_
        rotate_left
        ·simp only[putAll,Act.put,List.setIfInBounds_toArray,List.set_cons_zero,List.set_cons_succ];rfl
        refine o1 16 22 (bo 22 917503) (fun K hK=>?_);refine goesV Tryz.func191 ?_;(with_reducible refine(impl_Var.calls k (wrap64 (Z+1)) Al _ A8.o).mono ?_);rintro e AB ⟨rfl,hb⟩;refine⟨_,rfl,?_⟩;replace A3:=rb A3 hb;replace J:=bv J hb;replace HB:=bS HB hb;(try clear hb AE hk hi);refine hK.out _ _ hh (fun hHeld=>?_);clear hK K;refine nm 22 ?_;exact norm_ pk (Aq (Ab) _ ⟨hHeld,(rpR A3.o),bk,bl⟩)
      rintro Ab AB ⟨hS_,Ad,Ae,Aj⟩;have Af:Aside0 (Kd.R (Kd.int .u8) 5 AB w.heap.size (fun _=>True) Ab A7):=⟨Ad⟩;have Ag:Aside0 (AB.heap[D]? = some (.cells #[.int .i64 U,.int .i64 X,.int .i64 Y,.int .i64 Z,.string A1] 161 (0,0))):=⟨Ae⟩;have Ak:Aside0 (Below w.heap.size w AB):=⟨Aj⟩;clear J;clear HB;clear Ad Ae Aj;have A3:=Af;have J:=Ag;have HB:=Ak;clear Af Ag Ak;have hHeld:AB.cell? ⟨D,0,none⟩=some (.int .i64 U)∧AB.cell? ⟨D,1,none⟩=some (.int .i64 X)∧AB.cell? ⟨D,2,none⟩=some (.int .i64 Y)∧AB.cell? ⟨D,3,none⟩=some (.int .i64 Z)∧AB.cell? ⟨D,4,none⟩=some (.string A1):=hS_;refine norm_ (a':=?_) ?_ ?_
      rotate_left
      ·simp only[putAll,Act.put,List.setIfInBounds_toArray,List.set_cons_zero,List.set_cons_succ];rfl
      refine pV 17 23 (bo 22 1048575) ?_;refine pV 20 26 (bo 22 2097151) ?_;refine pV 21 2 (bo 22 4194303) ?_;refine done_ (done_of HT_.o (by kernel_rfl)) ?_;(try go_wp2)
      go_ret
      exact⟨fe,bl⟩
     ·rw[if_neg c10]at H;exact absurd H (by simp)
    ·rw[if_neg c9]at H;exact absurd H (by simp)
   ·rw[if_neg c7]at H;exact absurd H (by simp)
  ·rw[if_neg c5]at H;exact absurd H (by simp)
 ·replace c3:=bF c3;subst c3;replace H:=iF H;obtain rfl:=oj H
  go_enter Tryz.func174,Tryz.ntmps174
  go_wp2_with (first|((with_reducible refine gD 1 rfl ?_);refine boxW ?_;intro D hg B7 hbox hb;have J:=aK hbox;have B8:=gW HB hg;replace HB:=bS HB hb;clear hb hbox hg;have:=cf5 J)|((with_reducible refine gC 181 rfl ?_);refine goesW Tryz.func181 ?_;(with_reducible refine(impl_RecOk.calls U X Y Z A1 _ _ A2.o).mono ?_);rintro e B9 ⟨rfl,hb⟩;refine⟨_,rfl,?_⟩;replace J:=bv J hb;replace HB:=bS HB hb;(try clear hb)))
  go_ret
  exact⟨fe,bl⟩
def impl_recsText.l0:Nat→ByteArray→List (S161)→Int→Int→Option (ByteArray)
 | 0,_,_,_,_=>none
 |k+1,x3,x6,x7,x8=>if x8<x7 then(if 0≤x8 then(if x8<(x6.length:Int)then((impl_ShowRec.f k ((rd_T161 x6 x8).f0) ((rd_T161 x6 x8).f1) ((rd_T161 x6 x8).f2) ((rd_T161 x6 x8).f3) ((rd_T161 x6 x8).f4)).bind fun AP=>((impl_Frame.f k AP).bind fun Aw=>(if x3.size+Aw.size≤9223372036854775807 then(impl_recsText.l0 k (x3++Aw) x6 x7 (wrap64 (x8+1)))else(none))))else(none))else(none))else(some x3)
def impl_recsText.f (k:Nat) (l0:List (S161)):Option (ByteArray):=impl_recsText.l0 k (⟨#[]⟩:ByteArray) l0 (l0.length:Int) 0
theorem impl_recsText.calls (k:Nat) (A0:Option Addr) (c0:Nat) (l0:List (S161)) (r:ByteArray) (w:World) (AW:Kd.C k161 w A0 l0.length l0) (AX:l0.length≤c0) (h:impl_recsText.f k l0=some r) :
 Calls Tryz.prog 138 #[.slice A0 l0.length c0] w fun e w'=>e = .returned (.string r)∧Below w.heap.size w w':=by
 have AU:=Tryz.underlying161;have Bf:=aK AW;have B_:=aK AX;clear AW AX;have HB:=aK (Below.refl w.heap.size w);have H:=h;unfold impl_recsText.f at H;clear h;have H':=aK H;clear H
 go_enter Tryz.func138,Tryz.ntmps138
 go_wp2
 go_loopg [3,8] k (fun kq v3 v8 w'=>∃(Az:ByteArray) (Ah:Int),v3 = .string Az∧v8 = .int .i64 Ah∧Aside0 (impl_recsText.l0 kq Az l0 (l0.length:Int) Ah=some r)∧Aside0 (kq≤k)∧Aside0 (Below w.heap.size w w'))
 case atStart=>exact⟨((⟨#[]⟩:ByteArray)),(0),fa,fa,H',⟨Nat.le_refl _⟩,⟨bl⟩⟩
 case round=>
  clear H';(try clear c1);obtain⟨Az,Ah,rfl,rfl,HA,AY,HB⟩:=hrel;cases gk with
  |zero=>exact absurd HA.o (by simp[impl_recsText.l0])
  |succ k1=>
   have H:=HA.o;clear HA;simp only[impl_recsText.l0]at H;by_cases c2:Ah<(l0.length:Int)
   ·rw[if_pos c2]at H;have Bn:=dt c2;clear c2;by_cases c3:0≤Ah
    ·rw[if_pos c3]at H;have BH:=dt c3;clear c3;by_cases c4:Ah<(l0.length:Int)
     ·rw[if_pos c4]at H;have BI:=dt c4;clear c4;obtain⟨AP,A5,H⟩:=bd H;obtain⟨Aw,A6,H⟩:=bd H;by_cases c7:Az.size+Aw.size≤9223372036854775807
      ·rw[if_pos c7]at H;have B5:=eq_true c7;have Bk:=dt c7;(try have Bl:(9223372036854775807<Az.size+Aw.size)=False:=eq_false (Nat.not_lt.2 c7));have H':=aK H;clear H;have AL:0≤(Ah:Int):=dT am;have AM:Ah<(l0.length:Int):=dT am;obtain⟨Bo,Bg,As,At,AQ,AR,AS⟩:=at_T161 Bf.o Ah AL AM;cases Bg;replace As:=cz HB As;replace At:=cz HB At;replace AQ:=cz HB AQ;replace AR:=cz HB AR;replace AS:=cz HB AS;replace AL:=eq_true AL;replace AM:=eq_true AM
       go_wp2_with (first|((with_reducible refine gD 5 rfl ?_);refine boxW ?_;intro AZ hg B7 hbox hb;have Au:=aK hbox;have Bp:=gW HB hg;replace HB:=bS HB hb;clear hb hbox hg;have:=cf5 Au)|((with_reducible refine gC 174 rfl ?_);refine goesW Tryz.func174 ?_;(with_reducible refine(impl_ShowRec.calls k1 ((rd_T161 l0 Ah).f0) ((rd_T161 l0 Ah).f1) ((rd_T161 l0 Ah).f2) ((rd_T161 l0 Ah).f3) ((rd_T161 l0 Ah).f4) AP _ A5.o).mono ?_);rintro e B9 ⟨rfl,hb⟩;refine⟨_,rfl,?_⟩;replace Au:=aK (blk_below (g:=AZ) (o:=.cells #[.int .i64 ((rd_T161 l0 Ah).f0),.int .i64 ((rd_T161 l0 Ah).f1),.int .i64 ((rd_T161 l0 Ah).f2),.int .i64 ((rd_T161 l0 Ah).f3),.string ((rd_T161 l0 Ah).f4)] 161 (0,0)) bkk hb);replace HB:=bS HB hb;(try clear hb))|((with_reducible refine gC 144 rfl ?_);refine goesW Tryz.func144 ?_;(with_reducible refine(impl_Frame.calls k1 AP Aw _ A6.o).mono ?_);rintro e Bm ⟨rfl,hb⟩;refine⟨_,rfl,?_⟩;replace Au:=bv Au hb;replace HB:=bS HB hb;(try clear hb)))
       go_roundg k1
       case measure=>have:=AY.o;omega
       case rel=>exact⟨(Az++Aw),(wrap64 (Ah+1)),fa,fa,H',⟨by have:=AY.o;omega⟩,⟨bl⟩⟩
      ·rw[if_neg c7]at H;exact absurd H (by simp)
     ·rw[if_neg c4]at H;exact absurd H (by simp)
    ·rw[if_neg c3]at H;exact absurd H (by simp)
   ·rw[if_neg c2]at H;have Bn:=df c2;clear c2;obtain rfl:=oj H;go_wp2
    go_ret
    exact⟨fe,bl⟩
def impl_entryRecs.l0:Nat→Int→List (S161)→List (S115)→Int→Int→Option ((List (S161)))
 | 0,_,_,_,_,_=>none
 |k+1,x1,x5,x9,Bq,AN=>if AN<Bq then(if 0≤AN then(if AN<(x9.length:Int)then(if x5.length<2932031007402 then(impl_entryRecs.l0 k x1 (x5 ++ [(⟨2,(rd_T115 x9 AN).f0,wrap64 (x1+AN),0,(rd_T115 x9 AN).f1⟩:S161)]) x9 Bq (wrap64 (AN+1)))else(none))else(none))else(none))else(some x5)
def impl_entryRecs.f (k:Nat) (l0:List (S115)) (a1:Int):Option ((List (S161))):=impl_entryRecs.l0 k a1 (([]:List (S161))) l0 (l0.length:Int) 0
theorem impl_entryRecs.calls (k:Nat) (A0:Option Addr) (c0:Nat) (l0:List (S115)) (a1:Int) (r:List (S161)) (w:World) (AW:Kd.C k115 w A0 l0.length l0) (AX:l0.length≤c0) (h:impl_entryRecs.f k l0 a1=some r) :
 Calls Tryz.prog 139 #[.slice A0 l0.length c0,.int .i64 a1] w fun e w'=>∃Br:Value,e = .returned (Br)∧Kd.R k161 161 w' w.heap.size (fun _=>True) Br r∧Below w.heap.size w w':=by
 have BA:=Tryz.underlying115;have AU:=Tryz.underlying161;have Bf:=aK AW;have B_:=aK AX;clear AW AX;have HB:=aK (Below.refl w.heap.size w);have H:=h;unfold impl_entryRecs.f at H;clear h;obtain⟨B6,Ax⟩:∃y_:List (S161),y_=(([]:List (S161))):=⟨_,rfl⟩;replace H:(impl_entryRecs.l0 k a1 B6 l0 (l0.length:Int) 0)=some r:=by first|(rw[Ax];with_reducible exact H)|(have Bh:=(Option.bind_some _ _).symm.trans H;rw[Ax];with_reducible exact Bh)|(have Bh:=(Option.bind_some _ _).symm.trans H;with_reducible exact Bh)|with_reducible exact H|(rw[Ax];exact H)|exact H
 have B0:=aK Ax;clear Ax;have H':=aK H;clear H
 go_enter Tryz.func139,Tryz.ntmps139
 go_wp2_with (first|((with_reducible refine gD 8 rfl ?_);refine Kd.R_lit k161 _ 161 ?hg (N:=8) ?hd (xs:=([]:List (S161))) (inner:=[]) (ok:=fun _=>True) (okp:=fun _=>True) ?hr ?hp (fun _ hk=>hk) trivial (Below.refl _ _) (Nat.le_refl _) (by simp) ?_;(case hd=>rfl);(case hg=>rfl);(case hr=>first|(go_simp;done)|(go_simp;rfl));(case hp=>exact(Reps.none _ _));intro BJ w3 B1 hb hg_ hnew_;clear hg_ hnew_;(first|rw[←B0.o]at B1|(simp only[Int.reduceToNat]at B1;rw[←B0.o]at B1));have Bi:=rl HB B1;replace HB:=bS HB hb;clear hb B1))
 go_loopg [5,11] k (fun kq v5 BB w'=>∃(A_:List (S161)) (A9:Int),BB = .int .i64 A9∧Aside0 (impl_entryRecs.l0 kq a1 A_ l0 (l0.length:Int) A9=some r)∧Aside0 (kq≤k)∧Aside0 (Kd.R k161 161 w' w.heap.size (fun _=>True) v5 A_)∧Aside0 (Below w.heap.size w w'))
 case atStart=>exact⟨(B6),(0),fa,H',⟨Nat.le_refl _⟩,⟨rpR Bi.o⟩,⟨bl⟩⟩
 case round=>
  clear H';(try clear c1);(try clear p2);obtain⟨A_,A9,rfl,HA,AY,AA,HB⟩:=hrel;cases gk with
  |zero=>exact absurd HA.o (by simp[impl_entryRecs.l0])
  |succ k1=>
   have H:=HA.o;clear HA;simp only[impl_entryRecs.l0]at H;by_cases c5:A9<(l0.length:Int)
   ·rw[if_pos c5]at H;have B4:=dt c5;clear c5;by_cases c6:0≤A9
    ·rw[if_pos c6]at H;have BK:=dt c6;clear c6;by_cases c7:A9<(l0.length:Int)
     ·rw[if_pos c7]at H;have B5:=dt c7;clear c7;by_cases c8:A_.length<2932031007402
      ·rw[if_pos c8]at H;have Bs:=aK c8;clear c8;obtain⟨Bt,AO⟩:=yy (A_ ++ [(⟨2,(rd_T115 l0 A9).f0,wrap64 (a1+A9),0,(rd_T115 l0 A9).f1⟩:S161)]);rw[←AO]at H;(try rw[obs]at H)
       have Bj:=aK AO;clear AO;have H':=aK H;clear H;have AL:0≤(A9:Int):=dT am;have AM:A9<(l0.length:Int):=dT am;obtain⟨Bo,Bg,As,At⟩:=at_T115 Bf.o A9 AL AM;cases Bg;replace As:=cz HB As;replace At:=cz HB At;replace AL:=eq_true AL;replace AM:=eq_true AM
       go_wp2_with (first|((with_reducible refine gD 7 rfl ?_);refine boxW ?_;intro AZ hg B7 hbox hb;replace AA:=rb AA hb;have Au:=aK hbox;have Bp:=gW HB hg;replace HB:=bS HB hb;clear hb hbox hg;have:=cf2 Au)|((with_reducible refine gate_builtin (b:=.append) (xs:=#[.tmp 16,.tmp 25]) rfl ?_);at_builtin;refine Kd.R_append k161 (w0:=w) w.heap.size rfl (.tmp 16) (.tmp 25) 165 161 (.agg #[(.int .i64 0),(.int .i64 0),(.int .i64 0),(.int .i64 0),(.string ⟨#[]⟩)]) 48 rfl Tryz.underlying165 info161 rfl (by decide) (by omega) u5 A_ (⟨2,(rd_T115 l0 A9).f0,wrap64 (a1+A9),0,(rd_T115 l0 A9).f1⟩:S161) [.int .i64 2,.int .i64 ((rd_T115 l0 A9).f0),.int .i64 (wrap64 (a1+A9)),.int .i64 0,.string ((rd_T115 l0 A9).f1)] (fun _=>True) (fun _=>False) rfl (by first|(go_simp;done)|(go_simp;rfl)) ?aP (fun _ hk=>hk.elim) ?aF ?aO ?aB ?aS ?aL ?_;(case aP=>exact k161_mkM _ _ _ (⟨2,(rd_T115 l0 A9).f0,wrap64 (a1+A9),0,(rd_T115 l0 A9).f1⟩:S161));(case aB=>exact bl);(case aF=>exact(fun _ _=>trivial));(case aO=>exact(rpR (rM (f2 AA Au) (fun _ hk=>trivial))));(case aS=>exact(below_size bl));(case aL=>have:=Bs.o;omega);intro Ab Bm ho hb hg hat;rw[←Bj.o]at ho;replace Au:=aK (blk_grown (g:=AZ) (o:=.cells #[.int .i64 ((rd_T115 l0 A9).f0),.string ((rd_T115 l0 A9).f1)] 115 (0,0)) bkk hg (Kd.R_ne AA.o Au.o (by decide)));replace HB:=aK (hb);have A3:=aK (ho);clear AA;clear ho hb hg hat))
       go_roundg k1
       case measure=>have:=AY.o;omega
       case rel=>exact⟨(Bt),(wrap64 (A9+1)),fa,H',⟨by have:=AY.o;omega⟩,⟨rpR A3.o⟩,⟨bl⟩⟩
      ·rw[if_neg c8]at H;exact absurd H (by simp)
     ·rw[if_neg c7]at H;exact absurd H (by simp)
    ·rw[if_neg c6]at H;exact absurd H (by simp)
   ·rw[if_neg c5]at H;have B4:=df c5;clear c5;obtain rfl:=oj H;go_wp2
    go_ret
    exact⟨_,fe,rpR AA.o,bl⟩
def impl_WalText.f (k:Nat) (U:Int) (X:Int) (A0:Int) (A7:Int) (J:List (S115)):Option (ByteArray):=(impl_WalOk.f k U X A0 A7 J).bind fun AD=>(if AD=true then((some (([(⟨4,A7,A0,0,(⟨#[]⟩:ByteArray)⟩:S161),(⟨1,U,0,X,(⟨#[]⟩:ByteArray)⟩:S161)]:List (S161)):List (S161))).bind fun Ar=>((impl_entryRecs.f k J (wrap64 (A0+1))).bind fun Af=>(if Ar.length+Af.length<2932031007402 then((impl_recsText.f k (Ar++Af)).bind fun AE=>(some AE))else(none))))else(some (⟨#[]⟩:ByteArray)))
theorem impl_WalText.z1 {p:Prop} (h:p:=by
 go_enter Tryz.func77,Tryz.ntmps77
 go_wp2_with (first|((with_reducible refine gD 1 rfl ?_);refine boxW ?_;intro B6 hg Bb hbox hb;have Z:=aK hbox;have Bl:=gW HB hg;replace HB:=bS HB hb;clear hb hbox hg;have:=cf5 Z)|((with_reducible refine gC 75 rfl ?_);refine goesW Tryz.func75 ?_;(with_reducible refine(impl_WalOk.calls k U X A0 A7 _ _ J _ _ ?_ ?_ A2.o).mono ?_);exact cB Ak HB;exact Al.o;rintro e Bc ⟨rfl,hb⟩;refine⟨_,rfl,?_⟩;replace Z:=bv Z hb;replace HB:=bS HB hb;(try clear hb);have:=cf5 Z)|((with_reducible refine gD 17 rfl ?_);refine Kd.R_lit k161 _ 161 ?hg (N:=17) ?hd (xs:=([(⟨4,A7,A0,0,(⟨#[]⟩:ByteArray)⟩:S161),(⟨1,U,0,X,(⟨#[]⟩:ByteArray)⟩:S161)]:List (S161))) (inner:=[.int .i64 4,.int .i64 A7,.int .i64 A0,.int .i64 0,.string (⟨#[]⟩:ByteArray),.int .i64 1,.int .i64 U,.int .i64 0,.int .i64 X,.string (⟨#[]⟩:ByteArray)]) (ok:=fun _=>True) (okp:=fun _=>True) ?hr ?hp (fun _ hk=>hk) trivial (Below.refl _ _) (Nat.le_refl _) (by simp) ?_;(case hd=>rfl);(case hg=>rfl);(case hr=>first|(go_simp;done)|(go_simp;rfl));(case hp=>exact(Reps.c5 (show Kd.M k161 _ _ _ (⟨4,A7,A0,0,(⟨#[]⟩:ByteArray)⟩:S161) [.int .i64 4,.int .i64 A7,.int .i64 A0,.int .i64 0,.string (⟨#[]⟩:ByteArray)]from(k161_mkM _ _ _ (⟨4,A7,A0,0,(⟨#[]⟩:ByteArray)⟩:S161))) (Reps.c5 (show Kd.M k161 _ _ _ (⟨1,U,0,X,(⟨#[]⟩:ByteArray)⟩:S161) [.int .i64 1,.int .i64 U,.int .i64 0,.int .i64 X,.string (⟨#[]⟩:ByteArray)]from(k161_mkM _ _ _ (⟨1,U,0,X,(⟨#[]⟩:ByteArray)⟩:S161))) (Reps.none _ _))));intro Bd Bm Ag hb hg_ hnew_;clear hg_ hnew_;(first|rw[←AF.o]at Ag|(simp only[Int.reduceToNat]at Ag;rw[←AF.o]at Ag));have Ah:=rl HB Ag;replace Z:=bv Z hb;replace HB:=bS HB hb;clear hb Ag;have:=cf5 Z)|((with_reducible refine gC 139 rfl ?_);refine goesW Tryz.func139 ?_;(with_reducible refine(impl_entryRecs.calls k _ _ J (wrap64 (A0+1)) Af _ ?_ ?_ A4.o).mono ?_);exact cB Ak HB;exact Al.o;rintro e B_ ⟨BA,rfl,AG,hb⟩;refine⟨_,rfl,?_⟩;have Am:=rl HB (Kd.R_new' AG (Kd.R_lt (rpR Ah.o)));replace Ah:=re Ah.o AG hb;replace Z:=bv Z hb;replace HB:=bS HB hb;(try clear hb AG);obtain⟨Be,Bf,rfl⟩:=rs Am)|((with_reducible refine gate_builtin (b:=.append) (xs:=#[.tmp 18,.tmp 24]) rfl ?_);at_builtin;refine Kd.R_append_rows k161 (w0:=w) w.heap.size rfl (.tmp 18) (.tmp 24) 165 161 (.agg #[(.int .i64 0),(.int .i64 0),(.int .i64 0),(.int .i64 0),(.string ⟨#[]⟩)]) 48 rfl Tryz.underlying165 info161 rfl (by decide) (by omega) Bd Ar Af _ _ _ (fun k_=>some k_≠(.slice Be Af.length Bf:Value).ownBlock) (fun _=>False) rfl rfl ?aO ?aR (fun _ _ h=>h) (fun _ h=>h.elim) ?aF ?aB ?aS ?aL ?_;(case aR=>exact ca (cR Am.o));(case aB=>exact bl);(case aF=>exact(fun k_ hk=>Kd.fresh' (Kd.R_lt (rpR Am.o)) k_ hk));(case aO=>exact(rpR (rM Ah.o (fun _ hk=>hk.2))));(case aS=>exact(below_size bl));(case aL=>have:=Bg.o;omega);intro BB BC ho hb hg hat;rw[←B7.o]at ho;replace Z:=aK (blk_grown (g:=B6) (o:=.cells #[.int .i64 U,.int .i64 X,.int .i64 A0,.int .i64 A7,.slice Ai J.length Aj] 52 (0,0)) bk hg (Kd.R_ne Ah.o Z.o (by decide)));replace Am:=aK (Kd.R_after (ok:=(fun _=>True)) (rpR Am.o) hg hat);replace HB:=aK (hb);have At:=aK (ho);clear Ah;clear ho hb hg hat;obtain⟨Bx,By,rfl⟩:=rs At)|((with_reducible refine gC 138 rfl ?_);refine goesW Tryz.func138 ?_;(with_reducible refine(impl_recsText.calls k _ _ Bh AE _ ?_ ?_ A6.o).mono ?_);exact ca (cR At.o);exact cl At;rintro e BD ⟨rfl,hb⟩;refine⟨_,rfl,?_⟩;replace Am:=rb Am hb;replace At:=rb At hb;replace Z:=bv Z hb;replace HB:=bS HB hb;(try clear hb)))
 go_ret
 exact⟨fe,bl⟩):p:=h
theorem impl_WalText.calls (k:Nat) (U:Int) (X:Int) (A0:Int) (A7:Int) (Ai:Option Addr) (Aj:Nat) (J:List (S115)) (r:ByteArray) (w:World) (An:Kd.C k115 w Ai J.length J) (Ao:J.length≤Aj) (h:impl_WalText.f k U X A0 A7 J=some r) :
 Calls Tryz.prog 77 #[.agg #[.int .i64 U,.int .i64 X,.int .i64 A0,.int .i64 A7,.slice Ai J.length Aj]] w fun e w'=>e = .returned (.string r)∧Below w.heap.size w w':=by
 have Bi:=Tryz.underlying52;have Bn:=Tryz.underlying161;have Ak:=aK An;have Al:=aK Ao;clear An Ao;have HB:=aK (Below.refl w.heap.size w);have H:=h;unfold impl_WalText.f at H;clear h;obtain⟨AD,A2,H⟩:=bd H;by_cases c3:AD=true
 ·subst c3;replace H:=iT H;obtain⟨Ar,Au⟩:=yy ([(⟨4,A7,A0,0,(⟨#[]⟩:ByteArray)⟩:S161),(⟨1,U,0,X,(⟨#[]⟩:ByteArray)⟩:S161)]:List (S161));rw[←Au]at H;(try rw[obs]at H)
  have AF:=aK Au;clear Au;obtain⟨Af,A4,H⟩:=bd H;by_cases c5:Ar.length+Af.length<2932031007402
  ·rw[if_pos c5]at H;have Bg:=aK c5;clear c5;obtain⟨Bh,Av⟩:=yy (Ar++Af);rw[←Av]at H;(try rw[obs]at H)
   have B7:=aK Av;clear Av;obtain⟨AE,A6,H⟩:=bd H;obtain rfl:=oj H
   exact impl_WalText.z1
  ·rw[if_neg c5]at H;exact absurd H (by simp)
 ·replace c3:=bF c3;subst c3;replace H:=iF H;obtain rfl:=oj H
  exact impl_WalText.z1
def impl_PlanLog.j0:Nat→Bool→Int→Int→List (S130)→List (S133)→List (S135)→Int→Int→Int→Int→List (S115)→Option ((List (S39)))
 | 0,_,_,_,_,_,_,_,_,_,_,_=>none
 |k+1,Bo,AH,AI,AJ,AK,AL,AM,AN,AO,AP,AQ=>if Bo=true then(some ([]:List (S39)))else((impl_WalText.f k AM AN AO AP AQ).bind fun Aw=>((impl_renewed.f k AH AI AJ AK AL (⟨#[108,111,103,46,110,101,119]⟩:ByteArray) (⟨#[108,111,103]⟩:ByteArray) Aw).bind fun AR=>(some AR)))
def impl_PlanLog.f (k:Nat) (U:Int) (X:Int) (A1:List (S130)) (A3:List (S133)) (J:List (S135)) (A9:Int) (Aa:Int) (Ab:Int) (Ac:Int) (A5:List (S115)):Option ((List (S39))):=(impl_DiskOk.f k U X A1 A3 J).bind fun AS=>(if AS=true then((impl_WalOk.f k A9 Aa Ab Ac A5).bind fun Ax=>(impl_PlanLog.j0 k (!Ax) U X A1 A3 J A9 Aa Ab Ac A5))else(impl_PlanLog.j0 k true U X A1 A3 J A9 Aa Ab Ac A5))
theorem impl_PlanLog.z1 {p:Prop} (h:p:=by
 go_wp2_with (first|((with_reducible refine gC 59 rfl ?_);refine goesW Tryz.func59 ?_;(with_reducible refine(impl_DiskOk.calls k U X _ _ A1 (fun k_=>k_<w.heap.size) _ _ A3 _ _ J _ _ ?_ ?_ ?_ ?_ ?_ A6.o).mono ?_);exact cB AT HB;exact AU.o;exact Kd.V_mk AV.o (Kd.F_below (Kd.C_F k133_heap AW.o) bl);exact cB Ak HB;exact Al.o;rintro e Bb ⟨rfl,hb⟩;refine⟨_,rfl,?_⟩;replace D:=bv D hb;replace Y:=bv Y hb;replace HB:=bS HB hb;(try clear hb);have:=cf5 Y)|(go_at_call 75;(with_reducible refine(impl_WalOk.calls k A9 Aa Ab Ac _ _ A5 Ax _ ?_ ?_ A8.o).mono ?_);exact cB AX HB;exact AY.o;rintro e Bc ⟨rfl,hb⟩;replace D:=bv D hb;replace Y:=bv Y hb;replace HB:=bS HB hb;(try clear hb)))
 (first|(have _:=Bp;go_meet;(case rel=>exact⟨_,(!Ax),fa,H',⟨by first|omega|exact Nat.le_refl _⟩,⟨bw D⟩,⟨bw Y⟩,⟨bl⟩⟩))|(have _:=Bq;go_meet;(case rel=>exact⟨_,(true),fa,H',⟨by first|omega|exact Nat.le_refl _⟩,⟨bw D⟩,⟨bw Y⟩,⟨bl⟩⟩)))):p:=h
theorem impl_PlanLog.calls (k:Nat) (U:Int) (X:Int) (Ay:Option Addr) (Az:Nat) (A1:List (S130)) (A_:Option Addr) (AA:Nat) (A3:List (S133)) (Ai:Option Addr) (Aj:Nat) (J:List (S135)) (A9:Int) (Aa:Int) (Ab:Int) (Ac:Int) (AB:Option Addr) (AC:Nat) (A5:List (S115)) (r:List (S39)) (w:World) (AZ:Kd.C k130 w Ay A1.length A1) (B0:A1.length≤Az) (B1:Kd.C k133 w A_ A3.length A3) (B2:A3.length≤AA) (An:Kd.C k135 w Ai J.length J) (Ao:J.length≤Aj) (B3:Kd.C k115 w AB A5.length A5) (B4:A5.length≤AC) (h:impl_PlanLog.f k U X A1 A3 J A9 Aa Ab Ac A5=some r) :
 Calls Tryz.prog 20 #[.agg #[.int .i64 U,.int .i64 X,.slice Ay A1.length Az,.slice A_ A3.length AA,.slice Ai J.length Aj],.agg #[.int .i64 A9,.int .i64 Aa,.int .i64 Ab,.int .i64 Ac,.slice AB A5.length AC]] w fun e w'=>∃Bj:Value,e = .returned (Bj)∧Kd.R k39 39 w' w.heap.size (fun _=>True) Bj r∧Below w.heap.size w w':=by
 have Bz:=Tryz.underlying35;have Bi:=Tryz.underlying52;have AT:=aK AZ;have AU:=aK B0;clear AZ B0;have AW:=aK B1;have AV:=aK B2;clear B1 B2;have Ak:=aK An;have Al:=aK Ao;clear An Ao;have AX:=aK B3;have AY:=aK B4;clear B3 B4;have HB:=aK (Below.refl w.heap.size w);have H:=h;unfold impl_PlanLog.f at H;clear h;have B8:=aK H;clear H
 go_enter Tryz.func20,Tryz.ntmps20
 go_upto_region 1 with(first|((with_reducible refine gD 2 rfl ?_);refine boxW ?_;intro Ad hg w4 hbox hb;have D:=aK hbox;have Br:=gW HB hg;replace HB:=bS HB hb;clear hb hbox hg)|((with_reducible refine gD 3 rfl ?_);refine boxW ?_;intro Ae hg w5 hbox hb;have Y:=aK hbox;have Bs:=gW HB hg;replace HB:=bS HB hb;have Ap:=nl D hg;have Aq:=nr D hg;replace D:=bv D hb;clear hb hbox hg))
 (try simp only[Act.put,List.setIfInBounds_toArray,List.set_cons_zero,List.set_cons_succ])
 go_cut [12] (fun Bt wc=>∃(kq:Nat) (As:Bool),Bt = .bool As∧Aside0 (impl_PlanLog.j0 kq As U X A1 A3 J A9 Aa Ab Ac A5=some r)∧Aside0 (kq≤k)∧Aside0 (wc.heap[Ad]? = some (.cells #[.int .i64 U,.int .i64 X,(.slice Ay A1.length Az),(.slice A_ A3.length AA),(.slice Ai J.length Aj)] 35 (0,0)))∧Aside0 (wc.heap[Ae]? = some (.cells #[.int .i64 A9,.int .i64 Aa,.int .i64 Ab,.int .i64 Ac,(.slice AB A5.length AC)] 52 (0,0)))∧Aside0 (Below w.heap.size w wc))
 case first=>
  have H:=B8.o;clear B8;obtain⟨AS,A6,H⟩:=bd H;by_cases c7:AS=true
  ·subst c7;replace H:=iT H;obtain⟨Ax,A8,H⟩:=bd H;have H':=aK H;clear H;have B9:=Ap.o;have Ba:=Aq.o;have:=cf5 D;have Bp:=trivial;exact impl_PlanLog.z1
  ·replace c7:=bF c7;subst c7;replace H:=iF H;have H':=aK H;clear H;have B9:=Ap.o;have Ba:=Aq.o;have:=cf5 D;have Bq:=trivial;exact impl_PlanLog.z1
 case rest=>
  clear B8;(try clear c1);(try clear c2);(try clear p2);(try clear c5);(try clear c7);(try clear c9);(try clear BE);obtain⟨kq,As,rfl,HA,BF,D,Y,HB⟩:=hcut;cases kq with
  |zero=>exact absurd HA.o (by simp[impl_PlanLog.j0])
  |succ Bk=>
   have H:=HA.o;clear HA;simp only[impl_PlanLog.j0]at H;by_cases B5:As=true
   ·subst B5;replace H:=iT H;obtain rfl:=oj H;go_wp2
    go_ret
    exact⟨_,fe,by first|exact Kd.R_nil _ _ _ _ _|exact Kd.N_nil _ _ _ _ _|exact Kd.V_nil _ _ _ _ _|exact Kd.Q_nil _ _ _ _ _|exact Kd.S_nil _ _ _ _ _,bl⟩
   ·replace B5:=bF B5;subst B5;replace H:=iF H;obtain⟨Aw,Bu,H⟩:=bd H;obtain⟨AR,Bv,H⟩:=bd H;obtain rfl:=oj H;(try go_wp2);replace D:=dB D;replace Y:=dB Y;replace HB:=dW HB;refine start_ (n:=5) (S:=fun w'=>w'.cell? ⟨Ad,0,none⟩=some (.int .i64 U)∧w'.cell? ⟨Ad,1,none⟩=some (.int .i64 X)∧w'.cell? ⟨Ad,2,none⟩=some (.slice Ay A1.length Az)∧w'.cell? ⟨Ad,3,none⟩=some (.slice A_ A3.length AA)∧w'.cell? ⟨Ad,4,none⟩=some (.slice Ai J.length Aj)∧w'.cell? ⟨Ae,0,none⟩=some (.int .i64 A9)∧w'.cell? ⟨Ae,1,none⟩=some (.int .i64 Aa)∧w'.cell? ⟨Ae,2,none⟩=some (.int .i64 Ab)∧w'.cell? ⟨Ae,3,none⟩=some (.int .i64 Ac)∧w'.cell? ⟨Ae,4,none⟩=some (.slice AB A5.length AC)) (ds:=[]) #[false,false,false,false,false] (by kernel_rfl) rfl rfl hh (fun hHeld=>?_);generalize wc.drew=Bb at D Y HB hHeld ⊢;refine tV 0 13 #[true,false,false,false,false] ?_;refine tV 1 14 #[true,true,false,false,false] ?_;refine o1 2 15 #[true,true,true,false,false] (fun K hK=>?_);refine goesV Tryz.func77 ?_
    (with_reducible refine(impl_WalText.calls Bk A9 Aa Ab Ac _ _ A5 Aw _ ?_ ?_ Bu.o).mono ?_);exact cB AX HB;exact AY.o;rintro e Bc ⟨rfl,hb⟩;refine⟨_,rfl,?_⟩;replace D:=bv D hb;replace Y:=bv Y hb;replace HB:=bS HB hb;(try clear hb Bw hk hi);refine hK.out _ _ hh (fun hHeld=>?_);clear hK K;refine nm 15 ?_;refine o1 3 16 #[true,true,true,true,false] (fun K hK=>?_);refine goesV Tryz.func76 ?_;(with_reducible refine(impl_renewed.calls Bk U X _ _ A1 _ _ A3 _ _ J (⟨#[108,111,103,46,110,101,119]⟩:ByteArray) (⟨#[108,111,103]⟩:ByteArray) Aw AR _ ?_ ?_ ?_ ?_ ?_ ?_ Bv.o).mono ?_);exact cB AT HB;exact AU.o;exact cB AW HB;exact AV.o;exact cB Ak HB;exact Al.o;rintro e Bm ⟨Bd,rfl,Ag,hb⟩;refine⟨_,rfl,?_⟩;have Ah:=rl HB Ag;replace D:=bv D hb;replace Y:=bv Y hb;replace HB:=bS HB hb;(try clear hb Bw hk hi Ag)
    refine hK.out _ _ hh (fun hHeld=>?_);clear hK K;refine nm 16 ?_;refine pV 4 4 #[true,true,true,true,true] ?_;refine done_ (by kernel_rfl) ?_;(try go_wp2)
    go_ret
    exact⟨_,fe,rpR Ah.o,bl⟩
def laws_eqEntry.f (Z:Int) (A2:ByteArray) (A8:Int) (A9:ByteArray):Option (Bool):=if Z=A8 then(if A2.toList=A9.toList then(some true)else(some false))else(some false)
theorem laws_eqEntry.z1 {p:Prop} (h:p:=by
 go_enter Tryz.func140,Tryz.ntmps140
 go_wp2_with (first|((with_reducible refine gD 2 rfl ?_);refine boxW ?_;intro C9 hg Ca hbox hb;have Ao:=aK hbox;have Cb:=gW HB hg;replace HB:=bS HB hb;clear hb hbox hg)|((with_reducible refine gD 3 rfl ?_);refine boxW ?_;intro Cc hg AK hbox hb;have Bp:=aK hbox;have Cd:=gW HB hg;replace HB:=bS HB hb;have A_:=nl Ao hg;have AA:=nr Ao hg;replace Ao:=bv Ao hb;clear hb hbox hg;have Bq:=A_.o;have Br:=AA.o;have:=cf2 Ao;have:=cf2 Bp))
 go_ret
 exact⟨fe,bl⟩):p:=h
theorem laws_eqEntry.calls (Z:Int) (A2:ByteArray) (A8:Int) (A9:ByteArray) (r:Bool) (w:World) (h:laws_eqEntry.f Z A2 A8 A9=some r) :
 Calls Tryz.prog 140 #[.agg #[.int .i64 Z,.string A2],.agg #[.int .i64 A8,.string A9]] w fun e w'=>e = .returned (.bool r)∧Below w.heap.size w w':=by
 have Bs:=Tryz.underlying115;have HB:=aK (Below.refl w.heap.size w);have H:=h;unfold laws_eqEntry.f at H;clear h;by_cases c3:Z=A8
 ·rw[if_pos c3]at H;have Al:=bT c3;have Ap:=bE c3;clear c3;by_cases c4:A2.toList=A9.toList
  ·rw[if_pos c4]at H;have Aq:=bT c4;have AL:=bE c4;clear c4;obtain rfl:=oj H
   exact laws_eqEntry.z1
  ·rw[if_neg c4]at H;have Aq:=bN c4;have AL:=bQ c4;obtain rfl:=oj H
   exact laws_eqEntry.z1
 ·rw[if_neg c3]at H;have Al:=bN c3;have Ap:=bQ c3;obtain rfl:=oj H
  exact laws_eqEntry.z1
def laws_eqEntryS.l0:Nat→List (S115)→List (S115)→Int→Option (Bool)
 | 0,_,_,_=>none
 |k+1,x0,x1,x5=>if x5<(x0.length:Int)then(if 0≤x5 then(if x5<(x1.length:Int)then((laws_eqEntry.f ((rd_T115 x0 x5).f0) ((rd_T115 x0 x5).f1) ((rd_T115 x1 x5).f0) ((rd_T115 x1 x5).f1)).bind fun AM=>(if AM=true then(laws_eqEntryS.l0 k x0 x1 (wrap64 (x5+1)))else(some false)))else(none))else(none))else(some true)
def laws_eqEntryS.f (k:Nat) (l0:List (S115)) (l1:List (S115)):Option (Bool):=if(l0.length:Int)=(l1.length:Int)then(laws_eqEntryS.l0 k l0 l1 0)else(some false)
def laws_eqEntryS.T6:Bool×List (List Nat×List Nat):=(true,[([],[]),([],[]),([0,1],[0,1]),([2],[2]),([],[]),([],[]),([4,5],[4,5]),([6],[6]),([3,7],[3,7]),([8],[8])])
def laws_eqEntryS.B6:List Nat:=[0,0,3,7,0,0,48,112,255,511]
theorem laws_eqEntryS.tab6:rtab .any (opsOf Tryz.f79 6)=laws_eqEntryS.T6:=by kernel_rfl
theorem laws_eqEntryS.bits6:waitsOk laws_eqEntryS.T6.2 laws_eqEntryS.B6=true:=by kernel_rfl
theorem laws_eqEntryS.calls (k:Nat) (A0:Option Addr) (c0:Nat) (l0:List (S115)) (A1:Option Addr) (c1:Nat) (l1:List (S115)) (r:Bool) (w:World) (BH:Kd.C k115 w A0 l0.length l0) (BI:l0.length≤c0) (BJ:Kd.C k115 w A1 l1.length l1) (BK:l1.length≤c1) (h:laws_eqEntryS.f k l0 l1=some r) :
 Calls Tryz.prog 79 #[.slice A0 l0.length c0,.slice A1 l1.length c1] w fun e w'=>e = .returned (.bool r)∧Below w.heap.size w w':=by
 have Bs:=Tryz.underlying115;have Ce:=aK BH;have Cw:=aK BI;clear BH BI;have Cf:=aK BJ;have Cx:=aK BK;clear BJ BK;have HB:=aK (Below.refl w.heap.size w);have H:=h;unfold laws_eqEntryS.f at H;clear h;by_cases c3:(l0.length:Int)=(l1.length:Int)
 ·rw[if_pos c3]at H;have Al:=bT c3;have Ap:=bE c3;have Bc:(l0.length==l1.length)=true:=by first|simpa using c3|(simp at c3 ⊢;omega)
  clear c3;have H':=aK H;clear H
  go_enter Tryz.func79,Tryz.ntmps79
  go_wp2
  go_loopg [5] k (fun kq v5 w'=>∃(D:Int),v5 = .int .i64 D∧Aside0 (laws_eqEntryS.l0 kq l0 l1 D=some r)∧Aside0 (kq≤k)∧Aside0 (Below w.heap.size w w'))
  case atStart=>exact⟨(0),fa,H',⟨Nat.le_refl _⟩,⟨bl⟩⟩
  case round=>
   clear H';(try clear c1);(try clear p2);(try clear c3);(try clear Al);(try clear Ap);(try clear Bc);obtain⟨D,rfl,HA,AN,HB⟩:=hrel;cases gk with
   |zero=>exact absurd HA.o (by simp[laws_eqEntryS.l0])
   |succ k1=>
    have H:=HA.o;clear HA;simp only[laws_eqEntryS.l0]at H;by_cases c4:D<(l0.length:Int)
    ·rw[if_pos c4]at H;have Aq:=dt c4;clear c4;by_cases c5:0≤D
     ·rw[if_pos c5]at H;have Bd:=dt c5;clear c5;have Hq_:=aK H;clear H;(try go_wp2);replace HB:=dW HB;have AO:0≤(D:Int):=dT am;have AP:D<(l0.length:Int):=dT am;obtain⟨AB,BL,Af,Ag⟩:=at_T115 Ce.o D AO AP;have As:=Ag;have At:=Af;cases BL;replace Af:=cz HB Af;replace Ag:=cz HB Ag;replace AO:=eq_true AO;replace AP:=eq_true AP;have AQ:0≤(D:Int):=dT am;have H:=Hq_.o;clear Hq_;by_cases c6:D<(l1.length:Int)
      ·rw[if_pos c6]at H;have AR:=dt c6;(try rw[AR]);clear c6;obtain⟨AM,A7,H⟩:=bd H;have Hq_:=aK H;clear H;have AS:D<(l1.length:Int):=dT am;obtain⟨AC,BM,Ah,Ai⟩:=at_T115 Cf.o D AQ AS;have Au:=Ai;have Av:=Ah;cases BM;replace Ah:=cz HB Ah;replace Ai:=cz HB Ai;replace AQ:=eq_true AQ;replace AS:=eq_true AS;refine start_ (n:=10) (S:=fun w'=>w'.cell? (AB.add ((D).toNat*2))=some (.int .i64 ((rd_T115 l0 D).f0))∧w'.cell? ⟨(AB.add ((D).toNat*2)).block,(AB.add ((D).toNat*2)).off+1,none⟩=some (.string ((rd_T115 l0 D).f1))∧w'.cell? (AC.add ((D).toNat*2))=some (.int .i64 ((rd_T115 l1 D).f0))∧w'.cell? ⟨(AC.add ((D).toNat*2)).block,(AC.add ((D).toNat*2)).off+1,none⟩=some (.string ((rd_T115 l1 D).f1))) (ds:=[]) (bo 10 0) (by kernel_rfl) rfl rfl ⟨(cy HB At),(cy HB As),(cy HB Av),(cy HB Au)⟩ (fun hHeld=>?_);refine with_tabW laws_eqEntryS.tab6 laws_eqEntryS.bits6 (fun HT_ HW_=>?_);generalize wr.drew=Cy at HB Af Ag Ah Ai hHeld ⊢;refine pV 0 17 (bo 10 1) ?_;refine pV 1 18 (bo 10 3) ?_;refine pV 2 19 (bo 10 7) ?_;refine pV 4 21 (bo 10 23) ?_;refine pV 5 22 (bo 10 55) ?_;refine pV 6 23 (bo 10 119) ?_;refine tV 3 20 (bo 10 127) ?_;refine tV 7 24 (bo 10 255) ?_
       refine o1 8 25 (bo 10 511) (fun K hK=>?_);refine goesV Tryz.func140 ?_;(with_reducible refine(laws_eqEntry.calls ((rd_T115 l0 D).f0) ((rd_T115 l0 D).f1) ((rd_T115 l1 D).f0) ((rd_T115 l1 D).f1) _ _ A7.o).mono ?_);rintro e Cz ⟨rfl,hb⟩;refine⟨_,rfl,?_⟩;replace HB:=bS HB hb;(try clear hb C_ hk hi);refine hK.out _ _ ⟨(cy HB At),(cy HB As),(cy HB Av),(cy HB Au)⟩ (fun hHeld=>?_);clear hK K;refine nm 25 ?_;refine pV 9 26 (bo 10 1023) ?_;have H:=Hq_.o;clear Hq_;by_cases c8:AM=true
       ·subst c8;replace H:=iT H;have H':=aK H;clear H;refine done_ (done_of HT_.o (by kernel_rfl)) ?_;(try go_wp2)
        go_roundg k1
        case measure=>have:=AN.o;omega
        case rel=>exact⟨(wrap64 (D+1)),fa,H',⟨by have:=AN.o;omega⟩,⟨bl⟩⟩
       ·replace c8:=bF c8;subst c8;replace H:=iF H;obtain rfl:=oj H;refine done_ (done_of HT_.o (by kernel_rfl)) ?_;(try go_wp2)
        go_ret
        exact⟨fe,bl⟩
      ·rw[if_neg c6]at H;exact absurd H (by simp)
     ·rw[if_neg c5]at H;exact absurd H (by simp)
    ·rw[if_neg c4]at H;have Aq:=df c4;clear c4;obtain rfl:=oj H;go_wp2
     go_ret
     exact⟨fe,bl⟩
 ·rw[if_neg c3]at H;have Al:=bN c3;have Ap:=bQ c3;have Bc:(l0.length==l1.length)=false:=by first|simpa using c3|(simp at c3 ⊢;omega)
  obtain rfl:=oj H
  go_enter Tryz.func79,Tryz.ntmps79
  go_wp2
  go_ret
  exact⟨fe,bl⟩
def laws_eqWal.f (k:Nat) (Z:Int) (A2:Int) (Aj:Int) (Ak:Int) (Y:List (S115)) (A8:Int) (A9:Int) (Aw:Int) (Ax:Int) (Am:List (S115)):Option (Bool):=if Z=A8 then(if A2=A9 then(if Aj=Aw then(if Ak=Ax then((laws_eqEntryS.f k Y Am).bind fun AT=>(if AT=true then(some true)else(some false)))else(some false))else(some false))else(some false))else(some false)
theorem laws_eqWal.z1 {p:Prop} (h:p:=by
 go_enter Tryz.func22,Tryz.ntmps22
 go_wp2_with (first|((with_reducible refine gD 2 rfl ?_);refine boxW ?_;intro Cg hg Ca hbox hb;have Ad:=aK hbox;have Ch:=gW HB hg;replace HB:=bS HB hb;clear hb hbox hg)|((with_reducible refine gD 3 rfl ?_);refine boxW ?_;intro Ci hg AK hbox hb;have AD:=aK hbox;have Cj:=gW HB hg;replace HB:=bS HB hb;have AE:=nl Ad hg;have AF:=nr Ad hg;replace Ad:=bv Ad hb;clear hb hbox hg;have Bq:=AE.o;have Br:=AF.o;have:=cf5 Ad;have:=cf5 AD)|((with_reducible refine gC 79 rfl ?_);refine goesW Tryz.func79 ?_;(with_reducible refine(laws_eqEntryS.calls k _ _ Y _ _ Am _ _ ?_ ?_ ?_ ?_ A7.o).mono ?_);exact cB Bt HB;exact Bu.o;exact cB Bv HB;exact Bw.o;rintro e Ay ⟨rfl,hb⟩;refine⟨_,rfl,?_⟩;replace Ad:=bv Ad hb;replace AD:=bv AD hb;replace HB:=bS HB hb;(try clear hb)))
 go_ret
 exact⟨fe,bl⟩):p:=h
theorem laws_eqWal.calls (k:Nat) (Z:Int) (A2:Int) (Aj:Int) (Ak:Int) (Be:Option Addr) (Bf:Nat) (Y:List (S115)) (A8:Int) (A9:Int) (Aw:Int) (Ax:Int) (Bg:Option Addr) (Bh:Nat) (Am:List (S115)) (r:Bool) (w:World) (AU:Kd.C k115 w Be Y.length Y) (AV:Y.length≤Bf) (AW:Kd.C k115 w Bg Am.length Am) (AX:Am.length≤Bh) (h:laws_eqWal.f k Z A2 Aj Ak Y A8 A9 Aw Ax Am=some r) :
 Calls Tryz.prog 22 #[.agg #[.int .i64 Z,.int .i64 A2,.int .i64 Aj,.int .i64 Ak,.slice Be Y.length Bf],.agg #[.int .i64 A8,.int .i64 A9,.int .i64 Aw,.int .i64 Ax,.slice Bg Am.length Bh]] w fun e w'=>e = .returned (.bool r)∧Below w.heap.size w w':=by
 have BN:=Tryz.underlying52;have Bt:=aK AU;have Bu:=aK AV;clear AU AV;have Bv:=aK AW;have Bw:=aK AX;clear AW AX;have HB:=aK (Below.refl w.heap.size w);have H:=h;unfold laws_eqWal.f at H;clear h;by_cases c3:Z=A8
 ·rw[if_pos c3]at H;have Al:=bT c3;have Ap:=bE c3;clear c3;by_cases c4:A2=A9
  ·rw[if_pos c4]at H;have Aq:=bT c4;have AL:=bE c4;clear c4;by_cases c5:Aj=Aw
   ·rw[if_pos c5]at H;have Bd:=bT c5;have BO:=bE c5;clear c5;by_cases c6:Ak=Ax
    ·rw[if_pos c6]at H;have AR:=bT c6;have BP:=bE c6;clear c6;obtain⟨AT,A7,H⟩:=bd H;by_cases c8:AT=true
     ·subst c8;replace H:=iT H;obtain rfl:=oj H
      exact laws_eqWal.z1
     ·replace c8:=bF c8;subst c8;replace H:=iF H;obtain rfl:=oj H
      exact laws_eqWal.z1
    ·rw[if_neg c6]at H;have AR:=bN c6;have BP:=bQ c6;obtain rfl:=oj H
     exact laws_eqWal.z1
   ·rw[if_neg c5]at H;have Bd:=bN c5;have BO:=bQ c5;obtain rfl:=oj H
    exact laws_eqWal.z1
  ·rw[if_neg c4]at H;have Aq:=bN c4;have AL:=bQ c4;obtain rfl:=oj H
   exact laws_eqWal.z1
 ·rw[if_neg c3]at H;have Al:=bN c3;have Ap:=bQ c3;obtain rfl:=oj H
  exact laws_eqWal.z1
def laws_markEntryS.l0:Nat→List (S115)→Int→Int→Option (Int×(List (S115)))
 | 0,_,_,_=>none
 |k+1,x0,x1,x5=>if x5<(x0.length:Int)then(if 0≤x5 then((some (x0.set (x5:Int).toNat (⟨x1,(rd_T115 x0 x5).f1⟩:S115):List (S115))).bind fun Aa=>((laws_markText.f k (wrap64 (x1+1))).bind fun An=>(laws_markEntryS.l0 k (Aa.set (x5:Int).toNat (⟨(rd_T115 Aa x5).f0,An⟩:S115)) (wrap64 ((wrap64 (x1+1))+1)) (wrap64 (x5+1)))))else(none))else(some (x1,x0))
def laws_markEntryS.f (k:Nat) (l0:List (S115)) (a1:Int):Option (Int×(List (S115))):=laws_markEntryS.l0 k l0 a1 0
theorem laws_markEntryS.calls (k:Nat) (Ae:Nat→Prop) (X:Value) (l0:List (S115)) (a1:Int) (r1:Int) (r2:List (S115)) (w0 w:World) (hB:Below w0.heap.size w0 w) (Ck:Kd.R k115 115 w w0.heap.size Ae X l0) (h:laws_markEntryS.f k l0 a1=some (r1,r2)) :
 Calls Tryz.prog 80 #[X,.int .i64 a1] w fun e w'=>e = .returned (.int .i64 r1)∧Kd.R k115 115 w' w0.heap.size (fun k_=>(Ae k_∨w.heap.size≤k_)) X r2∧Below w0.heap.size w0 w'∧Kept w w' (fun k_=>Ae k_):=by
 have Cl:=aK (show Kd.R k115 115 w w0.heap.size (fun k_=>(Ae k_∨w.heap.size≤k_)) X l0 from rM Ck (fun k_ hk=>(.inl hk)));have HK:=aK (Kept.refl w (fun k_=>Ae k_));have Cm:=aK hB.size;have HB:=aK hB;clear hB;have H:=h;unfold laws_markEntryS.f at H;clear h;have H':=aK H;clear H
 go_enter Tryz.func80,Tryz.ntmps80
 go_wp2
 go_loopg [1,5] k (fun kq v1 v5 w'=>∃(J:List (S115)) (Ac:Int) (D:Int),v1 = .int .i64 Ac∧v5 = .int .i64 D∧Aside0 (laws_markEntryS.l0 kq J Ac D=some (r1,r2))∧Aside0 (kq≤k)∧Aside0 (Kd.R k115 115 w' w0.heap.size (fun k_=>(Ae k_∨w.heap.size≤k_)) X J)∧Aside0 (Kept w w' (fun k_=>Ae k_))∧Aside0 (Below w0.heap.size w0 w'))
 case atStart=>exact⟨(l0),(a1),(0),fa,fa,H',⟨Nat.le_refl _⟩,⟨rpR Cl.o⟩,⟨by repeat (first|(with_reducible first|exact HK.o|apply Kept.alloc|apply Kept.drewN|apply Kept.drew)|exact HK.o)⟩,⟨bl⟩⟩
 case round=>
  clear H';(try clear p2);obtain⟨J,Ac,D,rfl,rfl,HA,AN,U,HK,HB⟩:=hrel;cases gk with
  |zero=>exact absurd HA.o (by simp[laws_markEntryS.l0])
  |succ k1=>
   have H:=HA.o;clear HA;simp only[laws_markEntryS.l0]at H;by_cases c3:D<(J.length:Int)
   ·rw[if_pos c3]at H;have Al:=dt c3;clear c3;by_cases c4:0≤D
    ·rw[if_pos c4]at H;have Aq:=dt c4;clear c4;obtain⟨Aa,AG⟩:=yy (J.set (D:Int).toNat (⟨Ac,(rd_T115 J D).f1⟩:S115));rw[←AG]at H;(try rw[obs]at H)
     have Bx:=aK AG;clear AG;obtain⟨An,A6,H⟩:=bd H;obtain⟨Bi,AH⟩:=yy (Aa.set (D:Int).toNat (⟨(rd_T115 Aa D).f0,An⟩:S115));rw[←AH]at H;(try rw[obs]at H)
     have By:=aK AH;clear AH;have H':=aK H;clear H;obtain⟨BQ,Az,AY⟩:=rs U;subst AY;have Bz:0≤(D:Int):=dT am;have B_:(D:Int)<((J.length:Int):Int):=dT am;obtain⟨A5,Cu,Bj,Bk,Cn,CA,BR⟩:=Kd.R_form U.o (by omega);(first|cases Bj|(injection Bj with ea_ en_ ec_;(first|subst ea_|(injection ea_ with ea_;subst ea_));subst ec_;clear en_));have BS:=aK Bk;have CB:=aK BR;clear Bk Cn BR;have Co:=aK (show(Ae A5∨w.heap.size≤A5)from(U.out.1 _ rfl));obtain⟨CC,BT,BU,AZ,B0⟩:=Kd.R_elem U.o z115 (D:Int) Bz B_;obtain rfl:=k115_openM BU;have C5:wr.cell? ⟨A5,(D:Int).toNat*2,none⟩=some (.int .i64 ((rd_T115 J D).f0)):=AZ 0 _ rfl;have C6:wr.cell? ⟨A5,(D:Int).toNat*2+1,none⟩=some (.string ((rd_T115 J D).f1)):=AZ 1 _ rfl;have Cp:wr.frozen? ⟨A5,(D:Int).toNat*2,none⟩=false:=B0 0;have Cq:wr.frozen? ⟨A5,(D:Int).toNat*2+1,none⟩=false:=B0 1;clear BT AZ B0 BU;replace Bz:=eq_true Bz;replace B_:=eq_true B_;have BV:=aK (show Kd.R k115 115 wr w0.heap.size (fun k_=>(Ae k_∨w.heap.size≤k_)) (.slice (some ⟨A5,0,none⟩) J.length Az) J from(rpR U.o))
     obtain⟨CD,Bl,BW,B1,Bm⟩:=Kd.R_elem BV.o z115 (D:Int) (dT am) (by have h_:(D:Int)<((J.length:Int):Int):=dT am;first|exact h_|(have e_:=(Kd.R_reads' U.o).1;omega)|simpa using h_);obtain rfl:=k115_openM BW;have BA:=Kd.R_seg BV.o (D:Int) (dT am) (by have h_:(D:Int)<((J.length:Int):Int):=dT am;first|exact h_|(have e_:=(Kd.R_reads' U.o).1;omega)|simpa using h_) (seg:=[.int .i64 Ac]) (j:=0) Bl B1 (show 1≤2 from by decide) (x':=(⟨Ac,(rd_T115 J D).f1⟩:S115)) (k115_mkM _ _ _ (⟨Ac,(rd_T115 J D).f1⟩:S115)) (fun _ hk=>hk);have B9:=B1 0 _ rfl;(try simp only[show(k115).sz=2 from rfl,Nat.mul_one,Nat.add_zero]at B9);have BB:=Bm 0;(try simp only[show(k115).sz=2 from rfl,Nat.mul_one,Nat.add_zero]at BB);clear Bl B1 Bm BW
     go_wp2_with (first|((with_reducible refine gate_store (t:=3) (p:=16) rfl ?_);refine store_event (t:=3) (p:=16) (v:=?vo_w10) (w1:=(wr.setCell ⟨A5,(D:Int).toNat*2,none⟩ (.int .i64 Ac))) ?hg ?ho ?hn ?hr ?_;(case ho=>rfl);(case hg=>rfl);(case hn=>rfl);(case hr=>first|(go_simp;done)|(go_simp;rfl));intro AK hw;have hg:wr.grownBy AK (some A5):=(by rw[hw];exact BA.2);have hp_:Kd.R k115 115 AK w0.heap.size (fun k_=>(Ae k_∨w.heap.size≤k_)) (.slice (some ⟨A5,0,none⟩) J.length Az) Aa:=(by rw[hw,Bx.o];exact BA.1);clear BA;replace HB:=aK ((by rw[hw];exact below_set (HB.o) BS.o:Below w0.heap.size w0 AK));replace HK:=aK (Kept.of_grown (S:=(fun k_=>Ae k_)) hg (by repeat (first|(with_reducible first|exact HK.o|apply Kept.alloc|apply Kept.drewN|apply Kept.drew)|exact HK.o)) (fun k_ e_=>(U.out.1 k_ e_)));replace U:=aK (hp_);clear hg hw hp_)|((with_reducible refine gC 81 rfl ?_);refine goesW Tryz.func81 ?_;(with_reducible refine(laws_markText.calls k1 (wrap64 (Ac+1)) An _ A6.o).mono ?_);rintro e Ay ⟨rfl,hb⟩;refine⟨_,rfl,?_⟩;replace U:=rb U hb;replace HK:=aK (Kept.below (S:=(fun k_=>Ae k_)) (by repeat (first|(with_reducible first|exact HK.o|apply Kept.alloc|apply Kept.drewN|apply Kept.drew)|exact HK.o)) hb);replace HB:=bs (w:=w0) hb;(try clear hb);have BC:0≤(D:Int):=dT am;have BD:(D:Int)<((J.length:Int):Int):=dT am;obtain⟨CE,BX,BY,B2,B3⟩:=Kd.R_elem U.o z115 (D:Int) BC BD;obtain rfl:=k115_openM BY;have C7:Ay.cell? ⟨A5,(D:Int).toNat*2,none⟩=some (.int .i64 ((rd_T115 Aa D).f0)):=B2 0 _ rfl;have C8:Ay.cell? ⟨A5,(D:Int).toNat*2+1,none⟩=some (.string ((rd_T115 Aa D).f1)):=B2 1 _ rfl;have Cr:Ay.frozen? ⟨A5,(D:Int).toNat*2,none⟩=false:=B3 0;have Cs:Ay.frozen? ⟨A5,(D:Int).toNat*2+1,none⟩=false:=B3 1;clear BX B2 B3 BY;replace BC:=eq_true BC;replace BD:=eq_true BD;have Bn:=aK (show Kd.R k115 115 Ay w0.heap.size (fun k_=>(Ae k_∨w.heap.size≤k_)) (.slice (some ⟨A5,0,none⟩) J.length Az) Aa from(rpR U.o));obtain⟨Cv,B4,Bo,AI,B5⟩:=Kd.R_elem Bn.o z115 (D:Int) (dT am) (by have h_:(D:Int)<((J.length:Int):Int):=dT am;first|exact h_|(have e_:=(Kd.R_reads' U.o).1;omega)|simpa using h_);obtain rfl:=k115_openM Bo;have B7:=Kd.R_seg Bn.o (D:Int) (dT am) (by have h_:(D:Int)<((J.length:Int):Int):=dT am;first|exact h_|(have e_:=(Kd.R_reads' U.o).1;omega)|simpa using h_) (seg:=[.string An]) (j:=1) B4 AI (show 2≤2 from by decide) (x':=(⟨(rd_T115 Aa D).f0,An⟩:S115)) (k115_mkM _ _ _ (⟨(rd_T115 Aa D).f0,An⟩:S115)) (fun _ hk=>hk);have Ba:=AI 1 _ rfl;(try simp only[show(k115).sz=2 from rfl,Nat.mul_one,Nat.add_zero]at Ba);have Bb:=B5 1;(try simp only[show(k115).sz=2 from rfl,Nat.mul_one,Nat.add_zero]at Bb);clear B4 AI B5 Bo)|((with_reducible refine gate_store (t:=9) (p:=24) rfl ?_);refine store_event (t:=9) (p:=24) (v:=?vo_w13) (w1:=(Ay.setCell ⟨A5,(D:Int).toNat*2+1,none⟩ (.string An))) ?hg ?ho ?hn ?hr ?_;(case ho=>rfl);(case hg=>rfl);(case hn=>rfl);(case hr=>first|(go_simp;done)|(go_simp;rfl));intro BE hw;have hg:Ay.grownBy BE (some A5):=(by rw[hw];exact B7.2);have hp_:Kd.R k115 115 BE w0.heap.size (fun k_=>(Ae k_∨w.heap.size≤k_)) (.slice (some ⟨A5,0,none⟩) J.length Az) Bi:=(by rw[hw,By.o];exact B7.1);clear B7;replace HB:=aK ((by rw[hw];exact below_set (HB.o) BS.o:Below w0.heap.size w0 BE));replace HK:=aK (Kept.of_grown (S:=(fun k_=>Ae k_)) hg (by repeat (first|(with_reducible first|exact HK.o|apply Kept.alloc|apply Kept.drewN|apply Kept.drew)|exact HK.o)) (fun k_ e_=>(U.out.1 k_ e_)));replace U:=aK (hp_);clear hg hw hp_))
     go_roundg k1
     case measure=>have:=AN.o;omega
     case rel=>exact⟨(Bi),(wrap64 ((wrap64 (Ac+1))+1)),(wrap64 (D+1)),fa,fa,H',⟨by have:=AN.o;omega⟩,⟨rpR U.o⟩,⟨by repeat (first|(with_reducible first|exact HK.o|apply Kept.alloc|apply Kept.drewN|apply Kept.drew)|exact HK.o)⟩,⟨bl⟩⟩
    ·rw[if_neg c4]at H;exact absurd H (by simp)
   ·rw[if_neg c3]at H;have Al:=df c3;clear c3;simp only[Option.some.injEq,Prod.mk.injEq]at H;obtain⟨rfl,rfl⟩:=H;obtain⟨BQ,Az,AY⟩:=rs U;subst AY;go_wp2
    go_ret
    exact⟨fe,rpR U.o,bl,by repeat (first|(with_reducible first|exact HK.o|apply Kept.alloc|apply Kept.drewN|apply Kept.drew)|exact HK.o)⟩
def laws_markWal.f (k:Nat) (Z:Int) (A2:Int) (Aj:Int) (Ak:Int) (Y:List (S115)) (a1:Int):Option (Int×(List (S115))):=(laws_markEntryS.f k Y a1).bind fun B8=>(some (B8.1,B8.2))
theorem laws_markWal.calls (k:Nat) (Z:Int) (A2:Int) (Aj:Int) (Ak:Int) (Ab:Nat→Prop) (X:Value) (Y:List (S115)) (a1:Int) (r1:Int) (r2:List (S115)) (w0 w:World) (hB:Below w0.heap.size w0 w) (BF:Kd.R k115 115 w w0.heap.size Ab X Y) (h:laws_markWal.f k Z A2 Aj Ak Y a1=some (r1,r2)) :
 Calls Tryz.prog 23 #[.agg #[.int .i64 Z,.int .i64 A2,.int .i64 Aj,.int .i64 Ak,X],.int .i64 a1] w fun e w'=>e = .returned (.int .i64 r1)∧Kd.R k115 115 w' w0.heap.size (fun k_=>(Ab k_∨w.heap.size≤k_)) X r2∧Below w0.heap.size w0 w'∧Kept w w' (fun k_=>Ab k_):=by
 have BN:=Tryz.underlying52;have A4:=aK (show Kd.R k115 115 w w0.heap.size (fun k_=>(Ab k_∨w.heap.size≤k_)) X Y from rM BF (fun k_ hk=>(.inl hk)));have HK:=aK (Kept.refl w (fun k_=>Ab k_));have Cm:=aK hB.size;have HB:=aK hB;clear hB;have H:=h;unfold laws_markWal.f at H;clear h;replace H:=oB H;obtain⟨⟨BZ,C0⟩,C1,H⟩:=H;dsimp only at H;have A3:=aK C1;clear C1;simp only[Option.some.injEq,Prod.mk.injEq]at H;obtain⟨rfl,rfl⟩:=H;obtain⟨C2,C3,Ct⟩:=rs A4;subst Ct
 go_enter Tryz.func23,Tryz.ntmps23
 go_wp2_with (first|((with_reducible refine gD 2 rfl ?_);refine boxW ?_;intro BG hg w5 hbox hb;replace A4:=rb A4 hb;have AJ:=aK hbox;have Ar:=aK ((by rw[hg];exact(by first|exact HK.out.1|exact(show Kept w _ (fun k_=>Ab k_)from by repeat (first|(with_reducible first|exact HK.o|apply Kept.alloc|apply Kept.drewN|apply Kept.drew)|exact HK.o)).1):w.heap.size≤BG));replace HK:=aK (Kept.below (S:=(fun k_=>Ab k_)) (by repeat (first|(with_reducible first|exact HK.o|apply Kept.alloc|apply Kept.drewN|apply Kept.drew)|exact HK.o)) hb);have Ar:=gw (w:=w0) hg;replace HB:=bs (w:=w0) hb;clear hb hbox hg;have:=cf5 AJ)|((with_reducible refine gC 80 rfl ?_);refine goesW Tryz.func80 ?_;(with_reducible refine(laws_markEntryS.calls k (fun k_=>some k_=(.slice C2 Y.length C3:Value).ownBlock) (.slice C2 Y.length C3) Y a1 BZ C0 w0 _ ?_ ?_ A3.o).mono ?_);repeat (first|(with_reducible first|exact HB.o|apply below_alloc|apply pw_below_drewN|apply below_drew1|refine below_set ?_ Ar.o)|exact HB.o);exact Kd.R_tight rfl A4.o;rintro e w7 ⟨rfl,C4,hb,hkp⟩;refine⟨_,rfl,?_⟩;replace AJ:=aK (blk_kept bk hkp (fun hs_=>(fun e_=>(Kd.R_ne A4.o AJ.o (by decide)) e_) hs_));replace HK:=aK (Kept.then_ (S:=(fun k_=>Ab k_)) (by repeat (first|(with_reducible first|exact HK.o|apply Kept.alloc|apply Kept.drewN|apply Kept.drew|refine Kept.setCell ?_ (.inr Ar.o) _)|exact HK.o)) hkp (fun k_ hs_=>(fun e_=>(A4.out.1 k_ e_.symm)) hs_));replace A4:=aK (Kd.R_reok rfl C4 (fun k_ e_=>A4.out.1 k_ e_));replace HB:=aK (hb);(try clear hb hkp C4)))
 go_ret
 exact⟨fe,rpR A4.o,bl,by repeat (first|(with_reducible first|exact HK.o|apply Kept.alloc|apply Kept.drewN|apply Kept.drew|refine Kept.setCell ?_ (.inr Ar.o) _)|exact HK.o)⟩
end Go.Proofs.YtndbmllnkjngnaaGreat.PDs
