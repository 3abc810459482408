/- Functions of the program, each with its contract, written by a program out of the translation. -/
import Derived.Test.YtndbmllnkjngnaaGreatPDsx0
import Derived.Test.YtndbmllnkjngnaaGreatZop
namespace Go.Proofs.YtndbmllnkjngnaaGreat.PDs
open Go.RowKit Go.Proofs.YtndbmllnkjngnaaGreatW.PrintWords Go.Proofs.YtndbmllnkjngnaaGreatW.PrintLast Go.Proofs.YtndbmllnkjngnaaGreatW.PrintMore Go.Proofs.YtndbmllnkjngnaaGreat.Zip
attribute [local go_sem] max2_int min2_int max_two min_two max_three min_three max_four min_four
set_option linter.unusedVariables false
set_option linter.unusedSimpArgs false
set_option maxHeartbeats 8000000
set_option maxRecDepth 100000
def laws_szInode.f (U:Int) (J:ByteArray) (X:Int) (Y:Int):Option (Int):=if(wrap64 (Y-(J.size:Int)))<0 then(some (-1))else(some (wrap64 (Y-(J.size:Int))))
theorem laws_szInode.z1 {p:Prop} (h:p:=by
 go_enter Tryz.func96,Tryz.ntmps96
 go_wp2_with (first|((with_reducible refine gD 2 rfl ?_);refine boxZ 2 #[.int .i64 U,.string J,.int .i64 X] 121 ?_;intro Ba hg AP hbox hb;have AR:=aK hbox;have Bb:=gW HB hg;replace HB:=bS HB hb;clear hb hbox hg;obtain⟨_,_,_,_,_,_⟩:=cf3 AR))
 go_ret
 exact⟨fe,bl⟩):p:=h
theorem laws_szInode.calls (U:Int) (J:ByteArray) (X:Int) (Y:Int) (r:Int) (w:World) (h:laws_szInode.f U J X Y=some r) :
 Calls Tryz.prog 96 #[.agg #[.int .i64 U,.string J,.int .i64 X],.int .i64 Y] w fun e w'=>e = .returned (.int .i64 r)∧Below w.heap.size w w':=by
 have AS:=Tryz.underlying121;have HB:=aK (Below.refl w.heap.size w);have H:=h;unfold laws_szInode.f at H;clear h;by_cases c3:(wrap64 (Y-(J.size:Int)))<0
 ·rw[if_pos c3]at H;have A1:=dt c3;clear c3;obtain rfl:=oj H
  exact laws_szInode.z1
 ·rw[if_neg c3]at H;have A1:=df c3;clear c3;obtain rfl:=oj H
  exact laws_szInode.z1
def laws_szInodeS.l0:Nat→List (S121)→Int→Int→Option (Int)
 | 0,_,_,_=>none
 |k+1,x0,x1,x5=>if x5<(x0.length:Int)then(if 0≤x5 then((laws_szInode.f ((rd_T121 x0 x5).f0) ((rd_T121 x0 x5).f1) ((rd_T121 x0 x5).f2) x1).bind fun Ae=>(if Ae<0 then(some (-1))else(laws_szInodeS.l0 k x0 Ae (wrap64 (x5+1)))))else(none))else(some x1)
def laws_szInodeS.f (k:Nat) (l0:List (S121)) (Y:Int):Option (Int):=if(wrap64 (Y-(l0.length:Int)))<0 then(some (-1))else(laws_szInodeS.l0 k l0 (wrap64 (Y-(l0.length:Int))) 0)
theorem laws_szInodeS.z1 {p:Prop} (h:p:=by
 go_wp2_with (first|((with_reducible refine gC 96 rfl ?_);refine goesZ (some 23) rfl Tryz.func96 #[.agg #[.int .i64 ((rd_T121 l0 D).f0),.string ((rd_T121 l0 D).f1),.int .i64 ((rd_T121 l0 D).f2)],.int .i64 Z] ?_;(with_reducible refine(laws_szInode.calls ((rd_T121 l0 D).f0) ((rd_T121 l0 D).f1) ((rd_T121 l0 D).f2) Z Ae _ A6.o).mono ?_);rintro e B5 ⟨rfl,hb⟩;refine⟨_,rfl,?_⟩;replace HB:=bS HB hb;(try clear hb)))
 (first|(go_ret;exact⟨fe,bl⟩)|((go_roundg k1);(case measure=>have:=Ah.o;omega);(case rel=>exact⟨(Ae),(wrap64 (D+1)),fa,fa,H',⟨by have:=Ah.o;omega⟩,⟨bl⟩⟩)))):p:=h
theorem laws_szInodeS.calls (k:Nat) (A0:Option Addr) (c0:Nat) (l0:List (S121)) (Y:Int) (r:Int) (w:World) (Ai:Kd.C k121 w A0 l0.length l0) (Aj:l0.length≤c0) (h:laws_szInodeS.f k l0 Y=some r) :
 Calls Tryz.prog 39 #[.slice A0 l0.length c0,.int .i64 Y] w fun e w'=>e = .returned (.int .i64 r)∧Below w.heap.size w w':=by
 have AS:=Tryz.underlying121;have AA:=aK Ai;have B6:=aK Aj;clear Ai Aj;have HB:=aK (Below.refl w.heap.size w);have H:=h;unfold laws_szInodeS.f at H;clear h;by_cases c3:(wrap64 (Y-(l0.length:Int)))<0
 ·rw[if_pos c3]at H;have A1:=dt c3;clear c3;obtain rfl:=oj H
  go_enter Tryz.func39,Tryz.ntmps39
  go_wp2
  go_ret
  exact⟨fe,bl⟩
 ·rw[if_neg c3]at H;have A1:=df c3;clear c3;have H':=aK H;clear H
  go_enter Tryz.func39,Tryz.ntmps39
  go_wp2
  go_loopg [1,5] k (fun kq v1 v5 w'=>∃(Z:Int) (D:Int),v1 = .int .i64 Z∧v5 = .int .i64 D∧Aside0 (laws_szInodeS.l0 kq l0 Z D=some r)∧Aside0 (kq≤k)∧Aside0 (Below w.heap.size w w'))
  case atStart=>exact⟨(wrap64 (Y-(l0.length:Int))),(0),fa,fa,H',⟨Nat.le_refl _⟩,⟨bl⟩⟩
  case round=>
   clear H';(try clear p2);(try clear c3);(try clear A1);obtain⟨Z,D,rfl,rfl,HA,Ah,HB⟩:=hrel;cases gk with
   |zero=>exact absurd HA.o (by simp[laws_szInodeS.l0])
   |succ k1=>
    have H:=HA.o;clear HA;simp only[laws_szInodeS.l0]at H;by_cases c4:D<(l0.length:Int)
    ·rw[if_pos c4]at H;have Ab:=dt c4;clear c4;by_cases c5:0≤D
     ·rw[if_pos c5]at H;have AQ:=dt c5;clear c5;obtain⟨Ae,A6,H⟩:=bd H;have Hq_:=aK H;clear H;have AB:0≤(D:Int):=dT am;have AC:D<(l0.length:Int):=dT am;obtain⟨Bc,B7,Ak,Al,Am⟩:=at_T121 AA.o D AB AC;cases B7;replace Ak:=cz HB Ak;replace Al:=cz HB Al;replace Am:=cz HB Am;replace AB:=eq_true AB;replace AC:=eq_true AC;have H:=Hq_.o;clear Hq_;by_cases c7:Ae<0
      ·rw[if_pos c7]at H;have A5:=dt c7;(try rw[A5]);clear c7;obtain rfl:=oj H;exact laws_szInodeS.z1
      ·rw[if_neg c7]at H;have A5:=df c7;(try rw[A5]);clear c7;have H':=aK H;clear H;exact laws_szInodeS.z1
     ·rw[if_neg c5]at H;exact absurd H (by simp)
    ·rw[if_neg c4]at H;have Ab:=df c4;clear c4;obtain rfl:=oj H;go_wp2
     go_ret
     exact⟨fe,bl⟩
def laws_szLink.f (U:ByteArray) (J:Int) (Y:Int):Option (Int):=if(wrap64 (Y-(U.size:Int)))<0 then(some (-1))else(some (wrap64 (Y-(U.size:Int))))
theorem laws_szLink.z1 {p:Prop} (h:p:=by
 go_enter Tryz.func97,Tryz.ntmps97
 go_wp2_with (first|((with_reducible refine gD 2 rfl ?_);refine boxZ 2 #[.string U,.int .i64 J] 124 ?_;intro Bd hg AP hbox hb;have AT:=aK hbox;have Be:=gW HB hg;replace HB:=bS HB hb;clear hb hbox hg;obtain⟨_,_,_,_⟩:=cf2 AT))
 go_ret
 exact⟨fe,bl⟩):p:=h
theorem laws_szLink.calls (U:ByteArray) (J:Int) (Y:Int) (r:Int) (w:World) (h:laws_szLink.f U J Y=some r) :
 Calls Tryz.prog 97 #[.agg #[.string U,.int .i64 J],.int .i64 Y] w fun e w'=>e = .returned (.int .i64 r)∧Below w.heap.size w w':=by
 have AU:=Tryz.underlying124;have HB:=aK (Below.refl w.heap.size w);have H:=h;unfold laws_szLink.f at H;clear h;by_cases c3:(wrap64 (Y-(U.size:Int)))<0
 ·rw[if_pos c3]at H;have A1:=dt c3;clear c3;obtain rfl:=oj H
  exact laws_szLink.z1
 ·rw[if_neg c3]at H;have A1:=df c3;clear c3;obtain rfl:=oj H
  exact laws_szLink.z1
def laws_szLinkS.l0:Nat→List (S124)→Int→Int→Option (Int)
 | 0,_,_,_=>none
 |k+1,x0,x1,x5=>if x5<(x0.length:Int)then(if 0≤x5 then((laws_szLink.f ((rd_T124 x0 x5).f0) ((rd_T124 x0 x5).f1) x1).bind fun Af=>(if Af<0 then(some (-1))else(laws_szLinkS.l0 k x0 Af (wrap64 (x5+1)))))else(none))else(some x1)
def laws_szLinkS.f (k:Nat) (l0:List (S124)) (Y:Int):Option (Int):=if(wrap64 (Y-(l0.length:Int)))<0 then(some (-1))else(laws_szLinkS.l0 k l0 (wrap64 (Y-(l0.length:Int))) 0)
theorem laws_szLinkS.z1 {p:Prop} (h:p:=by
 go_wp2_with (first|((with_reducible refine gC 97 rfl ?_);refine goesZ (some 23) rfl Tryz.func97 #[.agg #[.string ((rd_T124 l0 D).f0),.int .i64 ((rd_T124 l0 D).f1)],.int .i64 Z] ?_;(with_reducible refine(laws_szLink.calls ((rd_T124 l0 D).f0) ((rd_T124 l0 D).f1) Z Af _ A6.o).mono ?_);rintro e B5 ⟨rfl,hb⟩;refine⟨_,rfl,?_⟩;replace HB:=bS HB hb;(try clear hb)))
 (first|(go_ret;exact⟨fe,bl⟩)|((go_roundg k1);(case measure=>have:=Ah.o;omega);(case rel=>exact⟨(Af),(wrap64 (D+1)),fa,fa,H',⟨by have:=Ah.o;omega⟩,⟨bl⟩⟩)))):p:=h
theorem laws_szLinkS.calls (k:Nat) (A0:Option Addr) (c0:Nat) (l0:List (S124)) (Y:Int) (r:Int) (w:World) (Ai:Kd.C k124 w A0 l0.length l0) (Aj:l0.length≤c0) (h:laws_szLinkS.f k l0 Y=some r) :
 Calls Tryz.prog 40 #[.slice A0 l0.length c0,.int .i64 Y] w fun e w'=>e = .returned (.int .i64 r)∧Below w.heap.size w w':=by
 have AU:=Tryz.underlying124;have AA:=aK Ai;have B6:=aK Aj;clear Ai Aj;have HB:=aK (Below.refl w.heap.size w);have H:=h;unfold laws_szLinkS.f at H;clear h;by_cases c3:(wrap64 (Y-(l0.length:Int)))<0
 ·rw[if_pos c3]at H;have A1:=dt c3;clear c3;obtain rfl:=oj H
  go_enter Tryz.func40,Tryz.ntmps40
  go_wp2
  go_ret
  exact⟨fe,bl⟩
 ·rw[if_neg c3]at H;have A1:=df c3;clear c3;have H':=aK H;clear H
  go_enter Tryz.func40,Tryz.ntmps40
  go_wp2
  go_loopg [1,5] k (fun kq v1 v5 w'=>∃(Z:Int) (D:Int),v1 = .int .i64 Z∧v5 = .int .i64 D∧Aside0 (laws_szLinkS.l0 kq l0 Z D=some r)∧Aside0 (kq≤k)∧Aside0 (Below w.heap.size w w'))
  case atStart=>exact⟨(wrap64 (Y-(l0.length:Int))),(0),fa,fa,H',⟨Nat.le_refl _⟩,⟨bl⟩⟩
  case round=>
   clear H';(try clear p2);(try clear c3);(try clear A1);obtain⟨Z,D,rfl,rfl,HA,Ah,HB⟩:=hrel;cases gk with
   |zero=>exact absurd HA.o (by simp[laws_szLinkS.l0])
   |succ k1=>
    have H:=HA.o;clear HA;simp only[laws_szLinkS.l0]at H;by_cases c4:D<(l0.length:Int)
    ·rw[if_pos c4]at H;have Ab:=dt c4;clear c4;by_cases c5:0≤D
     ·rw[if_pos c5]at H;have AQ:=dt c5;clear c5;obtain⟨Af,A6,H⟩:=bd H;have Hq_:=aK H;clear H;have AD:0≤(D:Int):=dT am;have AE:D<(l0.length:Int):=dT am;obtain⟨Bf,B8,An,Ao⟩:=at_T124 AA.o D AD AE;cases B8;replace An:=cz HB An;replace Ao:=cz HB Ao;replace AD:=eq_true AD;replace AE:=eq_true AE;have H:=Hq_.o;clear Hq_;by_cases c7:Af<0
      ·rw[if_pos c7]at H;have A5:=dt c7;(try rw[A5]);clear c7;obtain rfl:=oj H;exact laws_szLinkS.z1
      ·rw[if_neg c7]at H;have A5:=df c7;(try rw[A5]);clear c7;have H':=aK H;clear H;exact laws_szLinkS.z1
     ·rw[if_neg c5]at H;exact absurd H (by simp)
    ·rw[if_neg c4]at H;have Ab:=df c4;clear c4;obtain rfl:=oj H;go_wp2
     go_ret
     exact⟨fe,bl⟩
def laws_szMove.f (U:Int) (J:ByteArray) (X:ByteArray) (A4:Int) (Y:Int):Option (Int):=if(wrap64 (Y-(J.size:Int)))<0 then(some (-1))else(if(wrap64 ((wrap64 (Y-(J.size:Int)))-(X.size:Int)))<0 then(some (-1))else(some (wrap64 ((wrap64 (Y-(J.size:Int)))-(X.size:Int)))))
theorem laws_szMove.z1 {p:Prop} (h:p:=by
 go_enter Tryz.func98,Tryz.ntmps98
 go_wp2_with (first|((with_reducible refine gD 2 rfl ?_);refine boxZ 2 #[.int .i64 U,.string J,.string X,.int .i64 A4] 127 ?_;intro Bg hg AP hbox hb;have AV:=aK hbox;have Bh:=gW HB hg;replace HB:=bS HB hb;clear hb hbox hg;obtain⟨_,_,_,_,_,_,_,_⟩:=cf4 AV))
 go_ret
 exact⟨fe,bl⟩):p:=h
theorem laws_szMove.calls (U:Int) (J:ByteArray) (X:ByteArray) (A4:Int) (Y:Int) (r:Int) (w:World) (h:laws_szMove.f U J X A4 Y=some r) :
 Calls Tryz.prog 98 #[.agg #[.int .i64 U,.string J,.string X,.int .i64 A4],.int .i64 Y] w fun e w'=>e = .returned (.int .i64 r)∧Below w.heap.size w w':=by
 have AW:=Tryz.underlying127;have HB:=aK (Below.refl w.heap.size w);have H:=h;unfold laws_szMove.f at H;clear h;by_cases c3:(wrap64 (Y-(J.size:Int)))<0
 ·rw[if_pos c3]at H;have A1:=dt c3;clear c3;obtain rfl:=oj H
  exact laws_szMove.z1
 ·rw[if_neg c3]at H;have A1:=df c3;clear c3;by_cases c6:(wrap64 ((wrap64 (Y-(J.size:Int)))-(X.size:Int)))<0
  ·rw[if_pos c6]at H;have AF:=dt c6;clear c6;obtain rfl:=oj H
   exact laws_szMove.z1
  ·rw[if_neg c6]at H;have AF:=df c6;clear c6;obtain rfl:=oj H
   exact laws_szMove.z1
def laws_szMoveS.l0:Nat→List (S127)→Int→Int→Option (Int)
 | 0,_,_,_=>none
 |k+1,x0,x1,x5=>if x5<(x0.length:Int)then(if 0≤x5 then((laws_szMove.f ((rd_T127 x0 x5).f0) ((rd_T127 x0 x5).f1) ((rd_T127 x0 x5).f2) ((rd_T127 x0 x5).f3) x1).bind fun Ag=>(if Ag<0 then(some (-1))else(laws_szMoveS.l0 k x0 Ag (wrap64 (x5+1)))))else(none))else(some x1)
def laws_szMoveS.f (k:Nat) (l0:List (S127)) (Y:Int):Option (Int):=if(wrap64 (Y-(l0.length:Int)))<0 then(some (-1))else(laws_szMoveS.l0 k l0 (wrap64 (Y-(l0.length:Int))) 0)
theorem laws_szMoveS.z1 {p:Prop} (h:p:=by
 go_wp2_with (first|((with_reducible refine gC 98 rfl ?_);refine goesZ (some 23) rfl Tryz.func98 #[.agg #[.int .i64 ((rd_T127 l0 D).f0),.string ((rd_T127 l0 D).f1),.string ((rd_T127 l0 D).f2),.int .i64 ((rd_T127 l0 D).f3)],.int .i64 Z] ?_;(with_reducible refine(laws_szMove.calls ((rd_T127 l0 D).f0) ((rd_T127 l0 D).f1) ((rd_T127 l0 D).f2) ((rd_T127 l0 D).f3) Z Ag _ A6.o).mono ?_);rintro e B5 ⟨rfl,hb⟩;refine⟨_,rfl,?_⟩;replace HB:=bS HB hb;(try clear hb)))
 (first|(go_ret;exact⟨fe,bl⟩)|((go_roundg k1);(case measure=>have:=Ah.o;omega);(case rel=>exact⟨(Ag),(wrap64 (D+1)),fa,fa,H',⟨by have:=Ah.o;omega⟩,⟨bl⟩⟩)))):p:=h
theorem laws_szMoveS.calls (k:Nat) (A0:Option Addr) (c0:Nat) (l0:List (S127)) (Y:Int) (r:Int) (w:World) (Ai:Kd.C k127 w A0 l0.length l0) (Aj:l0.length≤c0) (h:laws_szMoveS.f k l0 Y=some r) :
 Calls Tryz.prog 41 #[.slice A0 l0.length c0,.int .i64 Y] w fun e w'=>e = .returned (.int .i64 r)∧Below w.heap.size w w':=by
 have AW:=Tryz.underlying127;have AA:=aK Ai;have B6:=aK Aj;clear Ai Aj;have HB:=aK (Below.refl w.heap.size w);have H:=h;unfold laws_szMoveS.f at H;clear h;by_cases c3:(wrap64 (Y-(l0.length:Int)))<0
 ·rw[if_pos c3]at H;have A1:=dt c3;clear c3;obtain rfl:=oj H
  go_enter Tryz.func41,Tryz.ntmps41
  go_wp2
  go_ret
  exact⟨fe,bl⟩
 ·rw[if_neg c3]at H;have A1:=df c3;clear c3;have H':=aK H;clear H
  go_enter Tryz.func41,Tryz.ntmps41
  go_wp2
  go_loopg [1,5] k (fun kq v1 v5 w'=>∃(Z:Int) (D:Int),v1 = .int .i64 Z∧v5 = .int .i64 D∧Aside0 (laws_szMoveS.l0 kq l0 Z D=some r)∧Aside0 (kq≤k)∧Aside0 (Below w.heap.size w w'))
  case atStart=>exact⟨(wrap64 (Y-(l0.length:Int))),(0),fa,fa,H',⟨Nat.le_refl _⟩,⟨bl⟩⟩
  case round=>
   clear H';(try clear p2);(try clear c3);(try clear A1);obtain⟨Z,D,rfl,rfl,HA,Ah,HB⟩:=hrel;cases gk with
   |zero=>exact absurd HA.o (by simp[laws_szMoveS.l0])
   |succ k1=>
    have H:=HA.o;clear HA;simp only[laws_szMoveS.l0]at H;by_cases c4:D<(l0.length:Int)
    ·rw[if_pos c4]at H;have Ab:=dt c4;clear c4;by_cases c5:0≤D
     ·rw[if_pos c5]at H;have AQ:=dt c5;clear c5;obtain⟨Ag,A6,H⟩:=bd H;have Hq_:=aK H;clear H;have AG:0≤(D:Int):=dT am;have AH:D<(l0.length:Int):=dT am;obtain⟨Bi,B9,Ap,Aq,Ar,As⟩:=at_T127 AA.o D AG AH;cases B9;replace Ap:=cz HB Ap;replace Aq:=cz HB Aq;replace Ar:=cz HB Ar;replace As:=cz HB As;replace AG:=eq_true AG;replace AH:=eq_true AH;have H:=Hq_.o;clear Hq_;by_cases c7:Ag<0
      ·rw[if_pos c7]at H;have A5:=dt c7;(try rw[A5]);clear c7;obtain rfl:=oj H;exact laws_szMoveS.z1
      ·rw[if_neg c7]at H;have A5:=df c7;(try rw[A5]);clear c7;have H':=aK H;clear H;exact laws_szMoveS.z1
     ·rw[if_neg c5]at H;exact absurd H (by simp)
    ·rw[if_neg c4]at H;have Ab:=df c4;clear c4;obtain rfl:=oj H;go_wp2
     go_ret
     exact⟨fe,bl⟩
def laws_szDisk.f (k:Nat) (U:Int) (J:Int) (A7:List (S121)) (A9:List (S124)) (Aa:List (S127)) (Y:Int):Option (Int):=(laws_szInodeS.f k A7 Y).bind fun Ac=>(if Ac<0 then(some (-1))else((laws_szLinkS.f k A9 Ac).bind fun Ad=>(if Ad<0 then(some (-1))else((laws_szMoveS.f k Aa Ad).bind fun At=>(if At<0 then(some (-1))else(some At))))))
theorem laws_szDisk.z1 {p:Prop} (h:p:=by
 go_enter Tryz.func8,Tryz.ntmps8
 go_wp2_with (first|((with_reducible refine gD 2 rfl ?_);refine boxZ 2 #[.int .i64 U,.int .i64 J,.slice Au A7.length Av,.slice Aw A9.length Ax,.slice Ay Aa.length Az] 26 ?_;intro Bj hg AP hbox hb;have A2:=aK hbox;have Bk:=gW HB hg;replace HB:=bS HB hb;clear hb hbox hg;obtain⟨_,_,_,_,_,_,_,_,_,_⟩:=cf5 A2)|((with_reducible refine gC 39 rfl ?_);refine goesZ (some 8) rfl Tryz.func39 #[.slice Au A7.length Av,.int .i64 Y] ?_;(with_reducible refine(laws_szInodeS.calls k _ _ A7 Y Ac _ ?_ ?_ A3.o).mono ?_);exact cB AX HB;exact AY.o;rintro e Bq ⟨rfl,hb⟩;refine⟨_,rfl,?_⟩;replace A2:=bv A2 hb;replace HB:=bS HB hb;(try clear hb);obtain⟨_,_,_,_,_,_,_,_,_,_⟩:=cf5 A2)|((with_reducible refine gC 40 rfl ?_);refine goesZ (some 14) rfl Tryz.func40 #[.slice Aw A9.length Ax,.int .i64 Ac] ?_;(with_reducible refine(laws_szLinkS.calls k _ _ A9 Ac Ad _ ?_ ?_ A8.o).mono ?_);exact cB AZ HB;exact B0.o;rintro e Br ⟨rfl,hb⟩;refine⟨_,rfl,?_⟩;replace A2:=bv A2 hb;replace HB:=bS HB hb;(try clear hb);obtain⟨_,_,_,_,_,_,_,_,_,_⟩:=cf5 A2)|((with_reducible refine gC 41 rfl ?_);refine goesZ (some 20) rfl Tryz.func41 #[.slice Ay Aa.length Az,.int .i64 Ad] ?_;(with_reducible refine(laws_szMoveS.calls k _ _ Aa Ad At _ ?_ ?_ Bl.o).mono ?_);exact cB B1 HB;exact B2.o;rintro e Bs ⟨rfl,hb⟩;refine⟨_,rfl,?_⟩;replace A2:=bv A2 hb;replace HB:=bS HB hb;(try clear hb)))
 go_ret
 exact⟨fe,bl⟩):p:=h
theorem laws_szDisk.calls (k:Nat) (U:Int) (J:Int) (Au:Option Addr) (Av:Nat) (A7:List (S121)) (Aw:Option Addr) (Ax:Nat) (A9:List (S124)) (Ay:Option Addr) (Az:Nat) (Aa:List (S127)) (Y:Int) (r:Int) (w:World) (AI:Kd.C k121 w Au A7.length A7) (AJ:A7.length≤Av) (AK:Kd.C k124 w Aw A9.length A9) (AL:A9.length≤Ax) (AM:Kd.C k127 w Ay Aa.length Aa) (AN:Aa.length≤Az) (h:laws_szDisk.f k U J A7 A9 Aa Y=some r) :
 Calls Tryz.prog 8 #[.agg #[.int .i64 U,.int .i64 J,.slice Au A7.length Av,.slice Aw A9.length Ax,.slice Ay Aa.length Az],.int .i64 Y] w fun e w'=>e = .returned (.int .i64 r)∧Below w.heap.size w w':=by
 have Bo:=Tryz.underlying26;have AX:=aK AI;have AY:=aK AJ;clear AI AJ;have AZ:=aK AK;have B0:=aK AL;clear AK AL;have B1:=aK AM;have B2:=aK AN;clear AM AN;have HB:=aK (Below.refl w.heap.size w);have H:=h;unfold laws_szDisk.f at H;clear h;obtain⟨Ac,A3,H⟩:=bd H;by_cases c4:Ac<0
 ·rw[if_pos c4]at H;have Ab:=dt c4;clear c4;obtain rfl:=oj H
  exact laws_szDisk.z1
 ·rw[if_neg c4]at H;have Ab:=df c4;clear c4;obtain⟨Ad,A8,H⟩:=bd H;by_cases c9:Ad<0
  ·rw[if_pos c9]at H;have AO:=dt c9;clear c9;obtain rfl:=oj H
   exact laws_szDisk.z1
  ·rw[if_neg c9]at H;have AO:=df c9;clear c9;obtain⟨At,Bl,H⟩:=bd H;by_cases A_:At<0
   ·rw[if_pos A_]at H;have B3:=dt A_;clear A_;obtain rfl:=oj H
    exact laws_szDisk.z1
   ·rw[if_neg A_]at H;have B3:=df A_;clear A_;obtain rfl:=oj H
    exact laws_szDisk.z1
def laws_szStep.f (U:Int) (J:ByteArray) (X:ByteArray) (A4:ByteArray) (Y:Int):Option (Int):=if(wrap64 (Y-(J.size:Int)))<0 then(some (-1))else(if(wrap64 ((wrap64 (Y-(J.size:Int)))-(X.size:Int)))<0 then(some (-1))else(if(wrap64 ((wrap64 ((wrap64 (Y-(J.size:Int)))-(X.size:Int)))-(A4.size:Int)))<0 then(some (-1))else(some (wrap64 ((wrap64 ((wrap64 (Y-(J.size:Int)))-(X.size:Int)))-(A4.size:Int))))))
theorem laws_szStep.z1 {p:Prop} (h:p:=by
 go_enter Tryz.func9,Tryz.ntmps9
 go_wp2_with (first|((with_reducible refine gD 2 rfl ?_);refine boxZ 2 #[.int .i64 U,.string J,.string X,.string A4] 28 ?_;intro Bm hg AP hbox hb;have B4:=aK hbox;have Bn:=gW HB hg;replace HB:=bS HB hb;clear hb hbox hg;obtain⟨_,_,_,_,_,_,_,_⟩:=cf4 B4))
 go_ret
 exact⟨fe,bl⟩):p:=h
theorem laws_szStep.calls (U:Int) (J:ByteArray) (X:ByteArray) (A4:ByteArray) (Y:Int) (r:Int) (w:World) (h:laws_szStep.f U J X A4 Y=some r) :
 Calls Tryz.prog 9 #[.agg #[.int .i64 U,.string J,.string X,.string A4],.int .i64 Y] w fun e w'=>e = .returned (.int .i64 r)∧Below w.heap.size w w':=by
 have Bp:=Tryz.underlying28;have HB:=aK (Below.refl w.heap.size w);have H:=h;unfold laws_szStep.f at H;clear h;by_cases c3:(wrap64 (Y-(J.size:Int)))<0
 ·rw[if_pos c3]at H;have A1:=dt c3;clear c3;obtain rfl:=oj H
  exact laws_szStep.z1
 ·rw[if_neg c3]at H;have A1:=df c3;clear c3;by_cases c6:(wrap64 ((wrap64 (Y-(J.size:Int)))-(X.size:Int)))<0
  ·rw[if_pos c6]at H;have AF:=dt c6;clear c6;obtain rfl:=oj H
   exact laws_szStep.z1
  ·rw[if_neg c6]at H;have AF:=df c6;clear c6;by_cases c9:(wrap64 ((wrap64 ((wrap64 (Y-(J.size:Int)))-(X.size:Int)))-(A4.size:Int)))<0
   ·rw[if_pos c9]at H;have AO:=dt c9;clear c9;obtain rfl:=oj H
    exact laws_szStep.z1
   ·rw[if_neg c9]at H;have AO:=df c9;clear c9;obtain rfl:=oj H
    exact laws_szStep.z1
def impl_Link_125.f (l0:List (S133)):Option ((List (S133))):=if l0.length<5864062014805 then some l0 else none
theorem impl_Link_125.calls (X:Option Addr) (c0:Nat) (l0:List (S133)) (r:List (S133)) (w:World) (D:Kd.C k133 w X l0.length l0) (J:l0.length≤c0) (h:impl_Link_125.f l0=some r) :
 Calls Tryz.prog 125 #[.slice X l0.length c0] w fun e w'=>∃U:Value,e = .returned (U)∧Kd.R k133 133 w' w.heap.size (fun _=>True) U r∧Below w.heap.size w w':=by
 have Y:l0.length<5864062014805:=by
  by_cases c:l0.length<5864062014805
  ·exact c
  ·simp[impl_Link_125.f,c]at h
 obtain rfl:l0=r:=by simpa [impl_Link_125.f,Y] using h
 have LMc:=aK Y;clear Y h;have HB:=aK (Below.refl w.heap.size w);cases X with
 |none=>
  have hl:l0 = []:=by
   rcases Nat.eq_zero_or_pos l0.length with g|g
   ·exact List.length_eq_zero_iff.1 g
   ·obtain⟨ad,e,_⟩:=D.2.2 g;cases e
  subst hl;clear D J;have hq:=fun(w:World) (n c:Nat)=>Lib.run_eql_slice_nil (P:=Tryz.prog) w 32 133 none n c 0 0 Tryz.underlying32
  simp only[Option.isNone_none]at hq
  go_enter Tryz.func125,Tryz.ntmps125
  go_wp2
  go_ret
  exact⟨_,rfl,Kd.R_nil _ _ _ _ _,bl⟩
 |some ad=>
  have Z:=aK D;clear D J;have hq:=fun(w:World) (n c:Nat)=>Lib.run_eql_slice_nil (P:=Tryz.prog) w 32 133 (some ad) n c 0 0 Tryz.underlying32
  simp only[Option.isNone_some]at hq
  go_enter Tryz.func125,Tryz.ntmps125
  go_wp2_with (first|((with_reducible refine gD 5 rfl ?_);refine Kd.R_lit k133 _ 133 ?hg (N:=5) ?hd (xs:=([]:List (S133))) (inner:=[]) (ok:=fun _=>True) (okp:=fun _=>True) ?hr ?hp (fun _ hk=>hk) trivial (Below.refl _ _) (Nat.le_refl _) (by simp) ?_;(case hd=>rfl);(case hg=>rfl);(case hr=>first|(go_simp;done)|(go_simp;rfl));(case hp=>exact(Reps.none _ _));intro v1 w1 ho hb hg_ hnew_;clear hg_ hnew_;have HO:=rl HB ho;replace HB:=bS HB hb;clear hb ho)|((with_reducible refine gate_builtin (b:=.append) (xs:=#[.tmp 5,.tmp 6]) rfl ?_);at_builtin;refine Kd.R_append_rows k133 (w0:=w) w.heap.size rfl (.tmp 5) (.tmp 6) 32 133 (.agg #[(.string ⟨#[]⟩),(.int .i64 0)]) 24 rfl Tryz.underlying32 info133 rfl (by decide) (by omega) v1 [] l0 _ _ _ (fun _=>True) (fun _=>False) rfl rfl ?aO ?aR (fun _ _ h=>h) (fun _ h=>h.elim) ?aF ?aB ?aS ?aL ?_;(case aR=>exact(Kd.C_below Z.o bl));(case aB=>exact bl);(case aF=>exact(fun _ _=>trivial));(case aO=>exact HO.o);(case aS=>exact(below_size bl));(case aL=>have:=LMc.o;simp;omega);intro v2 w2 ho hb hg hat;clear HO HB hg hat;have HO:=aK ho;have HB:=aK hb;clear ho hb;obtain⟨Ao,co,eo⟩:=rs HO;subst eo))
  go_ret
  exact⟨_,rfl,HO.o,bl⟩
def impl_from.f (J:Int) (a1:Int) (a2:Int):Option (Bool):=if J≥a1 then(some (decide (J≤a2)))else(some false)
theorem impl_from.calls (J:Int) (a1:Int) (a2:Int) (r:Bool) (w:World) (h:impl_from.f J a1 a2=some r) :
 Calls Tryz.prog 119 #[.int .i64 J,.int .i64 a1,.int .i64 a2] w fun e w'=>e = .returned (.bool r)∧Drawn0 w w':=by
 have H:=h;unfold impl_from.f at H;clear h;by_cases c4:J≥a1
 ·rw[if_pos c4]at H;have Al:=dt c4;clear c4;obtain rfl:=oj H
  go_enter Tryz.func119,Tryz.ntmps119
  go_wp2
  go_ret
  exact⟨fa,fd⟩
 ·rw[if_neg c4]at H;have Al:=df c4;clear c4;obtain rfl:=oj H
  go_enter Tryz.func119,Tryz.ntmps119
  go_wp2
  go_ret
  exact⟨fa,fd⟩
def impl_nameOk.l0:Nat→ByteArray→Int→Int→Option (Bool)
 | 0,_,_,_=>none
 |k+1,Y,x5,X=>if X<x5 then(if 0≤X then(if X<(Y.size:Int)then(if(bt Y X)<97 then(if(bt Y X)<48 then(if(bt Y X)=46 then(impl_nameOk.l0 k Y x5 (wrap64 (X+1)))else(some false))else(if(bt Y X)>57 then(if(bt Y X)=46 then(impl_nameOk.l0 k Y x5 (wrap64 (X+1)))else(some false))else(impl_nameOk.l0 k Y x5 (wrap64 (X+1)))))else(if(bt Y X)>122 then(if(bt Y X)<48 then(if(bt Y X)=46 then(impl_nameOk.l0 k Y x5 (wrap64 (X+1)))else(some false))else(if(bt Y X)>57 then(if(bt Y X)=46 then(impl_nameOk.l0 k Y x5 (wrap64 (X+1)))else(some false))else(impl_nameOk.l0 k Y x5 (wrap64 (X+1)))))else(impl_nameOk.l0 k Y x5 (wrap64 (X+1)))))else(none))else(none))else((impl_from.f (Y.size:Int) 1 12).bind fun Ai=>(some Ai))
def impl_nameOk.f (k:Nat) (J:ByteArray):Option (Bool):=impl_nameOk.l0 k J (J.size:Int) 0
theorem impl_nameOk.calls (k:Nat) (J:ByteArray) (r:Bool) (w:World) (h:impl_nameOk.f k J=some r) :
 Calls Tryz.prog 114 #[.string J] w fun e w'=>e = .returned (.bool r)∧Drawn0 w w':=by
 have H:=h;unfold impl_nameOk.f at H;clear h;have H':=aK H;clear H
 go_enter Tryz.func114,Tryz.ntmps114
 go_wp2
 go_loopg [6] k (fun kq v6 w'=>∃(D:Int),v6 = .int .i64 D∧Aside0 (impl_nameOk.l0 kq J (J.size:Int) D=some r)∧Aside0 (kq≤k)∧Drawn0 w w')
 case atStart=>exact⟨(0),fa,H',⟨Nat.le_refl _⟩,fd⟩
 case round=>
  clear H';(try clear c1);obtain⟨D,rfl,HA,U,⟨m1,rfl⟩⟩:=hrel;cases gk with
  |zero=>exact absurd HA.o (by simp[impl_nameOk.l0])
  |succ k1=>
   have H:=HA.o;clear HA;simp only[impl_nameOk.l0]at H;by_cases c2:D<(J.size:Int)
   ·rw[if_pos c2]at H;have Am:=dt c2;clear c2;by_cases c3:0≤D
    ·rw[if_pos c3]at H;have AB:=dt c3;clear c3;by_cases c4:D<(J.size:Int)
     ·rw[if_pos c4]at H;have Al:=dt c4;clear c4;have Hq_:=aK H;clear H;have p5:0≤(D:Int):=dT am;have q5:D<(J.size:Int):=dT am;have AJ:=bt_at J D;replace p5:=eq_true p5;replace q5:=eq_true q5;have H:=Hq_.o;clear Hq_;by_cases c6:(bt J D)<97
      ·rw[if_pos c6]at H;have Aj:=dt c6;(try rw[Aj]);clear c6;have Hq_:=aK H;clear H;have p7:0≤(D:Int):=dT am;have q7:D<(J.size:Int):=dT am;have AK:=bt_at J D;replace p7:=eq_true p7;replace q7:=eq_true q7;have H:=Hq_.o;clear Hq_;by_cases c8:(bt J D)<48
       ·rw[if_pos c8]at H;have Ak:=dt c8;(try rw[Ak]);clear c8;have Hq_:=aK H;clear H;have p9:0≤(D:Int):=dT am;have q9:D<(J.size:Int):=dT am;have AL:=bt_at J D;replace p9:=eq_true p9;replace q9:=eq_true q9;have H:=Hq_.o;clear Hq_;by_cases c10:(bt J D)=46
        ·rw[if_pos c10]at H;have Z:=bT c10;(try rw[Z]);have A0:=bE c10;(try rw[A0]);clear c10;have H':=aK H;clear H;go_wp2
         go_roundg k1
         case measure=>have:=U.o;omega
         case rel=>exact⟨(wrap64 (D+1)),fa,H',⟨by have:=U.o;omega⟩,fd⟩
        ·rw[if_neg c10]at H;have Z:=bN c10;(try rw[Z]);have A0:=bQ c10;(try rw[A0]);obtain rfl:=oj H;go_wp2
         go_ret
         exact⟨fa,fd⟩
       ·rw[if_neg c8]at H;have Ak:=df c8;(try rw[Ak]);clear c8;have Hq_:=aK H;clear H;have An:0≤(D:Int):=dT am;have Ao:D<(J.size:Int):=dT am;have AC:=bt_at J D;replace An:=eq_true An;replace Ao:=eq_true Ao;have H:=Hq_.o;clear Hq_;by_cases Ae:(bt J D)>57
        ·rw[if_pos Ae]at H;have A1:=dt Ae;(try rw[A1]);clear Ae;have Hq_:=aK H;clear H;have Ap:0≤(D:Int):=dT am;have Aq:D<(J.size:Int):=dT am;have AD:=bt_at J D;replace Ap:=eq_true Ap;replace Aq:=eq_true Aq;have H:=Hq_.o;clear Hq_;by_cases A2:(bt J D)=46
         ·rw[if_pos A2]at H;have A3:=bT A2;(try rw[A3]);have A4:=bE A2;(try rw[A4]);clear A2;have H':=aK H;clear H;go_wp2
          go_roundg k1
          case measure=>have:=U.o;omega
          case rel=>exact⟨(wrap64 (D+1)),fa,H',⟨by have:=U.o;omega⟩,fd⟩
         ·rw[if_neg A2]at H;have A3:=bN A2;(try rw[A3]);have A4:=bQ A2;(try rw[A4]);obtain rfl:=oj H;go_wp2
          go_ret
          exact⟨fa,fd⟩
        ·rw[if_neg Ae]at H;have A1:=df Ae;(try rw[A1]);clear Ae;have H':=aK H;clear H;go_wp2
         go_roundg k1
         case measure=>have:=U.o;omega
         case rel=>exact⟨(wrap64 (D+1)),fa,H',⟨by have:=U.o;omega⟩,fd⟩
      ·rw[if_neg c6]at H;have Aj:=df c6;(try rw[Aj]);clear c6;have Hq_:=aK H;clear H;have Ar:0≤(D:Int):=dT am;have As:D<(J.size:Int):=dT am;have AE:=bt_at J D;replace Ar:=eq_true Ar;replace As:=eq_true As;have H:=Hq_.o;clear Hq_;by_cases Af:(bt J D)>122
       ·rw[if_pos Af]at H;have A5:=dt Af;(try rw[A5]);clear Af;have Hq_:=aK H;clear H;have At:0≤(D:Int):=dT am;have Au:D<(J.size:Int):=dT am;have AF:=bt_at J D;replace At:=eq_true At;replace Au:=eq_true Au;have H:=Hq_.o;clear Hq_;by_cases Ag:(bt J D)<48
        ·rw[if_pos Ag]at H;have A6:=dt Ag;(try rw[A6]);clear Ag;have Hq_:=aK H;clear H;have Av:0≤(D:Int):=dT am;have Aw:D<(J.size:Int):=dT am;have AG:=bt_at J D;replace Av:=eq_true Av;replace Aw:=eq_true Aw;have H:=Hq_.o;clear Hq_;by_cases A7:(bt J D)=46
         ·rw[if_pos A7]at H;have A8:=bT A7;(try rw[A8]);have A9:=bE A7;(try rw[A9]);clear A7;have H':=aK H;clear H;go_wp2
          go_roundg k1
          case measure=>have:=U.o;omega
          case rel=>exact⟨(wrap64 (D+1)),fa,H',⟨by have:=U.o;omega⟩,fd⟩
         ·rw[if_neg A7]at H;have A8:=bN A7;(try rw[A8]);have A9:=bQ A7;(try rw[A9]);obtain rfl:=oj H;go_wp2
          go_ret
          exact⟨fa,fd⟩
        ·rw[if_neg Ag]at H;have A6:=df Ag;(try rw[A6]);clear Ag;have Hq_:=aK H;clear H;have Ax:0≤(D:Int):=dT am;have Ay:D<(J.size:Int):=dT am;have AH:=bt_at J D;replace Ax:=eq_true Ax;replace Ay:=eq_true Ay;have H:=Hq_.o;clear Hq_;by_cases Ah:(bt J D)>57
         ·rw[if_pos Ah]at H;have Aa:=dt Ah;(try rw[Aa]);clear Ah;have Hq_:=aK H;clear H;have Az:0≤(D:Int):=dT am;have A_:D<(J.size:Int):=dT am;have AI:=bt_at J D;replace Az:=eq_true Az;replace A_:=eq_true A_;have H:=Hq_.o;clear Hq_;by_cases Ab:(bt J D)=46
          ·rw[if_pos Ab]at H;have Ac:=bT Ab;(try rw[Ac]);have Ad:=bE Ab;(try rw[Ad]);clear Ab;have H':=aK H;clear H;go_wp2
           go_roundg k1
           case measure=>have:=U.o;omega
           case rel=>exact⟨(wrap64 (D+1)),fa,H',⟨by have:=U.o;omega⟩,fd⟩
          ·rw[if_neg Ab]at H;have Ac:=bN Ab;(try rw[Ac]);have Ad:=bQ Ab;(try rw[Ad]);obtain rfl:=oj H;go_wp2
           go_ret
           exact⟨fa,fd⟩
         ·rw[if_neg Ah]at H;have Aa:=df Ah;(try rw[Aa]);clear Ah;have H':=aK H;clear H;go_wp2
          go_roundg k1
          case measure=>have:=U.o;omega
          case rel=>exact⟨(wrap64 (D+1)),fa,H',⟨by have:=U.o;omega⟩,fd⟩
       ·rw[if_neg Af]at H;have A5:=df Af;(try rw[A5]);clear Af;have H':=aK H;clear H;go_wp2
        go_roundg k1
        case measure=>have:=U.o;omega
        case rel=>exact⟨(wrap64 (D+1)),fa,H',⟨by have:=U.o;omega⟩,fd⟩
     ·rw[if_neg c4]at H;exact absurd H (by simp)
    ·rw[if_neg c3]at H;exact absurd H (by simp)
   ·rw[if_neg c2]at H;have Am:=df c2;clear c2;obtain⟨Ai,AA,H⟩:=bd H;obtain rfl:=oj H;go_wp2_with (first|((with_reducible refine gC 119 rfl ?_);refine goesZ (some 40) rfl Tryz.func119 #[.int .i64 (J.size:Int),.int .i64 1,.int .i64 12] ?_;(with_reducible refine(impl_from.calls (J.size:Int) 1 12 Ai _ AA.o).mono ?_);rintro e w' ⟨rfl,⟨nd,rfl⟩⟩;refine⟨_,rfl,?_⟩))
    go_ret
    exact⟨fa,fd⟩
def slices_Index_int_int.l0:Nat→List Int→Int→Int→Int→Option (Int)
 | 0,_,_,_,_=>none
 |k+1,x0,x1,x7,x8=>if x8<x7 then(if 0≤x8 then(if x8<(x0.length:Int)then(if x1=(rd x0 x8)then(some x8)else(slices_Index_int_int.l0 k x0 x1 x7 (wrap64 (x8+1))))else(none))else(none))else(some (-1))
def slices_Index_int_int.f (k:Nat) (l0:List Int) (J:Int):Option (Int):=slices_Index_int_int.l0 k l0 J (l0.length:Int) 0
theorem slices_Index_int_int.calls (k:Nat) (A0:Option Addr) (c0:Nat) (l0:List Int) (J:Int) (r:Int) (w:World) (U:Kd.C (Kd.int .i64) w A0 l0.length l0) (X:l0.length≤c0) (h:slices_Index_int_int.f k l0 J=some r) :
 Calls Tryz.prog 169 #[.slice A0 l0.length c0,.int .i64 J] w fun e w'=>e = .returned (.int .i64 r)∧Drawn0 w w':=by
 have A5:=aK U;have A6:=aK X;clear U X;have H:=h;unfold slices_Index_int_int.f at H;clear h;have H':=aK H;clear H
 go_enter Tryz.func169,Tryz.ntmps169
 go_wp2
 go_loopg [8] k (fun kq v8 w'=>∃(D:Int),v8 = .int .i64 D∧Aside0 (slices_Index_int_int.l0 kq l0 J (l0.length:Int) D=some r)∧Aside0 (kq≤k)∧Drawn0 w w')
 case atStart=>exact⟨(0),fa,H',⟨Nat.le_refl _⟩,fd⟩
 case round=>
  clear H';(try clear c1);(try clear p2);obtain⟨D,rfl,HA,A7,⟨m1,rfl⟩⟩:=hrel;cases gk with
  |zero=>exact absurd HA.o (by simp[slices_Index_int_int.l0])
  |succ k1=>
   have H:=HA.o;clear HA;simp only[slices_Index_int_int.l0]at H;by_cases c3:D<(l0.length:Int)
   ·rw[if_pos c3]at H;have A8:=dt c3;clear c3;by_cases c4:0≤D
    ·rw[if_pos c4]at H;have Ac:=dt c4;clear c4;by_cases c5:D<(l0.length:Int)
     ·rw[if_pos c5]at H;have Ad:=dt c5;clear c5;have Hq_:=aK H;clear H;have Y:0≤(D:Int):=dT am;have Z:D<(l0.length:Int):=dT am;obtain⟨Ab,A9,Aa⟩:=Kd.at_int A5.o D Y Z;cases A9;replace Y:=eq_true Y;replace Z:=eq_true Z;have H:=Hq_.o;clear Hq_;by_cases c6:J=(rd l0 D)
      ·rw[if_pos c6]at H;have A1:=bT c6;(try rw[A1]);have A2:=bE c6;(try rw[A2]);clear c6;obtain rfl:=oj H;go_wp2
       go_ret
       exact⟨fa,fd⟩
      ·rw[if_neg c6]at H;have A1:=bN c6;(try rw[A1]);have A2:=bQ c6;(try rw[A2]);have H':=aK H;clear H;go_wp2
       go_roundg k1
       case measure=>have:=A7.o;omega
       case rel=>exact⟨(wrap64 (D+1)),fa,H',⟨by have:=A7.o;omega⟩,fd⟩
     ·rw[if_neg c5]at H;exact absurd H (by simp)
    ·rw[if_neg c4]at H;exact absurd H (by simp)
   ·rw[if_neg c3]at H;have A8:=df c3;clear c3;obtain rfl:=oj H;go_wp2
    go_ret
    exact⟨fa,fd⟩
def slices_Contains_int_int.f (k:Nat) (l0:List Int) (J:Int):Option (Bool):=(slices_Index_int_int.f k l0 J).bind fun A4=>(some (decide (A4≥0)))
theorem slices_Contains_int_int.calls (k:Nat) (A0:Option Addr) (c0:Nat) (l0:List Int) (J:Int) (r:Bool) (w:World) (U:Kd.C (Kd.int .i64) w A0 l0.length l0) (X:l0.length≤c0) (h:slices_Contains_int_int.f k l0 J=some r) :
 Calls Tryz.prog 122 #[.slice A0 l0.length c0,.int .i64 J] w fun e w'=>e = .returned (.bool r)∧Drawn0 w w':=by
 have A5:=aK U;have A6:=aK X;clear U X;have H:=h;unfold slices_Contains_int_int.f at H;clear h;obtain⟨A4,A3,H⟩:=bd H;obtain rfl:=oj H
 go_enter Tryz.func122,Tryz.ntmps122
 go_wp2_with (first|((with_reducible refine gC 169 rfl ?_);refine goesZ (some 7) rfl Tryz.func169 #[.slice A0 l0.length c0,.int .i64 J] ?_;(with_reducible refine(slices_Index_int_int.calls k _ _ l0 J A4 _ ?_ ?_ A3.o).mono ?_);exact ca A5.o;exact A6.o;rintro e w' ⟨rfl,⟨nd,rfl⟩⟩;refine⟨_,rfl,?_⟩))
 go_ret
 exact⟨fa,fd⟩
def impl_used.l0:Nat→Int→List (S130)→Int→Int→Option (Int)
 | 0,_,_,_,_=>none
 |k+1,x3,x7,x8,x9=>if x9<x8 then(if 0≤x9 then(if x9<(x7.length:Int)then(impl_used.l0 k (wrap64 (x3+(((rd_T130 x7 x9).f1).size:Int))) x7 x8 (wrap64 (x9+1)))else(none))else(none))else(some x3)
def impl_used.f (k:Nat) (Z:Int) (A0:Int) (D:List (S130)) (X:List (S133)) (Y:List (S135)):Option (Int):=impl_used.l0 k 0 D (D.length:Int) 0
theorem impl_used.calls (k:Nat) (Z:Int) (A0:Int) (A1:Option Addr) (A2:Nat) (D:List (S130)) (A3:Option Addr) (A4:Nat) (X:List (S133)) (A5:Option Addr) (A6:Nat) (Y:List (S135)) (r:Int) (w:World) (Ad:Kd.C k130 w A1 D.length D) (Ae:D.length≤A2) (Af:Kd.C k133 w A3 X.length X) (Ag:X.length≤A4) (Ah:Kd.C k135 w A5 Y.length Y) (Ai:Y.length≤A6) (h:impl_used.f k Z A0 D X Y=some r) :
 Calls Tryz.prog 115 #[.agg #[.int .i64 Z,.int .i64 A0,.slice A1 D.length A2,.slice A3 X.length A4,.slice A5 Y.length A6]] w fun e w'=>e = .returned (.int .i64 r)∧Below w.heap.size w w':=by
 have A_:=Tryz.underlying35;have Aq:=Tryz.underlying130;have Aj:=aK Ad;have Ar:=aK Ae;clear Ad Ae;have As:=aK Af;have At:=aK Ag;clear Af Ag;have Au:=aK Ah;have Av:=aK Ai;clear Ah Ai;have HB:=aK (Below.refl w.heap.size w);have H:=h;unfold impl_used.f at H;clear h;have H':=aK H;clear H
 go_enter Tryz.func115,Tryz.ntmps115
 go_wp2_with (first|((with_reducible refine gD 1 rfl ?_);refine boxZ 1 #[.int .i64 Z,.int .i64 A0,.slice A1 D.length A2,.slice A3 X.length A4,.slice A5 Y.length A6] 35 ?_;intro Ak hg w2 hbox hb;have U:=aK hbox;have Aw:=gW HB hg;replace HB:=bS HB hb;clear hb hbox hg;obtain⟨_,_,_,_,_,_,_,_,_,_⟩:=cf5 U))
 go_loopg [3,9] k (fun kq v3 v9 w'=>∃(A7:Int) (J:Int),v3 = .int .i64 A7∧v9 = .int .i64 J∧Aside0 (impl_used.l0 kq A7 D (D.length:Int) J=some r)∧Aside0 (kq≤k)∧Aside0 (w'.heap[Ak]? = some (.cells #[.int .i64 Z,.int .i64 A0,(.slice A1 D.length A2),(.slice A3 X.length A4),(.slice A5 Y.length A6)] 35 (0,0)))∧Aside0 (Below w.heap.size w w'))
 case atStart=>exact⟨(0),(0),fa,fa,H',⟨Nat.le_refl _⟩,⟨bw U⟩,⟨bl⟩⟩
 case round=>
  clear H';(try clear c1);(try clear p2);obtain⟨A7,J,rfl,rfl,HA,An,U,HB⟩:=hrel;cases gk with
  |zero=>exact absurd HA.o (by simp[impl_used.l0])
  |succ k1=>
   have H:=HA.o;clear HA;simp only[impl_used.l0]at H;by_cases c4:J<(D.length:Int)
   ·rw[if_pos c4]at H;have Ao:=dt c4;clear c4;by_cases c5:0≤J
    ·rw[if_pos c5]at H;have AA:=dt c5;clear c5;by_cases c6:J<(D.length:Int)
     ·rw[if_pos c6]at H;have AB:=dt c6;clear c6;have H':=aK H;clear H;have Al:0≤(J:Int):=dT am;have Am:J<(D.length:Int):=dT am;obtain⟨AC,Ax,A8,A9,Aa⟩:=at_T130 Aj.o J Al Am;cases Ax;replace A8:=cz HB A8;replace A9:=cz HB A9;replace Aa:=cz HB Aa;replace Al:=eq_true Al;replace Am:=eq_true Am;go_wp2_with (first|((with_reducible refine gD 5 rfl ?_);refine boxZ 5 #[.int .i64 0,.string (⟨#[]⟩:ByteArray),.int .i64 0] 130 ?_;intro AD hg AF hbox hb;have Ap:=aK hbox;have AE:=gW HB hg;replace HB:=bS HB hb;have Ab:=nl U hg;have Ac:=nr U hg;replace U:=bv U hb;clear hb hbox hg;have Ay:=Ac.o;have Az:=Ab.o;obtain⟨_,_,_,_,_,_⟩:=cf3 Ap))
      go_roundg k1
      case measure=>have:=An.o;omega
      case rel=>exact⟨(wrap64 (A7+(((rd_T130 D J).f1).size:Int))),(wrap64 (J+1)),fa,fa,H',⟨by have:=An.o;omega⟩,⟨bkk⟩,⟨bl⟩⟩
     ·rw[if_neg c6]at H;exact absurd H (by simp)
    ·rw[if_neg c5]at H;exact absurd H (by simp)
   ·rw[if_neg c4]at H;have Ao:=df c4;clear c4;obtain rfl:=oj H;go_wp2
    go_ret
    exact⟨fe,bl⟩
def laws_eqInode.f (J:Int) (U:ByteArray) (A3:Int) (X:Int) (Y:ByteArray) (A4:Int):Option (Bool):=if J=X then(if U.toList=Y.toList then(if A3=A4 then(some true)else(some false))else(some false))else(some false)
theorem laws_eqInode.z1 {p:Prop} (h:p:=by
 go_enter Tryz.func127,Tryz.ntmps127
 go_wp2_with (first|((with_reducible refine gD 2 rfl ?_);refine boxZ 2 #[.int .i64 J,.string U,.int .i64 A3] 130 ?_;intro BK hg Bx hbox hb;have As:=aK hbox;have BL:=gW HB hg;replace HB:=bS HB hb;clear hb hbox hg)|((with_reducible refine gD 3 rfl ?_);refine boxZ 3 #[.int .i64 X,.string Y,.int .i64 A4] 130 ?_;intro BM hg By hbox hb;have Br:=aK hbox;have BN:=gW HB hg;replace HB:=bS HB hb;have AY:=nl As hg;have AZ:=nr As hg;replace As:=bv As hb;clear hb hbox hg;have B7:=AY.o;have B8:=AZ.o;obtain⟨_,_,_,_,_,_⟩:=cf3 As;obtain⟨_,_,_,_,_,_⟩:=cf3 Br))
 go_ret
 exact⟨fe,bl⟩):p:=h
theorem laws_eqInode.calls (J:Int) (U:ByteArray) (A3:Int) (X:Int) (Y:ByteArray) (A4:Int) (r:Bool) (w:World) (h:laws_eqInode.f J U A3 X Y A4=some r) :
 Calls Tryz.prog 127 #[.agg #[.int .i64 J,.string U,.int .i64 A3],.agg #[.int .i64 X,.string Y,.int .i64 A4]] w fun e w'=>e = .returned (.bool r)∧Below w.heap.size w w':=by
 have Bs:=Tryz.underlying130;have HB:=aK (Below.refl w.heap.size w);have H:=h;unfold laws_eqInode.f at H;clear h;by_cases c3:J=X
 ·rw[if_pos c3]at H;have Z:=bT c3;have A2:=bE c3;clear c3;by_cases c4:U.toList=Y.toList
  ·rw[if_pos c4]at H;have A5:=bT c4;have AA:=bE c4;clear c4;by_cases c5:A3=A4
   ·rw[if_pos c5]at H;have Ay:=bT c5;have B9:=bE c5;clear c5;obtain rfl:=oj H
    exact laws_eqInode.z1
   ·rw[if_neg c5]at H;have Ay:=bN c5;have B9:=bQ c5;obtain rfl:=oj H
    exact laws_eqInode.z1
  ·rw[if_neg c4]at H;have A5:=bN c4;have AA:=bQ c4;obtain rfl:=oj H
   exact laws_eqInode.z1
 ·rw[if_neg c3]at H;have Z:=bN c3;have A2:=bQ c3;obtain rfl:=oj H
  exact laws_eqInode.z1
def laws_eqInodeS.l0:Nat→List (S130)→List (S130)→Int→Option (Bool)
 | 0,_,_,_=>none
 |k+1,x0,x1,x5=>if x5<(x0.length:Int)then(if 0≤x5 then(if x5<(x1.length:Int)then((laws_eqInode.f ((rd_T130 x0 x5).f0) ((rd_T130 x0 x5).f1) ((rd_T130 x0 x5).f2) ((rd_T130 x1 x5).f0) ((rd_T130 x1 x5).f1) ((rd_T130 x1 x5).f2)).bind fun Ba=>(if Ba=true then(laws_eqInodeS.l0 k x0 x1 (wrap64 (x5+1)))else(some false)))else(none))else(none))else(some true)
def laws_eqInodeS.f (k:Nat) (l0:List (S130)) (l1:List (S130)):Option (Bool):=if(l0.length:Int)=(l1.length:Int)then(laws_eqInodeS.l0 k l0 l1 0)else(some false)
def laws_eqInodeS.T6:Bool×List (List Nat×List Nat):=(true,[([],[]),([],[]),([0,1],[0,1]),([2],[2]),([],[]),([],[]),([4,5],[4,5]),([6],[6]),([3,7],[3,7]),([8],[8])])
def laws_eqInodeS.B6:List Nat:=[0,0,3,7,0,0,48,112,255,511]
theorem laws_eqInodeS.tab6:rtab .any (opsOf Tryz.f61 6)=laws_eqInodeS.T6:=by kernel_rfl
theorem laws_eqInodeS.bits6:waitsOk laws_eqInodeS.T6.2 laws_eqInodeS.B6=true:=by kernel_rfl
theorem laws_eqInodeS.calls (k:Nat) (A0:Option Addr) (c0:Nat) (l0:List (S130)) (A1:Option Addr) (c1:Nat) (l1:List (S130)) (r:Bool) (w:World) (AB:Kd.C k130 w A0 l0.length l0) (AC:l0.length≤c0) (AD:Kd.C k130 w A1 l1.length l1) (AE:l1.length≤c1) (h:laws_eqInodeS.f k l0 l1=some r) :
 Calls Tryz.prog 61 #[.slice A0 l0.length c0,.slice A1 l1.length c1] w fun e w'=>e = .returned (.bool r)∧Below w.heap.size w w':=by
 have Bs:=Tryz.underlying130;have Bb:=aK AB;have Bz:=aK AC;clear AB AC;have Bc:=aK AD;have B_:=aK AE;clear AD AE;have HB:=aK (Below.refl w.heap.size w);have H:=h;unfold laws_eqInodeS.f at H;clear h;by_cases c3:(l0.length:Int)=(l1.length:Int)
 ·rw[if_pos c3]at H;have Z:=bT c3;have A2:=bE c3;have Ar:(l0.length==l1.length)=true:=by first|simpa using c3|(simp at c3 ⊢;omega)
  clear c3;have H':=aK H;clear H
  go_enter Tryz.func61,Tryz.ntmps61
  go_wp2
  go_loopg [5] k (fun kq v5 w'=>∃(D:Int),v5 = .int .i64 D∧Aside0 (laws_eqInodeS.l0 kq l0 l1 D=some r)∧Aside0 (kq≤k)∧Aside0 (Below w.heap.size w w'))
  case atStart=>exact⟨(0),fa,H',⟨Nat.le_refl _⟩,⟨bl⟩⟩
  case round=>
   clear H';(try clear c1);(try clear p2);(try clear c3);(try clear Z);(try clear A2);(try clear Ar);obtain⟨D,rfl,HA,AF,HB⟩:=hrel;cases gk with
   |zero=>exact absurd HA.o (by simp[laws_eqInodeS.l0])
   |succ k1=>
    have H:=HA.o;clear HA;simp only[laws_eqInodeS.l0]at H;by_cases c4:D<(l0.length:Int)
    ·rw[if_pos c4]at H;have A5:=dt c4;clear c4;by_cases c5:0≤D
     ·rw[if_pos c5]at H;have Ay:=dt c5;clear c5;have Hq_:=aK H;clear H;(try go_wp2);replace HB:=dW HB;have Bd:0≤(D:Int):=dT am;have Be:D<(l0.length:Int):=dT am;obtain⟨At,BA,A9,Aa,Ab⟩:=at_T130 Bb.o D Bd Be;have AG:=Ab;have AH:=Aa;have AI:=A9;cases BA;replace A9:=cz HB A9;replace Aa:=cz HB Aa;replace Ab:=cz HB Ab;replace Bd:=eq_true Bd;replace Be:=eq_true Be;have Bf:0≤(D:Int):=dT am;have H:=Hq_.o;clear Hq_;by_cases c6:D<(l1.length:Int)
      ·rw[if_pos c6]at H;have Au:=dt c6;(try rw[Au]);clear c6;obtain⟨Ba,A7,H⟩:=bd H;have Hq_:=aK H;clear H;have Bg:D<(l1.length:Int):=dT am;obtain⟨Av,BB,Ac,Ad,Ae⟩:=at_T130 Bc.o D Bf Bg;have AJ:=Ae;have AK:=Ad;have AL:=Ac;cases BB;replace Ac:=cz HB Ac;replace Ad:=cz HB Ad;replace Ae:=cz HB Ae;replace Bf:=eq_true Bf;replace Bg:=eq_true Bg;refine start_ (n:=10) (S:=fun w'=>w'.cell? (At.add ((D).toNat*3))=some (.int .i64 ((rd_T130 l0 D).f0))∧w'.cell? ⟨(At.add ((D).toNat*3)).block,(At.add ((D).toNat*3)).off+1,none⟩=some (.string ((rd_T130 l0 D).f1))∧w'.cell? ⟨(At.add ((D).toNat*3)).block,(At.add ((D).toNat*3)).off+2,none⟩=some (.int .i64 ((rd_T130 l0 D).f2))∧w'.cell? (Av.add ((D).toNat*3))=some (.int .i64 ((rd_T130 l1 D).f0))∧w'.cell? ⟨(Av.add ((D).toNat*3)).block,(Av.add ((D).toNat*3)).off+1,none⟩=some (.string ((rd_T130 l1 D).f1))∧w'.cell? ⟨(Av.add ((D).toNat*3)).block,(Av.add ((D).toNat*3)).off+2,none⟩=some (.int .i64 ((rd_T130 l1 D).f2))) (ds:=[]) (bo 10 0) (by kernel_rfl) rfl rfl ⟨(cy HB AI),(cy HB AH),(cy HB AG),(cy HB AL),(cy HB AK),(cy HB AJ)⟩ (fun hHeld=>?_)
       refine with_tabW laws_eqInodeS.tab6 laws_eqInodeS.bits6 (fun HT_ HW_=>?_);generalize wr.drew=BC at HB A9 Aa Ab Ac Ad Ae hHeld ⊢;refine pV 0 17 (bo 10 1) ?_;refine pV 1 18 (bo 10 3) ?_;refine pV 2 19 (bo 10 7) ?_;refine pV 4 21 (bo 10 23) ?_;refine pV 5 22 (bo 10 55) ?_;refine pV 6 23 (bo 10 119) ?_;refine tV 3 20 (bo 10 127) ?_;refine tV 7 24 (bo 10 255) ?_;refine o1 8 25 (bo 10 511) (fun K hK=>?_);refine goes_ Tryz.func127 (by kernel_rfl) rfl #[.agg #[.int .i64 ((rd_T130 l0 D).f0),.string ((rd_T130 l0 D).f1),.int .i64 ((rd_T130 l0 D).f2)],.agg #[.int .i64 ((rd_T130 l1 D).f0),.string ((rd_T130 l1 D).f1),.int .i64 ((rd_T130 l1 D).f2)]] (by rfl) rfl rfl sa ?_;(with_reducible refine(laws_eqInode.calls ((rd_T130 l0 D).f0) ((rd_T130 l0 D).f1) ((rd_T130 l0 D).f2) ((rd_T130 l1 D).f0) ((rd_T130 l1 D).f1) ((rd_T130 l1 D).f2) _ _ A7.o).mono ?_);rintro e BD ⟨rfl,hb⟩;refine⟨_,rfl,?_⟩;replace HB:=bS HB hb;(try clear hb BE hk hi);refine hK.out _ _ ⟨(cy HB AI),(cy HB AH),(cy HB AG),(cy HB AL),(cy HB AK),(cy HB AJ)⟩ (fun hHeld=>?_);clear hK K;refine nm 25 ?_;refine pV 9 26 (bo 10 1023) ?_;have H:=Hq_.o;clear Hq_;by_cases c8:Ba=true
       ·subst c8;replace H:=iT H;have H':=aK H;clear H;refine done_ (done_of HT_.o (by kernel_rfl)) ?_;(try go_wp2)
        go_roundg k1
        case measure=>have:=AF.o;omega
        case rel=>exact⟨(wrap64 (D+1)),fa,H',⟨by have:=AF.o;omega⟩,⟨bl⟩⟩
       ·replace c8:=bF c8;subst c8;replace H:=iF H;obtain rfl:=oj H;refine done_ (done_of HT_.o (by kernel_rfl)) ?_;(try go_wp2)
        go_ret
        exact⟨fe,bl⟩
      ·rw[if_neg c6]at H;exact absurd H (by simp)
     ·rw[if_neg c5]at H;exact absurd H (by simp)
    ·rw[if_neg c4]at H;have A5:=df c4;clear c4;obtain rfl:=oj H;go_wp2
     go_ret
     exact⟨fe,bl⟩
 ·rw[if_neg c3]at H;have Z:=bN c3;have A2:=bQ c3;have Ar:(l0.length==l1.length)=false:=by first|simpa using c3|(simp at c3 ⊢;omega)
  obtain rfl:=oj H
  go_enter Tryz.func61,Tryz.ntmps61
  go_wp2
  go_ret
  exact⟨fe,bl⟩
def laws_eqLink.f (J:ByteArray) (U:Int) (X:ByteArray) (Y:Int):Option (Bool):=if J.toList=X.toList then(if U=Y then(some true)else(some false))else(some false)
theorem laws_eqLink.z1 {p:Prop} (h:p:=by
 go_enter Tryz.func128,Tryz.ntmps128
 go_wp2_with (first|((with_reducible refine gD 2 rfl ?_);refine boxZ 2 #[.string J,.int .i64 U] 133 ?_;intro BO hg Bx hbox hb;have Aw:=aK hbox;have BP:=gW HB hg;replace HB:=bS HB hb;clear hb hbox hg)|((with_reducible refine gD 3 rfl ?_);refine boxZ 3 #[.string X,.int .i64 Y] 133 ?_;intro BQ hg By hbox hb;have Bt:=aK hbox;have BR:=gW HB hg;replace HB:=bS HB hb;have B0:=nl Aw hg;have B1:=nr Aw hg;replace Aw:=bv Aw hb;clear hb hbox hg;have B7:=B0.o;have B8:=B1.o;obtain⟨_,_,_,_⟩:=cf2 Aw;obtain⟨_,_,_,_⟩:=cf2 Bt))
 go_ret
 exact⟨fe,bl⟩):p:=h
theorem laws_eqLink.calls (J:ByteArray) (U:Int) (X:ByteArray) (Y:Int) (r:Bool) (w:World) (h:laws_eqLink.f J U X Y=some r) :
 Calls Tryz.prog 128 #[.agg #[.string J,.int .i64 U],.agg #[.string X,.int .i64 Y]] w fun e w'=>e = .returned (.bool r)∧Below w.heap.size w w':=by
 have Bu:=Tryz.underlying133;have HB:=aK (Below.refl w.heap.size w);have H:=h;unfold laws_eqLink.f at H;clear h;by_cases c3:J.toList=X.toList
 ·rw[if_pos c3]at H;have Z:=bT c3;have A2:=bE c3;clear c3;by_cases c4:U=Y
  ·rw[if_pos c4]at H;have A5:=bT c4;have AA:=bE c4;clear c4;obtain rfl:=oj H
   exact laws_eqLink.z1
  ·rw[if_neg c4]at H;have A5:=bN c4;have AA:=bQ c4;obtain rfl:=oj H
   exact laws_eqLink.z1
 ·rw[if_neg c3]at H;have Z:=bN c3;have A2:=bQ c3;obtain rfl:=oj H
  exact laws_eqLink.z1
def laws_eqLinkS.l0:Nat→List (S133)→List (S133)→Int→Option (Bool)
 | 0,_,_,_=>none
 |k+1,x0,x1,x5=>if x5<(x0.length:Int)then(if 0≤x5 then(if x5<(x1.length:Int)then((laws_eqLink.f ((rd_T133 x0 x5).f0) ((rd_T133 x0 x5).f1) ((rd_T133 x1 x5).f0) ((rd_T133 x1 x5).f1)).bind fun Bh=>(if Bh=true then(laws_eqLinkS.l0 k x0 x1 (wrap64 (x5+1)))else(some false)))else(none))else(none))else(some true)
def laws_eqLinkS.f (k:Nat) (l0:List (S133)) (l1:List (S133)):Option (Bool):=if(l0.length:Int)=(l1.length:Int)then(laws_eqLinkS.l0 k l0 l1 0)else(some false)
def laws_eqLinkS.T6:Bool×List (List Nat×List Nat):=(true,[([],[]),([],[]),([0,1],[0,1]),([2],[2]),([],[]),([],[]),([4,5],[4,5]),([6],[6]),([3,7],[3,7]),([8],[8])])
def laws_eqLinkS.B6:List Nat:=[0,0,3,7,0,0,48,112,255,511]
theorem laws_eqLinkS.tab6:rtab .any (opsOf Tryz.f62 6)=laws_eqLinkS.T6:=by kernel_rfl
theorem laws_eqLinkS.bits6:waitsOk laws_eqLinkS.T6.2 laws_eqLinkS.B6=true:=by kernel_rfl
theorem laws_eqLinkS.calls (k:Nat) (A0:Option Addr) (c0:Nat) (l0:List (S133)) (A1:Option Addr) (c1:Nat) (l1:List (S133)) (r:Bool) (w:World) (AB:Kd.C k133 w A0 l0.length l0) (AC:l0.length≤c0) (AD:Kd.C k133 w A1 l1.length l1) (AE:l1.length≤c1) (h:laws_eqLinkS.f k l0 l1=some r) :
 Calls Tryz.prog 62 #[.slice A0 l0.length c0,.slice A1 l1.length c1] w fun e w'=>e = .returned (.bool r)∧Below w.heap.size w w':=by
 have Bu:=Tryz.underlying133;have Bb:=aK AB;have Bz:=aK AC;clear AB AC;have Bc:=aK AD;have B_:=aK AE;clear AD AE;have HB:=aK (Below.refl w.heap.size w);have H:=h;unfold laws_eqLinkS.f at H;clear h;by_cases c3:(l0.length:Int)=(l1.length:Int)
 ·rw[if_pos c3]at H;have Z:=bT c3;have A2:=bE c3;have Ar:(l0.length==l1.length)=true:=by first|simpa using c3|(simp at c3 ⊢;omega)
  clear c3;have H':=aK H;clear H
  go_enter Tryz.func62,Tryz.ntmps62
  go_wp2
  go_loopg [5] k (fun kq v5 w'=>∃(D:Int),v5 = .int .i64 D∧Aside0 (laws_eqLinkS.l0 kq l0 l1 D=some r)∧Aside0 (kq≤k)∧Aside0 (Below w.heap.size w w'))
  case atStart=>exact⟨(0),fa,H',⟨Nat.le_refl _⟩,⟨bl⟩⟩
  case round=>
   clear H';(try clear c1);(try clear p2);(try clear c3);(try clear Z);(try clear A2);(try clear Ar);obtain⟨D,rfl,HA,AF,HB⟩:=hrel;cases gk with
   |zero=>exact absurd HA.o (by simp[laws_eqLinkS.l0])
   |succ k1=>
    have H:=HA.o;clear HA;simp only[laws_eqLinkS.l0]at H;by_cases c4:D<(l0.length:Int)
    ·rw[if_pos c4]at H;have A5:=dt c4;clear c4;by_cases c5:0≤D
     ·rw[if_pos c5]at H;have Ay:=dt c5;clear c5;have Hq_:=aK H;clear H;(try go_wp2);replace HB:=dW HB;have Bi:0≤(D:Int):=dT am;have Bj:D<(l0.length:Int):=dT am;obtain⟨B2,BF,Af,Ag⟩:=at_T133 Bb.o D Bi Bj;have AM:=Ag;have AN:=Af;cases BF;replace Af:=cz HB Af;replace Ag:=cz HB Ag;replace Bi:=eq_true Bi;replace Bj:=eq_true Bj;have Bk:0≤(D:Int):=dT am;have H:=Hq_.o;clear Hq_;by_cases c6:D<(l1.length:Int)
      ·rw[if_pos c6]at H;have Au:=dt c6;(try rw[Au]);clear c6;obtain⟨Bh,A7,H⟩:=bd H;have Hq_:=aK H;clear H;have Bl:D<(l1.length:Int):=dT am;obtain⟨B3,BG,Ah,Ai⟩:=at_T133 Bc.o D Bk Bl;have AO:=Ai;have AP:=Ah;cases BG;replace Ah:=cz HB Ah;replace Ai:=cz HB Ai;replace Bk:=eq_true Bk;replace Bl:=eq_true Bl;refine start_ (n:=10) (S:=fun w'=>w'.cell? (B2.add ((D).toNat*2))=some (.string ((rd_T133 l0 D).f0))∧w'.cell? ⟨(B2.add ((D).toNat*2)).block,(B2.add ((D).toNat*2)).off+1,none⟩=some (.int .i64 ((rd_T133 l0 D).f1))∧w'.cell? (B3.add ((D).toNat*2))=some (.string ((rd_T133 l1 D).f0))∧w'.cell? ⟨(B3.add ((D).toNat*2)).block,(B3.add ((D).toNat*2)).off+1,none⟩=some (.int .i64 ((rd_T133 l1 D).f1))) (ds:=[]) (bo 10 0) (by kernel_rfl) rfl rfl ⟨(cy HB AN),(cy HB AM),(cy HB AP),(cy HB AO)⟩ (fun hHeld=>?_);refine with_tabW laws_eqLinkS.tab6 laws_eqLinkS.bits6 (fun HT_ HW_=>?_);generalize wr.drew=BC at HB Af Ag Ah Ai hHeld ⊢;refine pV 0 17 (bo 10 1) ?_;refine pV 1 18 (bo 10 3) ?_;refine pV 2 19 (bo 10 7) ?_;refine pV 4 21 (bo 10 23) ?_;refine pV 5 22 (bo 10 55) ?_;refine pV 6 23 (bo 10 119) ?_;refine tV 3 20 (bo 10 127) ?_;refine tV 7 24 (bo 10 255) ?_
       refine o1 8 25 (bo 10 511) (fun K hK=>?_);refine goes_ Tryz.func128 (by kernel_rfl) rfl #[.agg #[.string ((rd_T133 l0 D).f0),.int .i64 ((rd_T133 l0 D).f1)],.agg #[.string ((rd_T133 l1 D).f0),.int .i64 ((rd_T133 l1 D).f1)]] (by rfl) rfl rfl sa ?_;(with_reducible refine(laws_eqLink.calls ((rd_T133 l0 D).f0) ((rd_T133 l0 D).f1) ((rd_T133 l1 D).f0) ((rd_T133 l1 D).f1) _ _ A7.o).mono ?_);rintro e BD ⟨rfl,hb⟩;refine⟨_,rfl,?_⟩;replace HB:=bS HB hb;(try clear hb BE hk hi);refine hK.out _ _ ⟨(cy HB AN),(cy HB AM),(cy HB AP),(cy HB AO)⟩ (fun hHeld=>?_);clear hK K;refine nm 25 ?_;refine pV 9 26 (bo 10 1023) ?_;have H:=Hq_.o;clear Hq_;by_cases c8:Bh=true
       ·subst c8;replace H:=iT H;have H':=aK H;clear H;refine done_ (done_of HT_.o (by kernel_rfl)) ?_;(try go_wp2)
        go_roundg k1
        case measure=>have:=AF.o;omega
        case rel=>exact⟨(wrap64 (D+1)),fa,H',⟨by have:=AF.o;omega⟩,⟨bl⟩⟩
       ·replace c8:=bF c8;subst c8;replace H:=iF H;obtain rfl:=oj H;refine done_ (done_of HT_.o (by kernel_rfl)) ?_;(try go_wp2)
        go_ret
        exact⟨fe,bl⟩
      ·rw[if_neg c6]at H;exact absurd H (by simp)
     ·rw[if_neg c5]at H;exact absurd H (by simp)
    ·rw[if_neg c4]at H;have A5:=df c4;clear c4;obtain rfl:=oj H;go_wp2
     go_ret
     exact⟨fe,bl⟩
 ·rw[if_neg c3]at H;have Z:=bN c3;have A2:=bQ c3;have Ar:(l0.length==l1.length)=false:=by first|simpa using c3|(simp at c3 ⊢;omega)
  obtain rfl:=oj H
  go_enter Tryz.func62,Tryz.ntmps62
  go_wp2
  go_ret
  exact⟨fe,bl⟩
def laws_eqMove.f (J:Int) (U:ByteArray) (A3:ByteArray) (Az:Int) (X:Int) (Y:ByteArray) (A4:ByteArray) (A_:Int):Option (Bool):=if J=X then(if U.toList=Y.toList then(if A3.toList=A4.toList then(if Az=A_ then(some true)else(some false))else(some false))else(some false))else(some false)
theorem laws_eqMove.z1 {p:Prop} (h:p:=by
 go_enter Tryz.func129,Tryz.ntmps129
 go_wp2_with (first|((with_reducible refine gD 2 rfl ?_);refine boxZ 2 #[.int .i64 J,.string U,.string A3,.int .i64 Az] 135 ?_;intro BS hg Bx hbox hb;have Ax:=aK hbox;have BT:=gW HB hg;replace HB:=bS HB hb;clear hb hbox hg)|((with_reducible refine gD 3 rfl ?_);refine boxZ 3 #[.int .i64 X,.string Y,.string A4,.int .i64 A_] 135 ?_;intro BU hg By hbox hb;have Bv:=aK hbox;have BV:=gW HB hg;replace HB:=bS HB hb;have B4:=nl Ax hg;have B5:=nr Ax hg;replace Ax:=bv Ax hb;clear hb hbox hg;have B7:=B4.o;have B8:=B5.o;obtain⟨_,_,_,_,_,_,_,_⟩:=cf4 Ax;obtain⟨_,_,_,_,_,_,_,_⟩:=cf4 Bv))
 go_ret
 exact⟨fe,bl⟩):p:=h
theorem laws_eqMove.calls (J:Int) (U:ByteArray) (A3:ByteArray) (Az:Int) (X:Int) (Y:ByteArray) (A4:ByteArray) (A_:Int) (r:Bool) (w:World) (h:laws_eqMove.f J U A3 Az X Y A4 A_=some r) :
 Calls Tryz.prog 129 #[.agg #[.int .i64 J,.string U,.string A3,.int .i64 Az],.agg #[.int .i64 X,.string Y,.string A4,.int .i64 A_]] w fun e w'=>e = .returned (.bool r)∧Below w.heap.size w w':=by
 have Bw:=Tryz.underlying135;have HB:=aK (Below.refl w.heap.size w);have H:=h;unfold laws_eqMove.f at H;clear h;by_cases c3:J=X
 ·rw[if_pos c3]at H;have Z:=bT c3;have A2:=bE c3;clear c3;by_cases c4:U.toList=Y.toList
  ·rw[if_pos c4]at H;have A5:=bT c4;have AA:=bE c4;clear c4;by_cases c5:A3.toList=A4.toList
   ·rw[if_pos c5]at H;have Ay:=bT c5;have B9:=bE c5;clear c5;by_cases c6:Az=A_
    ·rw[if_pos c6]at H;have Au:=bT c6;have BH:=bE c6;clear c6;obtain rfl:=oj H
     exact laws_eqMove.z1
    ·rw[if_neg c6]at H;have Au:=bN c6;have BH:=bQ c6;obtain rfl:=oj H
     exact laws_eqMove.z1
   ·rw[if_neg c5]at H;have Ay:=bN c5;have B9:=bQ c5;obtain rfl:=oj H
    exact laws_eqMove.z1
  ·rw[if_neg c4]at H;have A5:=bN c4;have AA:=bQ c4;obtain rfl:=oj H
   exact laws_eqMove.z1
 ·rw[if_neg c3]at H;have Z:=bN c3;have A2:=bQ c3;obtain rfl:=oj H
  exact laws_eqMove.z1
def laws_eqMoveS.l0:Nat→List (S135)→List (S135)→Int→Option (Bool)
 | 0,_,_,_=>none
 |k+1,x0,x1,x5=>if x5<(x0.length:Int)then(if 0≤x5 then(if x5<(x1.length:Int)then((laws_eqMove.f ((rd_T135 x0 x5).f0) ((rd_T135 x0 x5).f1) ((rd_T135 x0 x5).f2) ((rd_T135 x0 x5).f3) ((rd_T135 x1 x5).f0) ((rd_T135 x1 x5).f1) ((rd_T135 x1 x5).f2) ((rd_T135 x1 x5).f3)).bind fun Bm=>(if Bm=true then(laws_eqMoveS.l0 k x0 x1 (wrap64 (x5+1)))else(some false)))else(none))else(none))else(some true)
def laws_eqMoveS.f (k:Nat) (l0:List (S135)) (l1:List (S135)):Option (Bool):=if(l0.length:Int)=(l1.length:Int)then(laws_eqMoveS.l0 k l0 l1 0)else(some false)
def laws_eqMoveS.T6:Bool×List (List Nat×List Nat):=(true,[([],[]),([],[]),([0,1],[0,1]),([2],[2]),([],[]),([],[]),([4,5],[4,5]),([6],[6]),([3,7],[3,7]),([8],[8])])
def laws_eqMoveS.B6:List Nat:=[0,0,3,7,0,0,48,112,255,511]
theorem laws_eqMoveS.tab6:rtab .any (opsOf Tryz.f63 6)=laws_eqMoveS.T6:=by kernel_rfl
theorem laws_eqMoveS.bits6:waitsOk laws_eqMoveS.T6.2 laws_eqMoveS.B6=true:=by kernel_rfl
theorem laws_eqMoveS.calls (k:Nat) (A0:Option Addr) (c0:Nat) (l0:List (S135)) (A1:Option Addr) (c1:Nat) (l1:List (S135)) (r:Bool) (w:World) (AB:Kd.C k135 w A0 l0.length l0) (AC:l0.length≤c0) (AD:Kd.C k135 w A1 l1.length l1) (AE:l1.length≤c1) (h:laws_eqMoveS.f k l0 l1=some r) :
 Calls Tryz.prog 63 #[.slice A0 l0.length c0,.slice A1 l1.length c1] w fun e w'=>e = .returned (.bool r)∧Below w.heap.size w w':=by
 have Bw:=Tryz.underlying135;have Bb:=aK AB;have Bz:=aK AC;clear AB AC;have Bc:=aK AD;have B_:=aK AE;clear AD AE;have HB:=aK (Below.refl w.heap.size w);have H:=h;unfold laws_eqMoveS.f at H;clear h;by_cases c3:(l0.length:Int)=(l1.length:Int)
 ·rw[if_pos c3]at H;have Z:=bT c3;have A2:=bE c3;have Ar:(l0.length==l1.length)=true:=by first|simpa using c3|(simp at c3 ⊢;omega)
  clear c3;have H':=aK H;clear H
  go_enter Tryz.func63,Tryz.ntmps63
  go_wp2
  go_loopg [5] k (fun kq v5 w'=>∃(D:Int),v5 = .int .i64 D∧Aside0 (laws_eqMoveS.l0 kq l0 l1 D=some r)∧Aside0 (kq≤k)∧Aside0 (Below w.heap.size w w'))
  case atStart=>exact⟨(0),fa,H',⟨Nat.le_refl _⟩,⟨bl⟩⟩
  case round=>
   clear H';(try clear c1);(try clear p2);(try clear c3);(try clear Z);(try clear A2);(try clear Ar);obtain⟨D,rfl,HA,AF,HB⟩:=hrel;cases gk with
   |zero=>exact absurd HA.o (by simp[laws_eqMoveS.l0])
   |succ k1=>
    have H:=HA.o;clear HA;simp only[laws_eqMoveS.l0]at H;by_cases c4:D<(l0.length:Int)
    ·rw[if_pos c4]at H;have A5:=dt c4;clear c4;by_cases c5:0≤D
     ·rw[if_pos c5]at H;have Ay:=dt c5;clear c5;have Hq_:=aK H;clear H;(try go_wp2);replace HB:=dW HB;have Bn:0≤(D:Int):=dT am;have Bo:D<(l0.length:Int):=dT am;obtain⟨A6,BI,Aj,Ak,Al,Am⟩:=at_T135 Bb.o D Bn Bo;have AQ:=Am;have AR:=Al;have AS:=Ak;have AT:=Aj;cases BI;replace Aj:=cz HB Aj;replace Ak:=cz HB Ak;replace Al:=cz HB Al;replace Am:=cz HB Am;replace Bn:=eq_true Bn;replace Bo:=eq_true Bo;have Bp:0≤(D:Int):=dT am;have H:=Hq_.o;clear Hq_;by_cases c6:D<(l1.length:Int)
      ·rw[if_pos c6]at H;have Au:=dt c6;(try rw[Au]);clear c6;obtain⟨Bm,A7,H⟩:=bd H;have Hq_:=aK H;clear H;have Bq:D<(l1.length:Int):=dT am;obtain⟨A8,BJ,An,Ao,Ap,Aq⟩:=at_T135 Bc.o D Bp Bq;have AU:=Aq;have AV:=Ap;have AW:=Ao;have AX:=An;cases BJ;replace An:=cz HB An;replace Ao:=cz HB Ao;replace Ap:=cz HB Ap;replace Aq:=cz HB Aq;replace Bp:=eq_true Bp;replace Bq:=eq_true Bq
       refine start_ (n:=10) (S:=fun w'=>w'.cell? (A6.add ((D).toNat*4))=some (.int .i64 ((rd_T135 l0 D).f0))∧w'.cell? ⟨(A6.add ((D).toNat*4)).block,(A6.add ((D).toNat*4)).off+1,none⟩=some (.string ((rd_T135 l0 D).f1))∧w'.cell? ⟨(A6.add ((D).toNat*4)).block,(A6.add ((D).toNat*4)).off+2,none⟩=some (.string ((rd_T135 l0 D).f2))∧w'.cell? ⟨(A6.add ((D).toNat*4)).block,(A6.add ((D).toNat*4)).off+3,none⟩=some (.int .i64 ((rd_T135 l0 D).f3))∧w'.cell? (A8.add ((D).toNat*4))=some (.int .i64 ((rd_T135 l1 D).f0))∧w'.cell? ⟨(A8.add ((D).toNat*4)).block,(A8.add ((D).toNat*4)).off+1,none⟩=some (.string ((rd_T135 l1 D).f1))∧w'.cell? ⟨(A8.add ((D).toNat*4)).block,(A8.add ((D).toNat*4)).off+2,none⟩=some (.string ((rd_T135 l1 D).f2))∧w'.cell? ⟨(A8.add ((D).toNat*4)).block,(A8.add ((D).toNat*4)).off+3,none⟩=some (.int .i64 ((rd_T135 l1 D).f3))) (ds:=[]) (bo 10 0) (by kernel_rfl) rfl rfl ⟨(cy HB AT),(cy HB AS),(cy HB AR),(cy HB AQ),(cy HB AX),(cy HB AW),(cy HB AV),(cy HB AU)⟩ (fun hHeld=>?_);refine with_tabW laws_eqMoveS.tab6 laws_eqMoveS.bits6 (fun HT_ HW_=>?_);generalize wr.drew=BC at HB Aj Ak Al Am An Ao Ap Aq hHeld ⊢;refine pV 0 17 (bo 10 1) ?_;refine pV 1 18 (bo 10 3) ?_;refine pV 2 19 (bo 10 7) ?_
       refine pV 4 21 (bo 10 23) ?_;refine pV 5 22 (bo 10 55) ?_;refine pV 6 23 (bo 10 119) ?_;refine tV 3 20 (bo 10 127) ?_;refine tV 7 24 (bo 10 255) ?_;refine o1 8 25 (bo 10 511) (fun K hK=>?_);refine goes_ Tryz.func129 (by kernel_rfl) rfl #[.agg #[.int .i64 ((rd_T135 l0 D).f0),.string ((rd_T135 l0 D).f1),.string ((rd_T135 l0 D).f2),.int .i64 ((rd_T135 l0 D).f3)],.agg #[.int .i64 ((rd_T135 l1 D).f0),.string ((rd_T135 l1 D).f1),.string ((rd_T135 l1 D).f2),.int .i64 ((rd_T135 l1 D).f3)]] (by rfl) rfl rfl sa ?_;(with_reducible refine(laws_eqMove.calls ((rd_T135 l0 D).f0) ((rd_T135 l0 D).f1) ((rd_T135 l0 D).f2) ((rd_T135 l0 D).f3) ((rd_T135 l1 D).f0) ((rd_T135 l1 D).f1) ((rd_T135 l1 D).f2) ((rd_T135 l1 D).f3) _ _ A7.o).mono ?_);rintro e BD ⟨rfl,hb⟩;refine⟨_,rfl,?_⟩;replace HB:=bS HB hb;(try clear hb BE hk hi);refine hK.out _ _ ⟨(cy HB AT),(cy HB AS),(cy HB AR),(cy HB AQ),(cy HB AX),(cy HB AW),(cy HB AV),(cy HB AU)⟩ (fun hHeld=>?_);clear hK K;refine nm 25 ?_;refine pV 9 26 (bo 10 1023) ?_;have H:=Hq_.o;clear Hq_;by_cases c8:Bm=true
       ·subst c8;replace H:=iT H;have H':=aK H;clear H;refine done_ (done_of HT_.o (by kernel_rfl)) ?_;(try go_wp2)
        go_roundg k1
        case measure=>have:=AF.o;omega
        case rel=>exact⟨(wrap64 (D+1)),fa,H',⟨by have:=AF.o;omega⟩,⟨bl⟩⟩
       ·replace c8:=bF c8;subst c8;replace H:=iF H;obtain rfl:=oj H;refine done_ (done_of HT_.o (by kernel_rfl)) ?_;(try go_wp2)
        go_ret
        exact⟨fe,bl⟩
      ·rw[if_neg c6]at H;exact absurd H (by simp)
     ·rw[if_neg c5]at H;exact absurd H (by simp)
    ·rw[if_neg c4]at H;have A5:=df c4;clear c4;obtain rfl:=oj H;go_wp2
     go_ret
     exact⟨fe,bl⟩
 ·rw[if_neg c3]at H;have Z:=bN c3;have A2:=bQ c3;have Ar:(l0.length==l1.length)=false:=by first|simpa using c3|(simp at c3 ⊢;omega)
  obtain rfl:=oj H
  go_enter Tryz.func63,Tryz.ntmps63
  go_wp2
  go_ret
  exact⟨fe,bl⟩
end Go.Proofs.YtndbmllnkjngnaaGreat.PDs
