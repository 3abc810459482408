/- Functions of the program, each with its contract, written by a program out of the translation. -/
import Derived.Test.YtndbmllnkjngnaaGreatPDsx0
import Derived.Test.YtndbmllnkjngnaaGreatZup
namespace Go.Proofs.YtndbmllnkjngnaaGreat.PDs
open Go.RowKit Go.Proofs.YtndbmllnkjngnaaGreatW.PrintWords Go.Proofs.YtndbmllnkjngnaaGreatW.PrintLast Go.Proofs.YtndbmllnkjngnaaGreatW.PrintMore Go.Proofs.YtndbmllnkjngnaaGreat.Zip
attribute [local go_sem] max2_int min2_int max_two min_two max_three min_three max_four min_four
set_option linter.unusedVariables false
set_option linter.unusedSimpArgs false
set_option maxHeartbeats 8000000
set_option maxRecDepth 100000
def laws_szInode.f (U:Int) (J:ByteArray) (Y:Int) (X:Int):Option (Int):=if(wrap64 (X-(J.size:Int)))<0 then(some (-1))else(some (wrap64 (X-(J.size:Int))))
theorem laws_szInode.z1 {p:Prop} (h:p:=by
 go_enter Tryz.func96,Tryz.ntmps96
 go_wp2_with (first|((with_reducible refine gD 2 rfl ?_);refine boxW ?_;intro Bc hg AL hbox hb;have AT:=aK hbox;have Bd:=gW HB hg;replace HB:=bS HB hb;clear hb hbox hg;have:=cf3 AT))
 go_ret
 exact⟨fe,bl⟩):p:=h
theorem laws_szInode.calls (U:Int) (J:ByteArray) (Y:Int) (X:Int) (r:Int) (w:World) (h:laws_szInode.f U J Y X=some r) :
 Calls Tryz.prog 96 #[.agg #[.int .i64 U,.string J,.int .i64 Y],.int .i64 X] w fun e w'=>e = .returned (.int .i64 r)∧Below w.heap.size w w':=by
 have AU:=Tryz.underlying121;have HB:=aK (Below.refl w.heap.size w);have H:=h;unfold laws_szInode.f at H;clear h;by_cases c3:(wrap64 (X-(J.size:Int)))<0
 ·rw[if_pos c3]at H;have Z:=dt c3;clear c3;obtain rfl:=oj H
  exact laws_szInode.z1
 ·rw[if_neg c3]at H;have Z:=df c3;clear c3;obtain rfl:=oj H
  exact laws_szInode.z1
def laws_szInodeS.l0:Nat→List (S121)→Int→Int→Option (Int)
 | 0,_,_,_=>none
 |k+1,x0,x1,x5=>if x5<(x0.length:Int)then(if 0≤x5 then((laws_szInode.f ((rd_T121 x0 x5).f0) ((rd_T121 x0 x5).f1) ((rd_T121 x0 x5).f2) x1).bind fun Ac=>(if Ac<0 then(some (-1))else(laws_szInodeS.l0 k x0 Ac (wrap64 (x5+1)))))else(none))else(some x1)
def laws_szInodeS.f (k:Nat) (l0:List (S121)) (X:Int):Option (Int):=if(wrap64 (X-(l0.length:Int)))<0 then(some (-1))else(laws_szInodeS.l0 k l0 (wrap64 (X-(l0.length:Int))) 0)
theorem laws_szInodeS.z1 {p:Prop} (h:p:=by
 go_wp2_with (first|((with_reducible refine gC 96 rfl ?_);refine goesW Tryz.func96 ?_;(with_reducible refine(laws_szInode.calls ((rd_T121 l0 D).f0) ((rd_T121 l0 D).f1) ((rd_T121 l0 D).f2) A1 Ac _ A6.o).mono ?_);rintro e B7 ⟨rfl,hb⟩;refine⟨_,rfl,?_⟩;replace HB:=bS HB hb;(try clear hb)))
 (first|(have _:=Av;go_ret;exact⟨fe,bl⟩)|(have _:=Aw;(go_roundg k1);(case measure=>have:=Ah.o;omega);(case rel=>exact⟨(Ac),(wrap64 (D+1)),fa,fa,H',⟨by have:=Ah.o;omega⟩,⟨bl⟩⟩)))):p:=h
theorem laws_szInodeS.calls (k:Nat) (A0:Option Addr) (c0:Nat) (l0:List (S121)) (X:Int) (r:Int) (w:World) (Ai:Kd.C k121 w A0 l0.length l0) (Aj:l0.length≤c0) (h:laws_szInodeS.f k l0 X=some r) :
 Calls Tryz.prog 39 #[.slice A0 l0.length c0,.int .i64 X] w fun e w'=>e = .returned (.int .i64 r)∧Below w.heap.size w w':=by
 have AU:=Tryz.underlying121;have Ax:=aK Ai;have B8:=aK Aj;clear Ai Aj;have HB:=aK (Below.refl w.heap.size w);have H:=h;unfold laws_szInodeS.f at H;clear h;by_cases c3:(wrap64 (X-(l0.length:Int)))<0
 ·rw[if_pos c3]at H;have Z:=dt c3;clear c3;obtain rfl:=oj H
  go_enter Tryz.func39,Tryz.ntmps39
  go_wp2
  go_ret
  exact⟨fe,bl⟩
 ·rw[if_neg c3]at H;have Z:=df c3;clear c3;have H':=aK H;clear H
  go_enter Tryz.func39,Tryz.ntmps39
  go_wp2
  go_loopg [1,5] k (fun kq v1 v5 w'=>∃(A1:Int) (D:Int),v1 = .int .i64 A1∧v5 = .int .i64 D∧Aside0 (laws_szInodeS.l0 kq l0 A1 D=some r)∧Aside0 (kq≤k)∧Aside0 (Below w.heap.size w w'))
  case atStart=>exact⟨(wrap64 (X-(l0.length:Int))),(0),fa,fa,H',⟨Nat.le_refl _⟩,⟨bl⟩⟩
  case round=>
   clear H';(try clear p2);(try clear c3);(try clear Z);obtain⟨A1,D,rfl,rfl,HA,Ah,HB⟩:=hrel;cases gk with
   |zero=>exact absurd HA.o (by simp[laws_szInodeS.l0])
   |succ k1=>
    have H:=HA.o;clear HA;simp only[laws_szInodeS.l0]at H;by_cases c4:D<(l0.length:Int)
    ·rw[if_pos c4]at H;have Ab:=dt c4;clear c4;by_cases c5:0≤D
     ·rw[if_pos c5]at H;have AM:=dt c5;clear c5;obtain⟨Ac,A6,H⟩:=bd H;have Hq_:=aK H;clear H;have Ay:0≤(D:Int):=dT am;have Az:D<(l0.length:Int):=dT am;obtain⟨Be,B9,Ak,Al,Am⟩:=at_T121 Ax.o D Ay Az;cases B9;replace Ak:=cz HB Ak;replace Al:=cz HB Al;replace Am:=cz HB Am;replace Ay:=eq_true Ay;replace Az:=eq_true Az;have H:=Hq_.o;clear Hq_;by_cases c7:Ac<0
      ·rw[if_pos c7]at H;have A4:=dt c7;(try rw[A4]);clear c7;obtain rfl:=oj H;have Av:=trivial;exact laws_szInodeS.z1
      ·rw[if_neg c7]at H;have A4:=df c7;(try rw[A4]);clear c7;have H':=aK H;clear H;have Aw:=trivial;exact laws_szInodeS.z1
     ·rw[if_neg c5]at H;exact absurd H (by simp)
    ·rw[if_neg c4]at H;have Ab:=df c4;clear c4;obtain rfl:=oj H;go_wp2
     go_ret
     exact⟨fe,bl⟩
def laws_szLink.f (U:ByteArray) (J:Int) (X:Int):Option (Int):=if(wrap64 (X-(U.size:Int)))<0 then(some (-1))else(some (wrap64 (X-(U.size:Int))))
theorem laws_szLink.z1 {p:Prop} (h:p:=by
 go_enter Tryz.func97,Tryz.ntmps97
 go_wp2_with (first|((with_reducible refine gD 2 rfl ?_);refine boxW ?_;intro Bf hg AL hbox hb;have AV:=aK hbox;have Bg:=gW HB hg;replace HB:=bS HB hb;clear hb hbox hg;have:=cf2 AV))
 go_ret
 exact⟨fe,bl⟩):p:=h
theorem laws_szLink.calls (U:ByteArray) (J:Int) (X:Int) (r:Int) (w:World) (h:laws_szLink.f U J X=some r) :
 Calls Tryz.prog 97 #[.agg #[.string U,.int .i64 J],.int .i64 X] w fun e w'=>e = .returned (.int .i64 r)∧Below w.heap.size w w':=by
 have AW:=Tryz.underlying124;have HB:=aK (Below.refl w.heap.size w);have H:=h;unfold laws_szLink.f at H;clear h;by_cases c3:(wrap64 (X-(U.size:Int)))<0
 ·rw[if_pos c3]at H;have Z:=dt c3;clear c3;obtain rfl:=oj H
  exact laws_szLink.z1
 ·rw[if_neg c3]at H;have Z:=df c3;clear c3;obtain rfl:=oj H
  exact laws_szLink.z1
def laws_szLinkS.l0:Nat→List (S124)→Int→Int→Option (Int)
 | 0,_,_,_=>none
 |k+1,x0,x1,x5=>if x5<(x0.length:Int)then(if 0≤x5 then((laws_szLink.f ((rd_T124 x0 x5).f0) ((rd_T124 x0 x5).f1) x1).bind fun Ad=>(if Ad<0 then(some (-1))else(laws_szLinkS.l0 k x0 Ad (wrap64 (x5+1)))))else(none))else(some x1)
def laws_szLinkS.f (k:Nat) (l0:List (S124)) (X:Int):Option (Int):=if(wrap64 (X-(l0.length:Int)))<0 then(some (-1))else(laws_szLinkS.l0 k l0 (wrap64 (X-(l0.length:Int))) 0)
theorem laws_szLinkS.z1 {p:Prop} (h:p:=by
 go_wp2_with (first|((with_reducible refine gC 97 rfl ?_);refine goesW Tryz.func97 ?_;(with_reducible refine(laws_szLink.calls ((rd_T124 l0 D).f0) ((rd_T124 l0 D).f1) A1 Ad _ A6.o).mono ?_);rintro e B7 ⟨rfl,hb⟩;refine⟨_,rfl,?_⟩;replace HB:=bS HB hb;(try clear hb)))
 (first|(have _:=Av;go_ret;exact⟨fe,bl⟩)|(have _:=Aw;(go_roundg k1);(case measure=>have:=Ah.o;omega);(case rel=>exact⟨(Ad),(wrap64 (D+1)),fa,fa,H',⟨by have:=Ah.o;omega⟩,⟨bl⟩⟩)))):p:=h
theorem laws_szLinkS.calls (k:Nat) (A0:Option Addr) (c0:Nat) (l0:List (S124)) (X:Int) (r:Int) (w:World) (Ai:Kd.C k124 w A0 l0.length l0) (Aj:l0.length≤c0) (h:laws_szLinkS.f k l0 X=some r) :
 Calls Tryz.prog 40 #[.slice A0 l0.length c0,.int .i64 X] w fun e w'=>e = .returned (.int .i64 r)∧Below w.heap.size w w':=by
 have AW:=Tryz.underlying124;have Ax:=aK Ai;have B8:=aK Aj;clear Ai Aj;have HB:=aK (Below.refl w.heap.size w);have H:=h;unfold laws_szLinkS.f at H;clear h;by_cases c3:(wrap64 (X-(l0.length:Int)))<0
 ·rw[if_pos c3]at H;have Z:=dt c3;clear c3;obtain rfl:=oj H
  go_enter Tryz.func40,Tryz.ntmps40
  go_wp2
  go_ret
  exact⟨fe,bl⟩
 ·rw[if_neg c3]at H;have Z:=df c3;clear c3;have H':=aK H;clear H
  go_enter Tryz.func40,Tryz.ntmps40
  go_wp2
  go_loopg [1,5] k (fun kq v1 v5 w'=>∃(A1:Int) (D:Int),v1 = .int .i64 A1∧v5 = .int .i64 D∧Aside0 (laws_szLinkS.l0 kq l0 A1 D=some r)∧Aside0 (kq≤k)∧Aside0 (Below w.heap.size w w'))
  case atStart=>exact⟨(wrap64 (X-(l0.length:Int))),(0),fa,fa,H',⟨Nat.le_refl _⟩,⟨bl⟩⟩
  case round=>
   clear H';(try clear p2);(try clear c3);(try clear Z);obtain⟨A1,D,rfl,rfl,HA,Ah,HB⟩:=hrel;cases gk with
   |zero=>exact absurd HA.o (by simp[laws_szLinkS.l0])
   |succ k1=>
    have H:=HA.o;clear HA;simp only[laws_szLinkS.l0]at H;by_cases c4:D<(l0.length:Int)
    ·rw[if_pos c4]at H;have Ab:=dt c4;clear c4;by_cases c5:0≤D
     ·rw[if_pos c5]at H;have AM:=dt c5;clear c5;obtain⟨Ad,A6,H⟩:=bd H;have Hq_:=aK H;clear H;have A_:0≤(D:Int):=dT am;have AA:D<(l0.length:Int):=dT am;obtain⟨Bh,Ba,An,Ao⟩:=at_T124 Ax.o D A_ AA;cases Ba;replace An:=cz HB An;replace Ao:=cz HB Ao;replace A_:=eq_true A_;replace AA:=eq_true AA;have H:=Hq_.o;clear Hq_;by_cases c7:Ad<0
      ·rw[if_pos c7]at H;have A4:=dt c7;(try rw[A4]);clear c7;obtain rfl:=oj H;have Av:=trivial;exact laws_szLinkS.z1
      ·rw[if_neg c7]at H;have A4:=df c7;(try rw[A4]);clear c7;have H':=aK H;clear H;have Aw:=trivial;exact laws_szLinkS.z1
     ·rw[if_neg c5]at H;exact absurd H (by simp)
    ·rw[if_neg c4]at H;have Ab:=df c4;clear c4;obtain rfl:=oj H;go_wp2
     go_ret
     exact⟨fe,bl⟩
def laws_szMove.f (U:Int) (J:ByteArray) (Y:ByteArray) (A5:Int) (X:Int):Option (Int):=if(wrap64 (X-(J.size:Int)))<0 then(some (-1))else(if(wrap64 ((wrap64 (X-(J.size:Int)))-(Y.size:Int)))<0 then(some (-1))else(some (wrap64 ((wrap64 (X-(J.size:Int)))-(Y.size:Int)))))
theorem laws_szMove.z1 {p:Prop} (h:p:=by
 go_enter Tryz.func98,Tryz.ntmps98
 go_wp2_with (first|((with_reducible refine gD 2 rfl ?_);refine boxW ?_;intro Bi hg AL hbox hb;have AX:=aK hbox;have Bj:=gW HB hg;replace HB:=bS HB hb;clear hb hbox hg;have:=cf4 AX))
 go_ret
 exact⟨fe,bl⟩):p:=h
theorem laws_szMove.calls (U:Int) (J:ByteArray) (Y:ByteArray) (A5:Int) (X:Int) (r:Int) (w:World) (h:laws_szMove.f U J Y A5 X=some r) :
 Calls Tryz.prog 98 #[.agg #[.int .i64 U,.string J,.string Y,.int .i64 A5],.int .i64 X] w fun e w'=>e = .returned (.int .i64 r)∧Below w.heap.size w w':=by
 have AY:=Tryz.underlying127;have HB:=aK (Below.refl w.heap.size w);have H:=h;unfold laws_szMove.f at H;clear h;by_cases c3:(wrap64 (X-(J.size:Int)))<0
 ·rw[if_pos c3]at H;have Z:=dt c3;clear c3;obtain rfl:=oj H
  exact laws_szMove.z1
 ·rw[if_neg c3]at H;have Z:=df c3;clear c3;by_cases c6:(wrap64 ((wrap64 (X-(J.size:Int)))-(Y.size:Int)))<0
  ·rw[if_pos c6]at H;have AB:=dt c6;clear c6;obtain rfl:=oj H
   exact laws_szMove.z1
  ·rw[if_neg c6]at H;have AB:=df c6;clear c6;obtain rfl:=oj H
   exact laws_szMove.z1
def laws_szMoveS.l0:Nat→List (S127)→Int→Int→Option (Int)
 | 0,_,_,_=>none
 |k+1,x0,x1,x5=>if x5<(x0.length:Int)then(if 0≤x5 then((laws_szMove.f ((rd_T127 x0 x5).f0) ((rd_T127 x0 x5).f1) ((rd_T127 x0 x5).f2) ((rd_T127 x0 x5).f3) x1).bind fun Ae=>(if Ae<0 then(some (-1))else(laws_szMoveS.l0 k x0 Ae (wrap64 (x5+1)))))else(none))else(some x1)
def laws_szMoveS.f (k:Nat) (l0:List (S127)) (X:Int):Option (Int):=if(wrap64 (X-(l0.length:Int)))<0 then(some (-1))else(laws_szMoveS.l0 k l0 (wrap64 (X-(l0.length:Int))) 0)
theorem laws_szMoveS.z1 {p:Prop} (h:p:=by
 go_wp2_with (first|((with_reducible refine gC 98 rfl ?_);refine goesW Tryz.func98 ?_;(with_reducible refine(laws_szMove.calls ((rd_T127 l0 D).f0) ((rd_T127 l0 D).f1) ((rd_T127 l0 D).f2) ((rd_T127 l0 D).f3) A1 Ae _ A6.o).mono ?_);rintro e B7 ⟨rfl,hb⟩;refine⟨_,rfl,?_⟩;replace HB:=bS HB hb;(try clear hb)))
 (first|(have _:=Av;go_ret;exact⟨fe,bl⟩)|(have _:=Aw;(go_roundg k1);(case measure=>have:=Ah.o;omega);(case rel=>exact⟨(Ae),(wrap64 (D+1)),fa,fa,H',⟨by have:=Ah.o;omega⟩,⟨bl⟩⟩)))):p:=h
theorem laws_szMoveS.calls (k:Nat) (A0:Option Addr) (c0:Nat) (l0:List (S127)) (X:Int) (r:Int) (w:World) (Ai:Kd.C k127 w A0 l0.length l0) (Aj:l0.length≤c0) (h:laws_szMoveS.f k l0 X=some r) :
 Calls Tryz.prog 41 #[.slice A0 l0.length c0,.int .i64 X] w fun e w'=>e = .returned (.int .i64 r)∧Below w.heap.size w w':=by
 have AY:=Tryz.underlying127;have Ax:=aK Ai;have B8:=aK Aj;clear Ai Aj;have HB:=aK (Below.refl w.heap.size w);have H:=h;unfold laws_szMoveS.f at H;clear h;by_cases c3:(wrap64 (X-(l0.length:Int)))<0
 ·rw[if_pos c3]at H;have Z:=dt c3;clear c3;obtain rfl:=oj H
  go_enter Tryz.func41,Tryz.ntmps41
  go_wp2
  go_ret
  exact⟨fe,bl⟩
 ·rw[if_neg c3]at H;have Z:=df c3;clear c3;have H':=aK H;clear H
  go_enter Tryz.func41,Tryz.ntmps41
  go_wp2
  go_loopg [1,5] k (fun kq v1 v5 w'=>∃(A1:Int) (D:Int),v1 = .int .i64 A1∧v5 = .int .i64 D∧Aside0 (laws_szMoveS.l0 kq l0 A1 D=some r)∧Aside0 (kq≤k)∧Aside0 (Below w.heap.size w w'))
  case atStart=>exact⟨(wrap64 (X-(l0.length:Int))),(0),fa,fa,H',⟨Nat.le_refl _⟩,⟨bl⟩⟩
  case round=>
   clear H';(try clear p2);(try clear c3);(try clear Z);obtain⟨A1,D,rfl,rfl,HA,Ah,HB⟩:=hrel;cases gk with
   |zero=>exact absurd HA.o (by simp[laws_szMoveS.l0])
   |succ k1=>
    have H:=HA.o;clear HA;simp only[laws_szMoveS.l0]at H;by_cases c4:D<(l0.length:Int)
    ·rw[if_pos c4]at H;have Ab:=dt c4;clear c4;by_cases c5:0≤D
     ·rw[if_pos c5]at H;have AM:=dt c5;clear c5;obtain⟨Ae,A6,H⟩:=bd H;have Hq_:=aK H;clear H;have AC:0≤(D:Int):=dT am;have AD:D<(l0.length:Int):=dT am;obtain⟨Bk,Bb,Ap,Aq,Ar,As⟩:=at_T127 Ax.o D AC AD;cases Bb;replace Ap:=cz HB Ap;replace Aq:=cz HB Aq;replace Ar:=cz HB Ar;replace As:=cz HB As;replace AC:=eq_true AC;replace AD:=eq_true AD;have H:=Hq_.o;clear Hq_;by_cases c7:Ae<0
      ·rw[if_pos c7]at H;have A4:=dt c7;(try rw[A4]);clear c7;obtain rfl:=oj H;have Av:=trivial;exact laws_szMoveS.z1
      ·rw[if_neg c7]at H;have A4:=df c7;(try rw[A4]);clear c7;have H':=aK H;clear H;have Aw:=trivial;exact laws_szMoveS.z1
     ·rw[if_neg c5]at H;exact absurd H (by simp)
    ·rw[if_neg c4]at H;have Ab:=df c4;clear c4;obtain rfl:=oj H;go_wp2
     go_ret
     exact⟨fe,bl⟩
def laws_szDisk.f (k:Nat) (U:Int) (J:Int) (A7:List (S121)) (A9:List (S124)) (Aa:List (S127)) (X:Int):Option (Int):=(laws_szInodeS.f k A7 X).bind fun Af=>(if Af<0 then(some (-1))else((laws_szLinkS.f k A9 Af).bind fun Ag=>(if Ag<0 then(some (-1))else((laws_szMoveS.f k Aa Ag).bind fun At=>(if At<0 then(some (-1))else(some At))))))
theorem laws_szDisk.z1 {p:Prop} (h:p:=by
 go_enter Tryz.func8,Tryz.ntmps8
 go_wp2_with (first|((with_reducible refine gD 2 rfl ?_);refine boxW ?_;intro Bl hg AL hbox hb;have A2:=aK hbox;have Bm:=gW HB hg;replace HB:=bS HB hb;clear hb hbox hg;have:=cf5 A2)|((with_reducible refine gC 39 rfl ?_);refine goesW Tryz.func39 ?_;(with_reducible refine(laws_szInodeS.calls k _ _ A7 X Af _ ?_ ?_ A3.o).mono ?_);exact cB AZ HB;exact B0.o;rintro e Bs ⟨rfl,hb⟩;refine⟨_,rfl,?_⟩;replace A2:=bv A2 hb;replace HB:=bS HB hb;(try clear hb);have:=cf5 A2)|((with_reducible refine gC 40 rfl ?_);refine goesW Tryz.func40 ?_;(with_reducible refine(laws_szLinkS.calls k _ _ A9 Af Ag _ ?_ ?_ A8.o).mono ?_);exact cB B1 HB;exact B2.o;rintro e Bt ⟨rfl,hb⟩;refine⟨_,rfl,?_⟩;replace A2:=bv A2 hb;replace HB:=bS HB hb;(try clear hb);have:=cf5 A2)|((with_reducible refine gC 41 rfl ?_);refine goesW Tryz.func41 ?_;(with_reducible refine(laws_szMoveS.calls k _ _ Aa Ag At _ ?_ ?_ Bn.o).mono ?_);exact cB B3 HB;exact B4.o;rintro e Bu ⟨rfl,hb⟩;refine⟨_,rfl,?_⟩;replace A2:=bv A2 hb;replace HB:=bS HB hb;(try clear hb)))
 go_ret
 exact⟨fe,bl⟩):p:=h
theorem laws_szDisk.calls (k:Nat) (U:Int) (J:Int) (AN:Option Addr) (AO:Nat) (A7:List (S121)) (AP:Option Addr) (AQ:Nat) (A9:List (S124)) (AR:Option Addr) (AS:Nat) (Aa:List (S127)) (X:Int) (r:Int) (w:World) (AE:Kd.C k121 w AN A7.length A7) (AF:A7.length≤AO) (AG:Kd.C k124 w AP A9.length A9) (AH:A9.length≤AQ) (AI:Kd.C k127 w AR Aa.length Aa) (AJ:Aa.length≤AS) (h:laws_szDisk.f k U J A7 A9 Aa X=some r) :
 Calls Tryz.prog 8 #[.agg #[.int .i64 U,.int .i64 J,.slice AN A7.length AO,.slice AP A9.length AQ,.slice AR Aa.length AS],.int .i64 X] w fun e w'=>e = .returned (.int .i64 r)∧Below w.heap.size w w':=by
 have Bq:=Tryz.underlying26;have AZ:=aK AE;have B0:=aK AF;clear AE AF;have B1:=aK AG;have B2:=aK AH;clear AG AH;have B3:=aK AI;have B4:=aK AJ;clear AI AJ;have HB:=aK (Below.refl w.heap.size w);have H:=h;unfold laws_szDisk.f at H;clear h;obtain⟨Af,A3,H⟩:=bd H;by_cases c4:Af<0
 ·rw[if_pos c4]at H;have Ab:=dt c4;clear c4;obtain rfl:=oj H
  exact laws_szDisk.z1
 ·rw[if_neg c4]at H;have Ab:=df c4;clear c4;obtain⟨Ag,A8,H⟩:=bd H;by_cases c9:Ag<0
  ·rw[if_pos c9]at H;have AK:=dt c9;clear c9;obtain rfl:=oj H
   exact laws_szDisk.z1
  ·rw[if_neg c9]at H;have AK:=df c9;clear c9;obtain⟨At,Bn,H⟩:=bd H;by_cases Au:At<0
   ·rw[if_pos Au]at H;have B5:=dt Au;clear Au;obtain rfl:=oj H
    exact laws_szDisk.z1
   ·rw[if_neg Au]at H;have B5:=df Au;clear Au;obtain rfl:=oj H
    exact laws_szDisk.z1
def laws_szStep.f (U:Int) (J:ByteArray) (Y:ByteArray) (A5:ByteArray) (X:Int):Option (Int):=if(wrap64 (X-(J.size:Int)))<0 then(some (-1))else(if(wrap64 ((wrap64 (X-(J.size:Int)))-(Y.size:Int)))<0 then(some (-1))else(if(wrap64 ((wrap64 ((wrap64 (X-(J.size:Int)))-(Y.size:Int)))-(A5.size:Int)))<0 then(some (-1))else(some (wrap64 ((wrap64 ((wrap64 (X-(J.size:Int)))-(Y.size:Int)))-(A5.size:Int))))))
theorem laws_szStep.z1 {p:Prop} (h:p:=by
 go_enter Tryz.func9,Tryz.ntmps9
 go_wp2_with (first|((with_reducible refine gD 2 rfl ?_);refine boxW ?_;intro Bo hg AL hbox hb;have B6:=aK hbox;have Bp:=gW HB hg;replace HB:=bS HB hb;clear hb hbox hg;have:=cf4 B6))
 go_ret
 exact⟨fe,bl⟩):p:=h
theorem laws_szStep.calls (U:Int) (J:ByteArray) (Y:ByteArray) (A5:ByteArray) (X:Int) (r:Int) (w:World) (h:laws_szStep.f U J Y A5 X=some r) :
 Calls Tryz.prog 9 #[.agg #[.int .i64 U,.string J,.string Y,.string A5],.int .i64 X] w fun e w'=>e = .returned (.int .i64 r)∧Below w.heap.size w w':=by
 have Br:=Tryz.underlying28;have HB:=aK (Below.refl w.heap.size w);have H:=h;unfold laws_szStep.f at H;clear h;by_cases c3:(wrap64 (X-(J.size:Int)))<0
 ·rw[if_pos c3]at H;have Z:=dt c3;clear c3;obtain rfl:=oj H
  exact laws_szStep.z1
 ·rw[if_neg c3]at H;have Z:=df c3;clear c3;by_cases c6:(wrap64 ((wrap64 (X-(J.size:Int)))-(Y.size:Int)))<0
  ·rw[if_pos c6]at H;have AB:=dt c6;clear c6;obtain rfl:=oj H
   exact laws_szStep.z1
  ·rw[if_neg c6]at H;have AB:=df c6;clear c6;by_cases c9:(wrap64 ((wrap64 ((wrap64 (X-(J.size:Int)))-(Y.size:Int)))-(A5.size:Int)))<0
   ·rw[if_pos c9]at H;have AK:=dt c9;clear c9;obtain rfl:=oj H
    exact laws_szStep.z1
   ·rw[if_neg c9]at H;have AK:=df c9;clear c9;obtain rfl:=oj H
    exact laws_szStep.z1
def laws_toInode.f (X:Int) (Y:ByteArray) (Ac:Int):Option (Int×ByteArray×Int):=some (X,Y,Ac)
theorem laws_toInode.calls (X:Int) (Y:ByteArray) (Ac:Int) (r1:Int) (r2:ByteArray) (r3:Int) (w:World) (h:laws_toInode.f X Y Ac=some (r1,r2,r3)) :
 Calls Tryz.prog 111 #[.agg #[.int .i64 X,.string Y,.int .i64 Ac]] w fun e w'=>e = .returned (.agg #[.int .i64 r1,.string r2,.int .i64 r3])∧Below w.heap.size w w':=by
 have CG:=Tryz.underlying121;have CH:=Tryz.underlying130;have HB:=aK (Below.refl w.heap.size w);have H:=h;unfold laws_toInode.f at H;clear h;simp only[Option.some.injEq,Prod.mk.injEq]at H;obtain⟨rfl,rfl,rfl⟩:=H
 go_enter Tryz.func111,Tryz.ntmps111
 go_wp2_with (first|((with_reducible refine gD 1 rfl ?_);refine boxW ?_;intro Df hg w2 hbox hb;have Ah:=aK hbox;have Dg:=gW HB hg;replace HB:=bS HB hb;clear hb hbox hg)|((with_reducible refine gD 2 rfl ?_);refine boxW ?_;intro CI hg w3 hbox hb;have AE:=aK hbox;have Dh:=gW HB hg;replace HB:=bS HB hb;have Bn:=nl Ah hg;have Bo:=nr Ah hg;replace Ah:=bv Ah hb;clear hb hbox hg)|((with_reducible refine gD 3 rfl ?_);refine boxW ?_;intro Di hg w4 hbox hb;have CJ:=aK hbox;have Dj:=gW HB hg;replace HB:=bS HB hb;have Bp:=nl Ah hg;have Bq:=nr Ah hg;replace Ah:=bv Ah hb;have Br:=nl AE hg;have Bs:=nr AE hg;replace AE:=bv AE hb;clear hb hbox hg;have C7:=Bn.o;have C8:=Bo.o;have C9:=Bp.o;have Ca:=Bq.o;have:=cf3 Ah;have BZ:=Bs.o;have C0:=Br.o;have:=cf3 CJ;have:=cf3 AE))
 refine bodyPost_ret (results_cell_row rfl _ _ CI 130 #[.int .i64 X,.string Y,.int .i64 Ac] (0,0) _ rfl bkk Tryz.underlying130 rfl (by kernel_rfl)) rfl ?_;exact⟨fe,bl⟩
def laws_toInodeS.l0:Nat→List (S121)→List (S130)→Int→Option ((List (S130)))
 | 0,_,_,_=>none
 |k+1,x0,x3,x4=>if x4<(x0.length:Int)then(if 0≤x4 then((laws_toInode.f ((rd_T121 x0 x4).f0) ((rd_T121 x0 x4).f1) ((rd_T121 x0 x4).f2)).bind fun Bt=>(if x4<(x3.length:Int)then(laws_toInodeS.l0 k x0 (x3.set (x4:Int).toNat (⟨Bt.1,Bt.2.1,Bt.2.2⟩:S130)) (wrap64 (x4+1)))else(none)))else(none))else(some x3)
def laws_toInodeS.f (k:Nat) (l0:List (S121)):Option ((List (S130))):=if 0≤(l0.length:Int)then(if((l0.length:Int):Int).toNat≤8796093022208 then(laws_toInodeS.l0 k l0 (List.replicate ((l0.length:Int):Int).toNat z130) 0)else(none))else(none)
theorem laws_toInodeS.calls (k:Nat) (A0:Option Addr) (c0:Nat) (l0:List (S121)) (r:List (S130)) (w:World) (B3:Kd.C k121 w A0 l0.length l0) (B4:l0.length≤c0) (h:laws_toInodeS.f k l0=some r) :
 Calls Tryz.prog 50 #[.slice A0 l0.length c0] w fun e w'=>∃B5:Value,e = .returned (B5)∧Kd.R k130 130 w' w.heap.size (fun _=>True) B5 r∧Below w.heap.size w w':=by
 have CG:=Tryz.underlying121;have CH:=Tryz.underlying130;have Cb:=aK B3;have D3:=aK B4;clear B3 B4;have HB:=aK (Below.refl w.heap.size w);have H:=h;unfold laws_toInodeS.f at H;clear h;by_cases c2:0≤(l0.length:Int)
 ·rw[if_pos c2]at H;have B6:=eq_true c2;have B7:=dt c2;clear c2;by_cases c3:((l0.length:Int):Int).toNat≤8796093022208
  ·rw[if_pos c3]at H;have B8:=eq_true c3;have B9:=dt c3;clear c3;obtain⟨D4,Bu⟩:=yy (List.replicate ((l0.length:Int):Int).toNat z130);rw[←Bu]at H;(try rw[obs]at H)
   have Cc:=aK Bu;clear Bu;have H':=aK H;clear H
   go_enter Tryz.func50,Tryz.ntmps50
   go_wp2_with (first|((with_reducible refine gD 7 rfl ?_);refine Kd.R_make k130 _ 130 rfl (N:=7) rfl 31 _ _ rfl (l0.length:Int) rfl rfl Tryz.underlying31 (.agg #[(.int .i64 0),(.string ⟨#[]⟩),(.int .i64 0)]) 32 info130 rfl (by decide) (by omega) z130 (ok:=fun _=>True) (okp:=fun _=>True) (k130_mkM _ _ _ z130) (fun _ hk=>hk) trivial (dT am) (Nat.le_trans (Nat.mul_le_mul_right _ (dT am:(l0.length:Int).toNat≤8796093022208)) (by omega)) (Below.refl _ _) (Nat.le_refl _) ?_;intro Cd D5 Ad hb hg_ hnew_;clear hg_ hnew_;(first|rw[←Cc.o]at Ad|(simp only[Int.reduceToNat]at Ad;rw[←Cc.o]at Ad));have Ba:=rl HB Ad;replace HB:=bS HB hb;clear hb Ad))
   go_loopg [4] k (fun kq v4 w'=>∃(J:List (S130)) (D:Int),v4 = .int .i64 D∧Aside0 (laws_toInodeS.l0 kq l0 J D=some r)∧Aside0 (kq≤k)∧Aside0 (Kd.R k130 130 w' w.heap.size (fun _=>True) Cd J)∧Aside0 (Below w.heap.size w w'))
   case atStart=>exact⟨(D4),(0),fa,H',⟨Nat.le_refl _⟩,⟨rpR Ba.o⟩,⟨bl⟩⟩
   case round=>
    clear H';(try clear c2);(try clear B6);(try clear B7);(try clear p2);(try clear c3);(try clear B8);(try clear B9);(try clear c5);obtain⟨J,D,rfl,HA,Bb,Z,HB⟩:=hrel;cases gk with
    |zero=>exact absurd HA.o (by simp[laws_toInodeS.l0])
    |succ k1=>
     have H:=HA.o;clear HA;simp only[laws_toInodeS.l0]at H;by_cases c6:D<(l0.length:Int)
     ·rw[if_pos c6]at H;have Bc:=dt c6;clear c6;by_cases c7:0≤D
      ·rw[if_pos c7]at H;have Cv:=dt c7;clear c7;replace H:=oB H;obtain⟨⟨AO,AP,AQ⟩,Bd,H⟩:=H;dsimp only at H;have A8:=aK Bd;clear Bd;by_cases c9:D<(J.length:Int)
       ·rw[if_pos c9]at H;have Cw:=dt c9;clear c9;obtain⟨Cx,Bv⟩:=yy (J.set (D:Int).toNat (⟨AO,AP,AQ⟩:S130));rw[←Bv]at H;(try rw[obs]at H)
        have CK:=aK Bv;clear Bv;have H':=aK H;clear H;have AF:0≤(D:Int):=dT am;have AG:D<(l0.length:Int):=dT am;obtain⟨Cy,Ce,Af,Ag,As⟩:=at_T121 Cb.o D AF AG;cases Ce;replace Af:=cz HB Af;replace Ag:=cz HB Ag;replace As:=cz HB As;replace AF:=eq_true AF;replace AG:=eq_true AG
        go_wp2_with (first|((with_reducible refine gC 111 rfl ?_);refine goesW Tryz.func111 ?_;(with_reducible refine(laws_toInode.calls ((rd_T121 l0 D).f0) ((rd_T121 l0 D).f1) ((rd_T121 l0 D).f2) AO AP AQ _ A8.o).mono ?_);rintro e A5 ⟨rfl,hb⟩;refine⟨_,rfl,?_⟩;replace Z:=rb Z hb;replace HB:=bS HB hb;(try clear hb);have AH:0≤(D:Int):=dT am;have AI:(D:Int)<((J.length:Int):Int):=dT am;obtain⟨U,Ay,Az,A_,Be,Cz,AA⟩:=Kd.R_form Z.o (by omega);(first|cases Az|(injection Az with ea_ en_ ec_;(first|subst ea_|(injection ea_ with ea_;subst ea_));subst ec_;clear en_));have Al:=aK A_;have C_:=aK AA;clear A_ Be AA;obtain⟨CA,AJ,AB,A6,A7⟩:=Kd.R_elem Z.o z130 (D:Int) AH AI;obtain rfl:=k130_openM AB;have C1:A5.cell? ⟨U,(D:Int).toNat*3,none⟩=some (.int .i64 ((rd_T130 J D).f0)):=A6 0 _ rfl;have C2:A5.cell? ⟨U,(D:Int).toNat*3+1,none⟩=some (.string ((rd_T130 J D).f1)):=A6 1 _ rfl;have Cr:A5.cell? ⟨U,(D:Int).toNat*3+2,none⟩=some (.int .i64 ((rd_T130 J D).f2)):=A6 2 _ rfl;have C3:A5.frozen? ⟨U,(D:Int).toNat*3,none⟩=false:=A7 0;have C4:A5.frozen? ⟨U,(D:Int).toNat*3+1,none⟩=false:=A7 1;have Cs:A5.frozen? ⟨U,(D:Int).toNat*3+2,none⟩=false:=A7 2;clear AJ A6 A7 AB;replace AH:=eq_true AH;replace AI:=eq_true AI;have AC:=aK (show Kd.R k130 130 A5 w.heap.size (fun _=>True) (.slice (some ⟨U,0,none⟩) J.length Ay) J from(rpR Z.o));obtain⟨CB,Am,AD,A1,A9⟩:=Kd.R_elem AC.o z130 (D:Int) (dT am) (by have h_:(D:Int)<((J.length:Int):Int):=dT am;first|exact h_|(have e_:=(Kd.R_reads' Z.o).1;omega)|simpa using h_);obtain rfl:=k130_openM AD;have An:=Kd.R_seg AC.o (D:Int) (dT am) (by have h_:(D:Int)<((J.length:Int):Int):=dT am;first|exact h_|(have e_:=(Kd.R_reads' Z.o).1;omega)|simpa using h_) (seg:=[.int .i64 AO,.string AP,.int .i64 AQ]) (j:=0) Am A1 (show 3≤3 from by decide) (x':=(⟨AO,AP,AQ⟩:S130)) (k130_mkM _ _ _ (⟨AO,AP,AQ⟩:S130)) (fun _ hk=>hk);have At:=A1 0 _ rfl;(try simp only[show(k130).sz=3 from rfl,Nat.mul_one,Nat.add_zero]at At);have Au:=A9 0;(try simp only[show(k130).sz=3 from rfl,Nat.mul_one,Nat.add_zero]at Au);have Av:=A1 1 _ rfl;(try simp only[show(k130).sz=3 from rfl,Nat.mul_one,Nat.add_zero]at Av);have Aw:=A9 1;(try simp only[show(k130).sz=3 from rfl,Nat.mul_one,Nat.add_zero]at Aw);have AY:=A1 2 _ rfl;(try simp only[show(k130).sz=3 from rfl,Nat.mul_one,Nat.add_zero]at AY);have AZ:=A9 2;(try simp only[show(k130).sz=3 from rfl,Nat.mul_one,Nat.add_zero]at AZ);clear Am A1 A9 AD)|((with_reducible refine gate_store (t:=130) (p:=21) rfl ?_);refine store_event (t:=130) (p:=21) (v:=?vo_w13) (w1:=(((A5.setCell ⟨U,(D:Int).toNat*3,none⟩ (.int .i64 AO)).setCell ⟨U,(D:Int).toNat*3+1,none⟩ (.string AP)).setCell ⟨U,(D:Int).toNat*3+2,none⟩ (.int .i64 AQ))) ?hg ?ho ?hn ?hr ?_;(case ho=>rfl);(case hg=>rfl);(case hn=>rfl);(case hr=>first|(go_simp;done)|(go_simp;rfl));intro AK hw;have hg:A5.grownBy AK (some U):=(by rw[hw];exact An.2);have hp_:Kd.R k130 130 AK w.heap.size (fun _=>True) (.slice (some ⟨U,0,none⟩) J.length Ay) Cx:=(by rw[hw,CK.o];exact An.1);clear An;replace Z:=aK (hp_);replace HB:=aK ((by rw[hw];exact below_set (below_set (below_set (HB.o) Al.o) Al.o) Al.o:Below w.heap.size w AK));clear hg hw hp_))
        go_roundg k1
        case measure=>have:=Bb.o;omega
        case rel=>exact⟨(Cx),(wrap64 (D+1)),fa,H',⟨by have:=Bb.o;omega⟩,⟨rpR Z.o⟩,⟨bl⟩⟩
       ·rw[if_neg c9]at H;exact absurd H (by simp)
      ·rw[if_neg c7]at H;exact absurd H (by simp)
     ·rw[if_neg c6]at H;have Bc:=df c6;clear c6;obtain rfl:=oj H;go_wp2
      go_ret
      exact⟨_,fe,rpR Z.o,bl⟩
  ·rw[if_neg c3]at H;exact absurd H (by simp)
 ·rw[if_neg c2]at H;exact absurd H (by simp)
def laws_toLink.f (X:ByteArray) (Y:Int):Option (ByteArray×Int):=some (X,Y)
theorem laws_toLink.calls (X:ByteArray) (Y:Int) (r1:ByteArray) (r2:Int) (w:World) (h:laws_toLink.f X Y=some (r1,r2)) :
 Calls Tryz.prog 112 #[.agg #[.string X,.int .i64 Y]] w fun e w'=>e = .returned (.agg #[.string r1,.int .i64 r2])∧Below w.heap.size w w':=by
 have CL:=Tryz.underlying124;have CM:=Tryz.underlying133;have HB:=aK (Below.refl w.heap.size w);have H:=h;unfold laws_toLink.f at H;clear h;simp only[Option.some.injEq,Prod.mk.injEq]at H;obtain⟨rfl,rfl⟩:=H
 go_enter Tryz.func112,Tryz.ntmps112
 go_wp2_with (first|((with_reducible refine gD 1 rfl ?_);refine boxW ?_;intro Dk hg w2 hbox hb;have Ai:=aK hbox;have Dl:=gW HB hg;replace HB:=bS HB hb;clear hb hbox hg)|((with_reducible refine gD 2 rfl ?_);refine boxW ?_;intro CN hg w3 hbox hb;have AL:=aK hbox;have Dm:=gW HB hg;replace HB:=bS HB hb;have Bw:=nl Ai hg;have Bx:=nr Ai hg;replace Ai:=bv Ai hb;clear hb hbox hg)|((with_reducible refine gD 3 rfl ?_);refine boxW ?_;intro Dn hg w4 hbox hb;have CO:=aK hbox;have Do:=gW HB hg;replace HB:=bS HB hb;have By:=nl Ai hg;have Bz:=nr Ai hg;replace Ai:=bv Ai hb;have B_:=nl AL hg;have BA:=nr AL hg;replace AL:=bv AL hb;clear hb hbox hg;have C7:=Bw.o;have C8:=Bx.o;have C9:=By.o;have Ca:=Bz.o;have:=cf2 Ai;have BZ:=BA.o;have C0:=B_.o;have:=cf2 CO;have:=cf2 AL))
 refine bodyPost_ret (results_cell_row rfl _ _ CN 133 #[.string X,.int .i64 Y] (0,0) _ rfl bkk Tryz.underlying133 rfl (by kernel_rfl)) rfl ?_;exact⟨fe,bl⟩
def laws_toLinkS.l0:Nat→List (S124)→List (S133)→Int→Option ((List (S133)))
 | 0,_,_,_=>none
 |k+1,x0,x3,x4=>if x4<(x0.length:Int)then(if 0≤x4 then((laws_toLink.f ((rd_T124 x0 x4).f0) ((rd_T124 x0 x4).f1)).bind fun Cf=>(if x4<(x3.length:Int)then(laws_toLinkS.l0 k x0 (x3.set (x4:Int).toNat (⟨Cf.1,Cf.2⟩:S133)) (wrap64 (x4+1)))else(none)))else(none))else(some x3)
def laws_toLinkS.f (k:Nat) (l0:List (S124)):Option ((List (S133))):=if 0≤(l0.length:Int)then(if((l0.length:Int):Int).toNat≤11728124029610 then(laws_toLinkS.l0 k l0 (List.replicate ((l0.length:Int):Int).toNat z133) 0)else(none))else(none)
theorem laws_toLinkS.calls (k:Nat) (A0:Option Addr) (c0:Nat) (l0:List (S124)) (r:List (S133)) (w:World) (B3:Kd.C k124 w A0 l0.length l0) (B4:l0.length≤c0) (h:laws_toLinkS.f k l0=some r) :
 Calls Tryz.prog 51 #[.slice A0 l0.length c0] w fun e w'=>∃B5:Value,e = .returned (B5)∧Kd.R k133 133 w' w.heap.size (fun _=>True) B5 r∧Below w.heap.size w w':=by
 have CL:=Tryz.underlying124;have CM:=Tryz.underlying133;have Cb:=aK B3;have D3:=aK B4;clear B3 B4;have HB:=aK (Below.refl w.heap.size w);have H:=h;unfold laws_toLinkS.f at H;clear h;by_cases c2:0≤(l0.length:Int)
 ·rw[if_pos c2]at H;have B6:=eq_true c2;have B7:=dt c2;clear c2;by_cases c3:((l0.length:Int):Int).toNat≤11728124029610
  ·rw[if_pos c3]at H;have B8:=eq_true c3;have B9:=dt c3;clear c3;obtain⟨D6,BB⟩:=yy (List.replicate ((l0.length:Int):Int).toNat z133);rw[←BB]at H;(try rw[obs]at H)
   have Cg:=aK BB;clear BB;have H':=aK H;clear H
   go_enter Tryz.func51,Tryz.ntmps51
   go_wp2_with (first|((with_reducible refine gD 7 rfl ?_);refine Kd.R_make k133 _ 133 rfl (N:=7) rfl 32 _ _ rfl (l0.length:Int) rfl rfl Tryz.underlying32 (.agg #[(.string ⟨#[]⟩),(.int .i64 0)]) 24 info133 rfl (by decide) (by omega) z133 (ok:=fun _=>True) (okp:=fun _=>True) (k133_mkM _ _ _ z133) (fun _ hk=>hk) trivial (dT am) (Nat.le_trans (Nat.mul_le_mul_right _ (dT am:(l0.length:Int).toNat≤11728124029610)) (by omega)) (Below.refl _ _) (Nat.le_refl _) ?_;intro Cd D5 Ad hb hg_ hnew_;clear hg_ hnew_;(first|rw[←Cg.o]at Ad|(simp only[Int.reduceToNat]at Ad;rw[←Cg.o]at Ad));have Ba:=rl HB Ad;replace HB:=bS HB hb;clear hb Ad))
   go_loopg [4] k (fun kq v4 w'=>∃(J:List (S133)) (D:Int),v4 = .int .i64 D∧Aside0 (laws_toLinkS.l0 kq l0 J D=some r)∧Aside0 (kq≤k)∧Aside0 (Kd.R k133 133 w' w.heap.size (fun _=>True) Cd J)∧Aside0 (Below w.heap.size w w'))
   case atStart=>exact⟨(D6),(0),fa,H',⟨Nat.le_refl _⟩,⟨rpR Ba.o⟩,⟨bl⟩⟩
   case round=>
    clear H';(try clear c2);(try clear B6);(try clear B7);(try clear p2);(try clear c3);(try clear B8);(try clear B9);(try clear c5);obtain⟨J,D,rfl,HA,Bb,Z,HB⟩:=hrel;cases gk with
    |zero=>exact absurd HA.o (by simp[laws_toLinkS.l0])
    |succ k1=>
     have H:=HA.o;clear HA;simp only[laws_toLinkS.l0]at H;by_cases c6:D<(l0.length:Int)
     ·rw[if_pos c6]at H;have Bc:=dt c6;clear c6;by_cases c7:0≤D
      ·rw[if_pos c7]at H;have Cv:=dt c7;clear c7;replace H:=oB H;obtain⟨⟨AR,AS⟩,Bd,H⟩:=H;dsimp only at H;have A8:=aK Bd;clear Bd;by_cases c9:D<(J.length:Int)
       ·rw[if_pos c9]at H;have Cw:=dt c9;clear c9;obtain⟨CC,BC⟩:=yy (J.set (D:Int).toNat (⟨AR,AS⟩:S133));rw[←BC]at H;(try rw[obs]at H)
        have CP:=aK BC;clear BC;have H':=aK H;clear H;have AF:0≤(D:Int):=dT am;have AG:D<(l0.length:Int):=dT am;obtain⟨Cy,Ce,Af,Ag⟩:=at_T124 Cb.o D AF AG;cases Ce;replace Af:=cz HB Af;replace Ag:=cz HB Ag;replace AF:=eq_true AF;replace AG:=eq_true AG
        go_wp2_with (first|((with_reducible refine gC 112 rfl ?_);refine goesW Tryz.func112 ?_;(with_reducible refine(laws_toLink.calls ((rd_T124 l0 D).f0) ((rd_T124 l0 D).f1) AR AS _ A8.o).mono ?_);rintro e A5 ⟨rfl,hb⟩;refine⟨_,rfl,?_⟩;replace Z:=rb Z hb;replace HB:=bS HB hb;(try clear hb);have AH:0≤(D:Int):=dT am;have AI:(D:Int)<((J.length:Int):Int):=dT am;obtain⟨U,Ay,Az,A_,Be,Cz,AA⟩:=Kd.R_form Z.o (by omega);(first|cases Az|(injection Az with ea_ en_ ec_;(first|subst ea_|(injection ea_ with ea_;subst ea_));subst ec_;clear en_));have Al:=aK A_;have C_:=aK AA;clear A_ Be AA;obtain⟨CA,AJ,AB,A6,A7⟩:=Kd.R_elem Z.o z133 (D:Int) AH AI;obtain rfl:=k133_openM AB;have C1:A5.cell? ⟨U,(D:Int).toNat*2,none⟩=some (.string ((rd_T133 J D).f0)):=A6 0 _ rfl;have C2:A5.cell? ⟨U,(D:Int).toNat*2+1,none⟩=some (.int .i64 ((rd_T133 J D).f1)):=A6 1 _ rfl;have C3:A5.frozen? ⟨U,(D:Int).toNat*2,none⟩=false:=A7 0;have C4:A5.frozen? ⟨U,(D:Int).toNat*2+1,none⟩=false:=A7 1;clear AJ A6 A7 AB;replace AH:=eq_true AH;replace AI:=eq_true AI;have AC:=aK (show Kd.R k133 133 A5 w.heap.size (fun _=>True) (.slice (some ⟨U,0,none⟩) J.length Ay) J from(rpR Z.o));obtain⟨CB,Am,AD,A1,A9⟩:=Kd.R_elem AC.o z133 (D:Int) (dT am) (by have h_:(D:Int)<((J.length:Int):Int):=dT am;first|exact h_|(have e_:=(Kd.R_reads' Z.o).1;omega)|simpa using h_);obtain rfl:=k133_openM AD;have An:=Kd.R_seg AC.o (D:Int) (dT am) (by have h_:(D:Int)<((J.length:Int):Int):=dT am;first|exact h_|(have e_:=(Kd.R_reads' Z.o).1;omega)|simpa using h_) (seg:=[.string AR,.int .i64 AS]) (j:=0) Am A1 (show 2≤2 from by decide) (x':=(⟨AR,AS⟩:S133)) (k133_mkM _ _ _ (⟨AR,AS⟩:S133)) (fun _ hk=>hk);have At:=A1 0 _ rfl;(try simp only[show(k133).sz=2 from rfl,Nat.mul_one,Nat.add_zero]at At);have Au:=A9 0;(try simp only[show(k133).sz=2 from rfl,Nat.mul_one,Nat.add_zero]at Au);have Av:=A1 1 _ rfl;(try simp only[show(k133).sz=2 from rfl,Nat.mul_one,Nat.add_zero]at Av);have Aw:=A9 1;(try simp only[show(k133).sz=2 from rfl,Nat.mul_one,Nat.add_zero]at Aw);clear Am A1 A9 AD)|((with_reducible refine gate_store (t:=133) (p:=21) rfl ?_);refine store_event (t:=133) (p:=21) (v:=?vo_w13) (w1:=((A5.setCell ⟨U,(D:Int).toNat*2,none⟩ (.string AR)).setCell ⟨U,(D:Int).toNat*2+1,none⟩ (.int .i64 AS))) ?hg ?ho ?hn ?hr ?_;(case ho=>rfl);(case hg=>rfl);(case hn=>rfl);(case hr=>first|(go_simp;done)|(go_simp;rfl));intro AK hw;have hg:A5.grownBy AK (some U):=(by rw[hw];exact An.2);have hp_:Kd.R k133 133 AK w.heap.size (fun _=>True) (.slice (some ⟨U,0,none⟩) J.length Ay) CC:=(by rw[hw,CP.o];exact An.1);clear An;replace Z:=aK (hp_);replace HB:=aK ((by rw[hw];exact below_set (below_set (HB.o) Al.o) Al.o:Below w.heap.size w AK));clear hg hw hp_))
        go_roundg k1
        case measure=>have:=Bb.o;omega
        case rel=>exact⟨(CC),(wrap64 (D+1)),fa,H',⟨by have:=Bb.o;omega⟩,⟨rpR Z.o⟩,⟨bl⟩⟩
       ·rw[if_neg c9]at H;exact absurd H (by simp)
      ·rw[if_neg c7]at H;exact absurd H (by simp)
     ·rw[if_neg c6]at H;have Bc:=df c6;clear c6;obtain rfl:=oj H;go_wp2
      go_ret
      exact⟨_,fe,rpR Z.o,bl⟩
  ·rw[if_neg c3]at H;exact absurd H (by simp)
 ·rw[if_neg c2]at H;exact absurd H (by simp)
def laws_toMove.f (X:Int) (Y:ByteArray) (Ac:ByteArray) (Ao:Int):Option (Int×ByteArray×ByteArray×Int):=some (X,Y,Ac,Ao)
theorem laws_toMove.calls (X:Int) (Y:ByteArray) (Ac:ByteArray) (Ao:Int) (r1:Int) (r2:ByteArray) (r3:ByteArray) (r4:Int) (w:World) (h:laws_toMove.f X Y Ac Ao=some (r1,r2,r3,r4)) :
 Calls Tryz.prog 113 #[.agg #[.int .i64 X,.string Y,.string Ac,.int .i64 Ao]] w fun e w'=>e = .returned (.agg #[.int .i64 r1,.string r2,.string r3,.int .i64 r4])∧Below w.heap.size w w':=by
 have CQ:=Tryz.underlying127;have CR:=Tryz.underlying135;have HB:=aK (Below.refl w.heap.size w);have H:=h;unfold laws_toMove.f at H;clear h;simp only[Option.some.injEq,Prod.mk.injEq]at H;obtain⟨rfl,rfl,rfl,rfl⟩:=H
 go_enter Tryz.func113,Tryz.ntmps113
 go_wp2_with (first|((with_reducible refine gD 1 rfl ?_);refine boxW ?_;intro Dp hg w2 hbox hb;have Aj:=aK hbox;have Dq:=gW HB hg;replace HB:=bS HB hb;clear hb hbox hg)|((with_reducible refine gD 2 rfl ?_);refine boxW ?_;intro CS hg w3 hbox hb;have AM:=aK hbox;have Dr:=gW HB hg;replace HB:=bS HB hb;have BD:=nl Aj hg;have BE:=nr Aj hg;replace Aj:=bv Aj hb;clear hb hbox hg)|((with_reducible refine gD 3 rfl ?_);refine boxW ?_;intro Ds hg w4 hbox hb;have CT:=aK hbox;have Dt:=gW HB hg;replace HB:=bS HB hb;have BF:=nl Aj hg;have BG:=nr Aj hg;replace Aj:=bv Aj hb;have BH:=nl AM hg;have BI:=nr AM hg;replace AM:=bv AM hb;clear hb hbox hg;have C7:=BD.o;have C8:=BE.o;have C9:=BF.o;have Ca:=BG.o;have:=cf4 Aj;have BZ:=BI.o;have C0:=BH.o;have:=cf4 CT;have:=cf4 AM))
 refine bodyPost_ret (results_cell_row rfl _ _ CS 135 #[.int .i64 X,.string Y,.string Ac,.int .i64 Ao] (0,0) _ rfl bkk Tryz.underlying135 rfl (by kernel_rfl)) rfl ?_;exact⟨fe,bl⟩
def laws_toMoveS.l0:Nat→List (S127)→List (S135)→Int→Option ((List (S135)))
 | 0,_,_,_=>none
 |k+1,x0,x3,x4=>if x4<(x0.length:Int)then(if 0≤x4 then((laws_toMove.f ((rd_T127 x0 x4).f0) ((rd_T127 x0 x4).f1) ((rd_T127 x0 x4).f2) ((rd_T127 x0 x4).f3)).bind fun B0=>(if x4<(x3.length:Int)then(laws_toMoveS.l0 k x0 (x3.set (x4:Int).toNat (⟨B0.1,B0.2.1,B0.2.2.1,B0.2.2.2⟩:S135)) (wrap64 (x4+1)))else(none)))else(none))else(some x3)
def laws_toMoveS.f (k:Nat) (l0:List (S127)):Option ((List (S135))):=if 0≤(l0.length:Int)then(if((l0.length:Int):Int).toNat≤5864062014805 then(laws_toMoveS.l0 k l0 (List.replicate ((l0.length:Int):Int).toNat z135) 0)else(none))else(none)
theorem laws_toMoveS.calls (k:Nat) (A0:Option Addr) (c0:Nat) (l0:List (S127)) (r:List (S135)) (w:World) (B3:Kd.C k127 w A0 l0.length l0) (B4:l0.length≤c0) (h:laws_toMoveS.f k l0=some r) :
 Calls Tryz.prog 52 #[.slice A0 l0.length c0] w fun e w'=>∃B5:Value,e = .returned (B5)∧Kd.R k135 135 w' w.heap.size (fun _=>True) B5 r∧Below w.heap.size w w':=by
 have CQ:=Tryz.underlying127;have CR:=Tryz.underlying135;have Cb:=aK B3;have D3:=aK B4;clear B3 B4;have HB:=aK (Below.refl w.heap.size w);have H:=h;unfold laws_toMoveS.f at H;clear h;by_cases c2:0≤(l0.length:Int)
 ·rw[if_pos c2]at H;have B6:=eq_true c2;have B7:=dt c2;clear c2;by_cases c3:((l0.length:Int):Int).toNat≤5864062014805
  ·rw[if_pos c3]at H;have B8:=eq_true c3;have B9:=dt c3;clear c3;obtain⟨D7,BJ⟩:=yy (List.replicate ((l0.length:Int):Int).toNat z135);rw[←BJ]at H;(try rw[obs]at H)
   have Ch:=aK BJ;clear BJ;have H':=aK H;clear H
   go_enter Tryz.func52,Tryz.ntmps52
   go_wp2_with (first|((with_reducible refine gD 7 rfl ?_);refine Kd.R_make k135 _ 135 rfl (N:=7) rfl 33 _ _ rfl (l0.length:Int) rfl rfl Tryz.underlying33 (.agg #[(.int .i64 0),(.string ⟨#[]⟩),(.string ⟨#[]⟩),(.int .i64 0)]) 48 info135 rfl (by decide) (by omega) z135 (ok:=fun _=>True) (okp:=fun _=>True) (k135_mkM _ _ _ z135) (fun _ hk=>hk) trivial (dT am) (Nat.le_trans (Nat.mul_le_mul_right _ (dT am:(l0.length:Int).toNat≤5864062014805)) (by omega)) (Below.refl _ _) (Nat.le_refl _) ?_;intro Cd D5 Ad hb hg_ hnew_;clear hg_ hnew_;(first|rw[←Ch.o]at Ad|(simp only[Int.reduceToNat]at Ad;rw[←Ch.o]at Ad));have Ba:=rl HB Ad;replace HB:=bS HB hb;clear hb Ad))
   go_loopg [4] k (fun kq v4 w'=>∃(J:List (S135)) (D:Int),v4 = .int .i64 D∧Aside0 (laws_toMoveS.l0 kq l0 J D=some r)∧Aside0 (kq≤k)∧Aside0 (Kd.R k135 135 w' w.heap.size (fun _=>True) Cd J)∧Aside0 (Below w.heap.size w w'))
   case atStart=>exact⟨(D7),(0),fa,H',⟨Nat.le_refl _⟩,⟨rpR Ba.o⟩,⟨bl⟩⟩
   case round=>
    clear H';(try clear c2);(try clear B6);(try clear B7);(try clear p2);(try clear c3);(try clear B8);(try clear B9);(try clear c5);obtain⟨J,D,rfl,HA,Bb,Z,HB⟩:=hrel;cases gk with
    |zero=>exact absurd HA.o (by simp[laws_toMoveS.l0])
    |succ k1=>
     have H:=HA.o;clear HA;simp only[laws_toMoveS.l0]at H;by_cases c6:D<(l0.length:Int)
     ·rw[if_pos c6]at H;have Bc:=dt c6;clear c6;by_cases c7:0≤D
      ·rw[if_pos c7]at H;have Cv:=dt c7;clear c7;replace H:=oB H;obtain⟨⟨AT,AU,AV,AW⟩,Bd,H⟩:=H;dsimp only at H;have A8:=aK Bd;clear Bd;by_cases c9:D<(J.length:Int)
       ·rw[if_pos c9]at H;have Cw:=dt c9;clear c9;obtain⟨CD,BK⟩:=yy (J.set (D:Int).toNat (⟨AT,AU,AV,AW⟩:S135));rw[←BK]at H;(try rw[obs]at H)
        have CU:=aK BK;clear BK;have H':=aK H;clear H;have AF:0≤(D:Int):=dT am;have AG:D<(l0.length:Int):=dT am;obtain⟨Cy,Ce,Af,Ag,As,C5⟩:=at_T127 Cb.o D AF AG;cases Ce;replace Af:=cz HB Af;replace Ag:=cz HB Ag;replace As:=cz HB As;replace C5:=cz HB C5;replace AF:=eq_true AF;replace AG:=eq_true AG
        go_wp2_with (first|((with_reducible refine gC 113 rfl ?_);refine goesW Tryz.func113 ?_;(with_reducible refine(laws_toMove.calls ((rd_T127 l0 D).f0) ((rd_T127 l0 D).f1) ((rd_T127 l0 D).f2) ((rd_T127 l0 D).f3) AT AU AV AW _ A8.o).mono ?_);rintro e A5 ⟨rfl,hb⟩;refine⟨_,rfl,?_⟩;replace Z:=rb Z hb;replace HB:=bS HB hb;(try clear hb);have AH:0≤(D:Int):=dT am;have AI:(D:Int)<((J.length:Int):Int):=dT am;obtain⟨U,Ay,Az,A_,Be,Cz,AA⟩:=Kd.R_form Z.o (by omega);(first|cases Az|(injection Az with ea_ en_ ec_;(first|subst ea_|(injection ea_ with ea_;subst ea_));subst ec_;clear en_));have Al:=aK A_;have C_:=aK AA;clear A_ Be AA;obtain⟨CA,AJ,AB,A6,A7⟩:=Kd.R_elem Z.o z135 (D:Int) AH AI;obtain rfl:=k135_openM AB;have C1:A5.cell? ⟨U,(D:Int).toNat*4,none⟩=some (.int .i64 ((rd_T135 J D).f0)):=A6 0 _ rfl;have C2:A5.cell? ⟨U,(D:Int).toNat*4+1,none⟩=some (.string ((rd_T135 J D).f1)):=A6 1 _ rfl;have Cr:A5.cell? ⟨U,(D:Int).toNat*4+2,none⟩=some (.string ((rd_T135 J D).f2)):=A6 2 _ rfl;have Dd:A5.cell? ⟨U,(D:Int).toNat*4+3,none⟩=some (.int .i64 ((rd_T135 J D).f3)):=A6 3 _ rfl;have C3:A5.frozen? ⟨U,(D:Int).toNat*4,none⟩=false:=A7 0;have C4:A5.frozen? ⟨U,(D:Int).toNat*4+1,none⟩=false:=A7 1;have Cs:A5.frozen? ⟨U,(D:Int).toNat*4+2,none⟩=false:=A7 2;have De:A5.frozen? ⟨U,(D:Int).toNat*4+3,none⟩=false:=A7 3;clear AJ A6 A7 AB;replace AH:=eq_true AH;replace AI:=eq_true AI;have AC:=aK (show Kd.R k135 135 A5 w.heap.size (fun _=>True) (.slice (some ⟨U,0,none⟩) J.length Ay) J from(rpR Z.o));obtain⟨CB,Am,AD,A1,A9⟩:=Kd.R_elem AC.o z135 (D:Int) (dT am) (by have h_:(D:Int)<((J.length:Int):Int):=dT am;first|exact h_|(have e_:=(Kd.R_reads' Z.o).1;omega)|simpa using h_);obtain rfl:=k135_openM AD;have An:=Kd.R_seg AC.o (D:Int) (dT am) (by have h_:(D:Int)<((J.length:Int):Int):=dT am;first|exact h_|(have e_:=(Kd.R_reads' Z.o).1;omega)|simpa using h_) (seg:=[.int .i64 AT,.string AU,.string AV,.int .i64 AW]) (j:=0) Am A1 (show 4≤4 from by decide) (x':=(⟨AT,AU,AV,AW⟩:S135)) (k135_mkM _ _ _ (⟨AT,AU,AV,AW⟩:S135)) (fun _ hk=>hk);have At:=A1 0 _ rfl;(try simp only[show(k135).sz=4 from rfl,Nat.mul_one,Nat.add_zero]at At);have Au:=A9 0;(try simp only[show(k135).sz=4 from rfl,Nat.mul_one,Nat.add_zero]at Au);have Av:=A1 1 _ rfl;(try simp only[show(k135).sz=4 from rfl,Nat.mul_one,Nat.add_zero]at Av);have Aw:=A9 1;(try simp only[show(k135).sz=4 from rfl,Nat.mul_one,Nat.add_zero]at Aw);have AY:=A1 2 _ rfl;(try simp only[show(k135).sz=4 from rfl,Nat.mul_one,Nat.add_zero]at AY);have AZ:=A9 2;(try simp only[show(k135).sz=4 from rfl,Nat.mul_one,Nat.add_zero]at AZ);have Ct:=A1 3 _ rfl;(try simp only[show(k135).sz=4 from rfl,Nat.mul_one,Nat.add_zero]at Ct);have Cu:=A9 3;(try simp only[show(k135).sz=4 from rfl,Nat.mul_one,Nat.add_zero]at Cu);clear Am A1 A9 AD)|((with_reducible refine gate_store (t:=135) (p:=21) rfl ?_);refine store_event (t:=135) (p:=21) (v:=?vo_w13) (w1:=((((A5.setCell ⟨U,(D:Int).toNat*4,none⟩ (.int .i64 AT)).setCell ⟨U,(D:Int).toNat*4+1,none⟩ (.string AU)).setCell ⟨U,(D:Int).toNat*4+2,none⟩ (.string AV)).setCell ⟨U,(D:Int).toNat*4+3,none⟩ (.int .i64 AW))) ?hg ?ho ?hn ?hr ?_;(case ho=>rfl);(case hg=>rfl);(case hn=>rfl);(case hr=>first|(go_simp;done)|(go_simp;rfl));intro AK hw;have hg:A5.grownBy AK (some U):=(by rw[hw];exact An.2);have hp_:Kd.R k135 135 AK w.heap.size (fun _=>True) (.slice (some ⟨U,0,none⟩) J.length Ay) CD:=(by rw[hw,CU.o];exact An.1);clear An;replace Z:=aK (hp_);replace HB:=aK ((by rw[hw];exact below_set (below_set (below_set (below_set (HB.o) Al.o) Al.o) Al.o) Al.o:Below w.heap.size w AK));clear hg hw hp_))
        go_roundg k1
        case measure=>have:=Bb.o;omega
        case rel=>exact⟨(CD),(wrap64 (D+1)),fa,H',⟨by have:=Bb.o;omega⟩,⟨rpR Z.o⟩,⟨bl⟩⟩
       ·rw[if_neg c9]at H;exact absurd H (by simp)
      ·rw[if_neg c7]at H;exact absurd H (by simp)
     ·rw[if_neg c6]at H;have Bc:=df c6;clear c6;obtain rfl:=oj H;go_wp2
      go_ret
      exact⟨_,fe,rpR Z.o,bl⟩
  ·rw[if_neg c3]at H;exact absurd H (by simp)
 ·rw[if_neg c2]at H;exact absurd H (by simp)
def laws_toDisk.f (k:Nat) (X:Int) (Y:Int) (Ap:List (S121)) (Aq:List (S124)) (Ar:List (S127)):Option (Int×Int×(List (S130))×(List (S133))×(List (S135))):=(laws_toInodeS.f k Ap).bind fun AX=>((laws_toLinkS.f k Aq).bind fun Bf=>((laws_toMoveS.f k Ar).bind fun C6=>(some (X,Y,AX,Bf,C6))))
theorem laws_toDisk.calls (k:Nat) (X:Int) (Y:Int) (Bg:Option Addr) (Bh:Nat) (Ap:List (S121)) (Bi:Option Addr) (Bj:Nat) (Aq:List (S124)) (Bk:Option Addr) (Bl:Nat) (Ar:List (S127)) (r1:Int) (r2:Int) (r3:List (S130)) (r4:List (S133)) (r5:List (S135)) (w:World) (Ci:Kd.C k121 w Bg Ap.length Ap) (Cj:Ap.length≤Bh) (Ck:Kd.C k124 w Bi Aq.length Aq) (Cl:Aq.length≤Bj) (Cm:Kd.C k127 w Bk Ar.length Ar) (Cn:Ar.length≤Bl) (h:laws_toDisk.f k X Y Ap Aq Ar=some (r1,r2,r3,r4,r5)) :
 Calls Tryz.prog 11 #[.agg #[.int .i64 X,.int .i64 Y,.slice Bg Ap.length Bh,.slice Bi Aq.length Bj,.slice Bk Ar.length Bl]] w fun e w'=>∃D8 D9 Da:Value,e = .returned (.agg #[.int .i64 r1,.int .i64 r2,D8,D9,Da])∧Kd.R k130 130 w' w.heap.size (fun _=>True) D8 r3∧Kd.R k133 133 w' w.heap.size (fun _=>True) D9 r4∧Kd.R k135 135 w' w.heap.size (fun _=>True) Da r5∧Below w.heap.size w w':=by
 have DD:=Tryz.underlying26;have DE:=Tryz.underlying35;have CV:=aK Ci;have CW:=aK Cj;clear Ci Cj;have CX:=aK Ck;have CY:=aK Cl;clear Ck Cl;have CZ:=aK Cm;have D0:=aK Cn;clear Cm Cn;have HB:=aK (Below.refl w.heap.size w);have H:=h;unfold laws_toDisk.f at H;clear h;obtain⟨AX,A2,H⟩:=bd H;obtain⟨Bf,A3,H⟩:=bd H;obtain⟨C6,A4,H⟩:=bd H;simp only[Option.some.injEq,Prod.mk.injEq]at H;obtain⟨rfl,rfl,rfl,rfl,rfl⟩:=H
 go_enter Tryz.func11,Tryz.ntmps11
 go_wp2_with (first|((with_reducible refine gD 1 rfl ?_);refine boxW ?_;intro BL hg w5 hbox hb;have Aa:=aK hbox;have Du:=gW HB hg;replace HB:=bS HB hb;clear hb hbox hg)|((with_reducible refine gD 2 rfl ?_);refine boxW ?_;intro B1 hg w6 hbox hb;have Ae:=aK hbox;have Dv:=gW HB hg;replace HB:=bS HB hb;have BM:=nl Aa hg;have BN:=nr Aa hg;replace Aa:=bv Aa hb;clear hb hbox hg)|((with_reducible refine gD 3 rfl ?_);refine boxW ?_;intro BO hg w7 hbox hb;have Ab:=aK hbox;have Dw:=gW HB hg;replace HB:=bS HB hb;have BP:=nl Aa hg;have BQ:=nr Aa hg;replace Aa:=bv Aa hb;have BR:=nl Ae hg;have BS:=nr Ae hg;replace Ae:=bv Ae hb;clear hb hbox hg;have BZ:=BM.o;have C0:=BN.o;have DF:=BP.o;have DG:=BQ.o;have:=cf5 Aa;have Dx:=BS.o;have Dy:=BR.o;have:=cf5 Ab)|((with_reducible refine gC 50 rfl ?_);refine goesW Tryz.func50 ?_;(with_reducible refine(laws_toInodeS.calls k _ _ Ap AX _ ?_ ?_ A2.o).mono ?_);exact Kd.C_below CV.o bl;exact CW.o;rintro e DM ⟨DH,rfl,Bm,hb⟩;refine⟨_,rfl,?_⟩;have Ax:=rl HB Bm;replace Aa:=aK (blk_below (g:=BL) (o:=.cells #[.int .i64 X,.int .i64 Y,.slice Bg Ap.length Bh,.slice Bi Aq.length Bj,.slice Bk Ar.length Bl] 26 (0,0)) bkk hb);replace Ae:=aK (blk_below (g:=B1) (o:=.cells #[.int .i64 0,.int .i64 0,.slice none 0 0,.slice none 0 0,.slice none 0 0] 35 (0,0)) bkk hb);replace Ab:=aK (blk_below (g:=BO) (o:=.cells #[.int .i64 X,.int .i64 Y,.slice none 0 0,.slice none 0 0,.slice none 0 0] 35 (0,0)) bkk hb);replace HB:=bS HB hb;(try clear hb Bm);obtain⟨Co,Cp,rfl⟩:=rs Ax;have:=cf5 Ab;have:=cf5 Aa)|((with_reducible refine gC 51 rfl ?_);refine goesW Tryz.func51 ?_;(with_reducible refine(laws_toLinkS.calls k _ _ Aq Bf _ ?_ ?_ A3.o).mono ?_);exact Kd.C_below CX.o bl;exact CY.o;rintro e DN ⟨DI,rfl,Bm,hb⟩;refine⟨_,rfl,?_⟩;replace Ax:=rB (f1 Ax Ab) hb;have B2:=rl HB Bm;replace Aa:=aK (blk_below (g:=BL) (o:=.cells #[.int .i64 X,.int .i64 Y,.slice Bg Ap.length Bh,.slice Bi Aq.length Bj,.slice Bk Ar.length Bl] 26 (0,0)) bkk hb);replace Ae:=aK (blk_below (g:=B1) (o:=.cells #[.int .i64 0,.int .i64 0,.slice none 0 0,.slice none 0 0,.slice none 0 0] 35 (0,0)) bkk hb);replace Ab:=aK (blk_below (g:=BO) (o:=.cells #[.int .i64 X,.int .i64 Y,.slice Co AX.length Cp,.slice none 0 0,.slice none 0 0] 35 (0,0)) bkk hb);replace HB:=bS HB hb;(try clear hb Bm);obtain⟨CE,CF,rfl⟩:=rs B2;have:=cf5 Ab;have:=cf5 Aa)|((with_reducible refine gC 52 rfl ?_);refine goesW Tryz.func52 ?_;(with_reducible refine(laws_toMoveS.calls k _ _ Ar C6 _ ?_ ?_ A4.o).mono ?_);exact Kd.C_below CZ.o bl;exact D0.o;rintro e DO ⟨DJ,rfl,Bm,hb⟩;refine⟨_,rfl,?_⟩;replace Ax:=rB (f1 Ax Ab) hb;replace B2:=rB (f1 B2 Ab) hb;have Cq:=rl HB Bm;replace Aa:=aK (blk_below (g:=BL) (o:=.cells #[.int .i64 X,.int .i64 Y,.slice Bg Ap.length Bh,.slice Bi Aq.length Bj,.slice Bk Ar.length Bl] 26 (0,0)) bkk hb);replace Ae:=aK (blk_below (g:=B1) (o:=.cells #[.int .i64 0,.int .i64 0,.slice none 0 0,.slice none 0 0,.slice none 0 0] 35 (0,0)) bkk hb);replace Ab:=aK (blk_below (g:=BO) (o:=.cells #[.int .i64 X,.int .i64 Y,.slice Co AX.length Cp,.slice CE Bf.length CF,.slice none 0 0] 35 (0,0)) bkk hb);replace HB:=bS HB hb;(try clear hb Bm);obtain⟨Db,Dc,rfl⟩:=rs Cq;have:=cf5 Ab;have:=cf5 Ae))
 refine bodyPost_ret (results_cell_row rfl _ _ B1 35 #[.int .i64 X,.int .i64 Y,.slice Co AX.length Cp,.slice CE Bf.length CF,.slice Db C6.length Dc] (0,0) _ rfl bkk Tryz.underlying35 rfl (by kernel_rfl)) rfl ?_;exact⟨_,_,_,fe,rpR (rM (mB (qb (qb (qb (qb (qb (qa (eB Ax Ab Ae)))))))) (fun _ hk=>trivial)),rpR (rM (mB (qb (qb (qb (qb (qb (qa (eB B2 Ab Ae)))))))) (fun _ hk=>trivial)),rpR (rM (mB (qb (qb (qb (qb (qb (qa (eB Cq Ab Ae)))))))) (fun _ hk=>trivial)),bl⟩
def laws_toStep.f (X:Int) (Y:ByteArray) (Ac:ByteArray) (Ao:ByteArray):Option (Int×ByteArray×ByteArray×ByteArray):=some (X,Y,Ac,Ao)
theorem laws_toStep.calls (X:Int) (Y:ByteArray) (Ac:ByteArray) (Ao:ByteArray) (r1:Int) (r2:ByteArray) (r3:ByteArray) (r4:ByteArray) (w:World) (h:laws_toStep.f X Y Ac Ao=some (r1,r2,r3,r4)) :
 Calls Tryz.prog 12 #[.agg #[.int .i64 X,.string Y,.string Ac,.string Ao]] w fun e w'=>e = .returned (.agg #[.int .i64 r1,.string r2,.string r3,.string r4])∧Below w.heap.size w w':=by
 have DK:=Tryz.underlying28;have DL:=Tryz.underlying39;have HB:=aK (Below.refl w.heap.size w);have H:=h;unfold laws_toStep.f at H;clear h;simp only[Option.some.injEq,Prod.mk.injEq]at H;obtain⟨rfl,rfl,rfl,rfl⟩:=H
 go_enter Tryz.func12,Tryz.ntmps12
 go_wp2_with (first|((with_reducible refine gD 1 rfl ?_);refine boxW ?_;intro Dz hg w2 hbox hb;have Ak:=aK hbox;have D_:=gW HB hg;replace HB:=bS HB hb;clear hb hbox hg)|((with_reducible refine gD 2 rfl ?_);refine boxW ?_;intro D1 hg w3 hbox hb;have AN:=aK hbox;have DA:=gW HB hg;replace HB:=bS HB hb;have BT:=nl Ak hg;have BU:=nr Ak hg;replace Ak:=bv Ak hb;clear hb hbox hg)|((with_reducible refine gD 3 rfl ?_);refine boxW ?_;intro DB hg w4 hbox hb;have D2:=aK hbox;have DC:=gW HB hg;replace HB:=bS HB hb;have BV:=nl Ak hg;have BW:=nr Ak hg;replace Ak:=bv Ak hb;have BX:=nl AN hg;have BY:=nr AN hg;replace AN:=bv AN hb;clear hb hbox hg;have C7:=BT.o;have C8:=BU.o;have C9:=BV.o;have Ca:=BW.o;have:=cf4 Ak;have BZ:=BY.o;have C0:=BX.o;have:=cf4 D2;have:=cf4 AN))
 refine bodyPost_ret (results_cell_row rfl _ _ D1 39 #[.int .i64 X,.string Y,.string Ac,.string Ao] (0,0) _ rfl bkk Tryz.underlying39 rfl (by kernel_rfl)) rfl ?_;exact⟨fe,bl⟩
def laws_eqInode.f (J:Int) (U:ByteArray) (A3:Int) (X:Int) (Y:ByteArray) (A4:Int):Option (Bool):=if J=X then(if U.toList=Y.toList then(if A3=A4 then(some true)else(some false))else(some false))else(some false)
theorem laws_eqInode.z1 {p:Prop} (h:p:=by
 go_enter Tryz.func127,Tryz.ntmps127
 go_wp2_with (first|((with_reducible refine gD 2 rfl ?_);refine boxW ?_;intro BK hg Bx hbox hb;have As:=aK hbox;have BL:=gW HB hg;replace HB:=bS HB hb;clear hb hbox hg)|((with_reducible refine gD 3 rfl ?_);refine boxW ?_;intro BM hg By hbox hb;have Br:=aK hbox;have BN:=gW HB hg;replace HB:=bS HB hb;have AY:=nl As hg;have AZ:=nr As hg;replace As:=bv As hb;clear hb hbox hg;have B7:=AY.o;have B8:=AZ.o;have:=cf3 As;have:=cf3 Br))
 go_ret
 exact⟨fe,bl⟩):p:=h
theorem laws_eqInode.calls (J:Int) (U:ByteArray) (A3:Int) (X:Int) (Y:ByteArray) (A4:Int) (r:Bool) (w:World) (h:laws_eqInode.f J U A3 X Y A4=some r) :
 Calls Tryz.prog 127 #[.agg #[.int .i64 J,.string U,.int .i64 A3],.agg #[.int .i64 X,.string Y,.int .i64 A4]] w fun e w'=>e = .returned (.bool r)∧Below w.heap.size w w':=by
 have Bs:=Tryz.underlying130;have HB:=aK (Below.refl w.heap.size w);have H:=h;unfold laws_eqInode.f at H;clear h;by_cases c3:J=X
 ·rw[if_pos c3]at H;have Z:=bT c3;have A2:=bE c3;clear c3;by_cases c4:U.toList=Y.toList
  ·rw[if_pos c4]at H;have A5:=bT c4;have Az:=bE c4;clear c4;by_cases c5:A3=A4
   ·rw[if_pos c5]at H;have Ay:=bT c5;have B9:=bE c5;clear c5;obtain rfl:=oj H
    exact laws_eqInode.z1
   ·rw[if_neg c5]at H;have Ay:=bN c5;have B9:=bQ c5;obtain rfl:=oj H
    exact laws_eqInode.z1
  ·rw[if_neg c4]at H;have A5:=bN c4;have Az:=bQ c4;obtain rfl:=oj H
   exact laws_eqInode.z1
 ·rw[if_neg c3]at H;have Z:=bN c3;have A2:=bQ c3;obtain rfl:=oj H
  exact laws_eqInode.z1
def laws_eqInodeS.l0:Nat→List (S130)→List (S130)→Int→Option (Bool)
 | 0,_,_,_=>none
 |k+1,x0,x1,x5=>if x5<(x0.length:Int)then(if 0≤x5 then(if x5<(x1.length:Int)then((laws_eqInode.f ((rd_T130 x0 x5).f0) ((rd_T130 x0 x5).f1) ((rd_T130 x0 x5).f2) ((rd_T130 x1 x5).f0) ((rd_T130 x1 x5).f1) ((rd_T130 x1 x5).f2)).bind fun Ba=>(if Ba=true then(laws_eqInodeS.l0 k x0 x1 (wrap64 (x5+1)))else(some false)))else(none))else(none))else(some true)
def laws_eqInodeS.f (k:Nat) (l0:List (S130)) (l1:List (S130)):Option (Bool):=if(l0.length:Int)=(l1.length:Int)then(laws_eqInodeS.l0 k l0 l1 0)else(some false)
def laws_eqInodeS.T6:Bool×List (List Nat×List Nat):=(true,[([],[]),([],[]),([0,1],[0,1]),([2],[2]),([],[]),([],[]),([4,5],[4,5]),([6],[6]),([3,7],[3,7]),([8],[8])])
def laws_eqInodeS.B6:List Nat:=[0,0,3,7,0,0,48,112,255,511]
theorem laws_eqInodeS.tab6:rtab .any (opsOf Tryz.f61 6)=laws_eqInodeS.T6:=by kernel_rfl
theorem laws_eqInodeS.bits6:waitsOk laws_eqInodeS.T6.2 laws_eqInodeS.B6=true:=by kernel_rfl
theorem laws_eqInodeS.calls (k:Nat) (A0:Option Addr) (c0:Nat) (l0:List (S130)) (A1:Option Addr) (c1:Nat) (l1:List (S130)) (r:Bool) (w:World) (A_:Kd.C k130 w A0 l0.length l0) (AA:l0.length≤c0) (AB:Kd.C k130 w A1 l1.length l1) (AC:l1.length≤c1) (h:laws_eqInodeS.f k l0 l1=some r) :
 Calls Tryz.prog 61 #[.slice A0 l0.length c0,.slice A1 l1.length c1] w fun e w'=>e = .returned (.bool r)∧Below w.heap.size w w':=by
 have Bs:=Tryz.underlying130;have Bb:=aK A_;have Bz:=aK AA;clear A_ AA;have Bc:=aK AB;have B_:=aK AC;clear AB AC;have HB:=aK (Below.refl w.heap.size w);have H:=h;unfold laws_eqInodeS.f at H;clear h;by_cases c3:(l0.length:Int)=(l1.length:Int)
 ·rw[if_pos c3]at H;have Z:=bT c3;have A2:=bE c3;have Ar:(l0.length==l1.length)=true:=by first|simpa using c3|(simp at c3 ⊢;omega)
  clear c3;have H':=aK H;clear H
  go_enter Tryz.func61,Tryz.ntmps61
  go_wp2
  go_loopg [5] k (fun kq v5 w'=>∃(D:Int),v5 = .int .i64 D∧Aside0 (laws_eqInodeS.l0 kq l0 l1 D=some r)∧Aside0 (kq≤k)∧Aside0 (Below w.heap.size w w'))
  case atStart=>exact⟨(0),fa,H',⟨Nat.le_refl _⟩,⟨bl⟩⟩
  case round=>
   clear H';(try clear c1);(try clear p2);(try clear c3);(try clear Z);(try clear A2);(try clear Ar);obtain⟨D,rfl,HA,AD,HB⟩:=hrel;cases gk with
   |zero=>exact absurd HA.o (by simp[laws_eqInodeS.l0])
   |succ k1=>
    have H:=HA.o;clear HA;simp only[laws_eqInodeS.l0]at H;by_cases c4:D<(l0.length:Int)
    ·rw[if_pos c4]at H;have A5:=dt c4;clear c4;by_cases c5:0≤D
     ·rw[if_pos c5]at H;have Ay:=dt c5;clear c5;have Hq_:=aK H;clear H;(try go_wp2);replace HB:=dW HB;have Bd:0≤(D:Int):=dT am;have Be:D<(l0.length:Int):=dT am;obtain⟨At,BA,A9,Aa,Ab⟩:=at_T130 Bb.o D Bd Be;have AE:=Ab;have AF:=Aa;have AG:=A9;cases BA;replace A9:=cz HB A9;replace Aa:=cz HB Aa;replace Ab:=cz HB Ab;replace Bd:=eq_true Bd;replace Be:=eq_true Be;have Bf:0≤(D:Int):=dT am;have H:=Hq_.o;clear Hq_;by_cases c6:D<(l1.length:Int)
      ·rw[if_pos c6]at H;have Au:=dt c6;(try rw[Au]);clear c6;obtain⟨Ba,A7,H⟩:=bd H;have Hq_:=aK H;clear H;have Bg:D<(l1.length:Int):=dT am;obtain⟨Av,BB,Ac,Ad,Ae⟩:=at_T130 Bc.o D Bf Bg;have AH:=Ae;have AI:=Ad;have AJ:=Ac;cases BB;replace Ac:=cz HB Ac;replace Ad:=cz HB Ad;replace Ae:=cz HB Ae;replace Bf:=eq_true Bf;replace Bg:=eq_true Bg;refine start_ (n:=10) (S:=fun w'=>w'.cell? (At.add ((D).toNat*3))=some (.int .i64 ((rd_T130 l0 D).f0))∧w'.cell? ⟨(At.add ((D).toNat*3)).block,(At.add ((D).toNat*3)).off+1,none⟩=some (.string ((rd_T130 l0 D).f1))∧w'.cell? ⟨(At.add ((D).toNat*3)).block,(At.add ((D).toNat*3)).off+2,none⟩=some (.int .i64 ((rd_T130 l0 D).f2))∧w'.cell? (Av.add ((D).toNat*3))=some (.int .i64 ((rd_T130 l1 D).f0))∧w'.cell? ⟨(Av.add ((D).toNat*3)).block,(Av.add ((D).toNat*3)).off+1,none⟩=some (.string ((rd_T130 l1 D).f1))∧w'.cell? ⟨(Av.add ((D).toNat*3)).block,(Av.add ((D).toNat*3)).off+2,none⟩=some (.int .i64 ((rd_T130 l1 D).f2))) (ds:=[]) (bo 10 0) (by kernel_rfl) rfl rfl ⟨(cy HB AG),(cy HB AF),(cy HB AE),(cy HB AJ),(cy HB AI),(cy HB AH)⟩ (fun hHeld=>?_)
       refine with_tabW laws_eqInodeS.tab6 laws_eqInodeS.bits6 (fun HT_ HW_=>?_);generalize wr.drew=BC at HB A9 Aa Ab Ac Ad Ae hHeld ⊢;refine pV 0 17 (bo 10 1) ?_;refine pV 1 18 (bo 10 3) ?_;refine pV 2 19 (bo 10 7) ?_;refine pV 4 21 (bo 10 23) ?_;refine pV 5 22 (bo 10 55) ?_;refine pV 6 23 (bo 10 119) ?_;refine tV 3 20 (bo 10 127) ?_;refine tV 7 24 (bo 10 255) ?_;refine o1 8 25 (bo 10 511) (fun K hK=>?_);refine goesV Tryz.func127 ?_;(with_reducible refine(laws_eqInode.calls ((rd_T130 l0 D).f0) ((rd_T130 l0 D).f1) ((rd_T130 l0 D).f2) ((rd_T130 l1 D).f0) ((rd_T130 l1 D).f1) ((rd_T130 l1 D).f2) _ _ A7.o).mono ?_);rintro e BD ⟨rfl,hb⟩;refine⟨_,rfl,?_⟩;replace HB:=bS HB hb;(try clear hb BE hk hi);refine hK.out _ _ ⟨(cy HB AG),(cy HB AF),(cy HB AE),(cy HB AJ),(cy HB AI),(cy HB AH)⟩ (fun hHeld=>?_);clear hK K;refine nm 25 ?_;refine pV 9 26 (bo 10 1023) ?_;have H:=Hq_.o;clear Hq_;by_cases c8:Ba=true
       ·subst c8;replace H:=iT H;have H':=aK H;clear H;refine done_ (done_of HT_.o (by kernel_rfl)) ?_;(try go_wp2)
        go_roundg k1
        case measure=>have:=AD.o;omega
        case rel=>exact⟨(wrap64 (D+1)),fa,H',⟨by have:=AD.o;omega⟩,⟨bl⟩⟩
       ·replace c8:=bF c8;subst c8;replace H:=iF H;obtain rfl:=oj H;refine done_ (done_of HT_.o (by kernel_rfl)) ?_;(try go_wp2)
        go_ret
        exact⟨fe,bl⟩
      ·rw[if_neg c6]at H;exact absurd H (by simp)
     ·rw[if_neg c5]at H;exact absurd H (by simp)
    ·rw[if_neg c4]at H;have A5:=df c4;clear c4;obtain rfl:=oj H;go_wp2
     go_ret
     exact⟨fe,bl⟩
 ·rw[if_neg c3]at H;have Z:=bN c3;have A2:=bQ c3;have Ar:(l0.length==l1.length)=false:=by first|simpa using c3|(simp at c3 ⊢;omega)
  obtain rfl:=oj H
  go_enter Tryz.func61,Tryz.ntmps61
  go_wp2
  go_ret
  exact⟨fe,bl⟩
def laws_eqLink.f (J:ByteArray) (U:Int) (X:ByteArray) (Y:Int):Option (Bool):=if J.toList=X.toList then(if U=Y then(some true)else(some false))else(some false)
theorem laws_eqLink.z1 {p:Prop} (h:p:=by
 go_enter Tryz.func128,Tryz.ntmps128
 go_wp2_with (first|((with_reducible refine gD 2 rfl ?_);refine boxW ?_;intro BO hg Bx hbox hb;have Aw:=aK hbox;have BP:=gW HB hg;replace HB:=bS HB hb;clear hb hbox hg)|((with_reducible refine gD 3 rfl ?_);refine boxW ?_;intro BQ hg By hbox hb;have Bt:=aK hbox;have BR:=gW HB hg;replace HB:=bS HB hb;have B0:=nl Aw hg;have B1:=nr Aw hg;replace Aw:=bv Aw hb;clear hb hbox hg;have B7:=B0.o;have B8:=B1.o;have:=cf2 Aw;have:=cf2 Bt))
 go_ret
 exact⟨fe,bl⟩):p:=h
theorem laws_eqLink.calls (J:ByteArray) (U:Int) (X:ByteArray) (Y:Int) (r:Bool) (w:World) (h:laws_eqLink.f J U X Y=some r) :
 Calls Tryz.prog 128 #[.agg #[.string J,.int .i64 U],.agg #[.string X,.int .i64 Y]] w fun e w'=>e = .returned (.bool r)∧Below w.heap.size w w':=by
 have Bu:=Tryz.underlying133;have HB:=aK (Below.refl w.heap.size w);have H:=h;unfold laws_eqLink.f at H;clear h;by_cases c3:J.toList=X.toList
 ·rw[if_pos c3]at H;have Z:=bT c3;have A2:=bE c3;clear c3;by_cases c4:U=Y
  ·rw[if_pos c4]at H;have A5:=bT c4;have Az:=bE c4;clear c4;obtain rfl:=oj H
   exact laws_eqLink.z1
  ·rw[if_neg c4]at H;have A5:=bN c4;have Az:=bQ c4;obtain rfl:=oj H
   exact laws_eqLink.z1
 ·rw[if_neg c3]at H;have Z:=bN c3;have A2:=bQ c3;obtain rfl:=oj H
  exact laws_eqLink.z1
def laws_eqLinkS.l0:Nat→List (S133)→List (S133)→Int→Option (Bool)
 | 0,_,_,_=>none
 |k+1,x0,x1,x5=>if x5<(x0.length:Int)then(if 0≤x5 then(if x5<(x1.length:Int)then((laws_eqLink.f ((rd_T133 x0 x5).f0) ((rd_T133 x0 x5).f1) ((rd_T133 x1 x5).f0) ((rd_T133 x1 x5).f1)).bind fun Bh=>(if Bh=true then(laws_eqLinkS.l0 k x0 x1 (wrap64 (x5+1)))else(some false)))else(none))else(none))else(some true)
def laws_eqLinkS.f (k:Nat) (l0:List (S133)) (l1:List (S133)):Option (Bool):=if(l0.length:Int)=(l1.length:Int)then(laws_eqLinkS.l0 k l0 l1 0)else(some false)
def laws_eqLinkS.T6:Bool×List (List Nat×List Nat):=(true,[([],[]),([],[]),([0,1],[0,1]),([2],[2]),([],[]),([],[]),([4,5],[4,5]),([6],[6]),([3,7],[3,7]),([8],[8])])
def laws_eqLinkS.B6:List Nat:=[0,0,3,7,0,0,48,112,255,511]
theorem laws_eqLinkS.tab6:rtab .any (opsOf Tryz.f62 6)=laws_eqLinkS.T6:=by kernel_rfl
theorem laws_eqLinkS.bits6:waitsOk laws_eqLinkS.T6.2 laws_eqLinkS.B6=true:=by kernel_rfl
theorem laws_eqLinkS.calls (k:Nat) (A0:Option Addr) (c0:Nat) (l0:List (S133)) (A1:Option Addr) (c1:Nat) (l1:List (S133)) (r:Bool) (w:World) (A_:Kd.C k133 w A0 l0.length l0) (AA:l0.length≤c0) (AB:Kd.C k133 w A1 l1.length l1) (AC:l1.length≤c1) (h:laws_eqLinkS.f k l0 l1=some r) :
 Calls Tryz.prog 62 #[.slice A0 l0.length c0,.slice A1 l1.length c1] w fun e w'=>e = .returned (.bool r)∧Below w.heap.size w w':=by
 have Bu:=Tryz.underlying133;have Bb:=aK A_;have Bz:=aK AA;clear A_ AA;have Bc:=aK AB;have B_:=aK AC;clear AB AC;have HB:=aK (Below.refl w.heap.size w);have H:=h;unfold laws_eqLinkS.f at H;clear h;by_cases c3:(l0.length:Int)=(l1.length:Int)
 ·rw[if_pos c3]at H;have Z:=bT c3;have A2:=bE c3;have Ar:(l0.length==l1.length)=true:=by first|simpa using c3|(simp at c3 ⊢;omega)
  clear c3;have H':=aK H;clear H
  go_enter Tryz.func62,Tryz.ntmps62
  go_wp2
  go_loopg [5] k (fun kq v5 w'=>∃(D:Int),v5 = .int .i64 D∧Aside0 (laws_eqLinkS.l0 kq l0 l1 D=some r)∧Aside0 (kq≤k)∧Aside0 (Below w.heap.size w w'))
  case atStart=>exact⟨(0),fa,H',⟨Nat.le_refl _⟩,⟨bl⟩⟩
  case round=>
   clear H';(try clear c1);(try clear p2);(try clear c3);(try clear Z);(try clear A2);(try clear Ar);obtain⟨D,rfl,HA,AD,HB⟩:=hrel;cases gk with
   |zero=>exact absurd HA.o (by simp[laws_eqLinkS.l0])
   |succ k1=>
    have H:=HA.o;clear HA;simp only[laws_eqLinkS.l0]at H;by_cases c4:D<(l0.length:Int)
    ·rw[if_pos c4]at H;have A5:=dt c4;clear c4;by_cases c5:0≤D
     ·rw[if_pos c5]at H;have Ay:=dt c5;clear c5;have Hq_:=aK H;clear H;(try go_wp2);replace HB:=dW HB;have Bi:0≤(D:Int):=dT am;have Bj:D<(l0.length:Int):=dT am;obtain⟨B2,BF,Af,Ag⟩:=at_T133 Bb.o D Bi Bj;have AK:=Ag;have AL:=Af;cases BF;replace Af:=cz HB Af;replace Ag:=cz HB Ag;replace Bi:=eq_true Bi;replace Bj:=eq_true Bj;have Bk:0≤(D:Int):=dT am;have H:=Hq_.o;clear Hq_;by_cases c6:D<(l1.length:Int)
      ·rw[if_pos c6]at H;have Au:=dt c6;(try rw[Au]);clear c6;obtain⟨Bh,A7,H⟩:=bd H;have Hq_:=aK H;clear H;have Bl:D<(l1.length:Int):=dT am;obtain⟨B3,BG,Ah,Ai⟩:=at_T133 Bc.o D Bk Bl;have AM:=Ai;have AN:=Ah;cases BG;replace Ah:=cz HB Ah;replace Ai:=cz HB Ai;replace Bk:=eq_true Bk;replace Bl:=eq_true Bl;refine start_ (n:=10) (S:=fun w'=>w'.cell? (B2.add ((D).toNat*2))=some (.string ((rd_T133 l0 D).f0))∧w'.cell? ⟨(B2.add ((D).toNat*2)).block,(B2.add ((D).toNat*2)).off+1,none⟩=some (.int .i64 ((rd_T133 l0 D).f1))∧w'.cell? (B3.add ((D).toNat*2))=some (.string ((rd_T133 l1 D).f0))∧w'.cell? ⟨(B3.add ((D).toNat*2)).block,(B3.add ((D).toNat*2)).off+1,none⟩=some (.int .i64 ((rd_T133 l1 D).f1))) (ds:=[]) (bo 10 0) (by kernel_rfl) rfl rfl ⟨(cy HB AL),(cy HB AK),(cy HB AN),(cy HB AM)⟩ (fun hHeld=>?_);refine with_tabW laws_eqLinkS.tab6 laws_eqLinkS.bits6 (fun HT_ HW_=>?_);generalize wr.drew=BC at HB Af Ag Ah Ai hHeld ⊢;refine pV 0 17 (bo 10 1) ?_;refine pV 1 18 (bo 10 3) ?_;refine pV 2 19 (bo 10 7) ?_;refine pV 4 21 (bo 10 23) ?_;refine pV 5 22 (bo 10 55) ?_;refine pV 6 23 (bo 10 119) ?_;refine tV 3 20 (bo 10 127) ?_;refine tV 7 24 (bo 10 255) ?_
       refine o1 8 25 (bo 10 511) (fun K hK=>?_);refine goesV Tryz.func128 ?_;(with_reducible refine(laws_eqLink.calls ((rd_T133 l0 D).f0) ((rd_T133 l0 D).f1) ((rd_T133 l1 D).f0) ((rd_T133 l1 D).f1) _ _ A7.o).mono ?_);rintro e BD ⟨rfl,hb⟩;refine⟨_,rfl,?_⟩;replace HB:=bS HB hb;(try clear hb BE hk hi);refine hK.out _ _ ⟨(cy HB AL),(cy HB AK),(cy HB AN),(cy HB AM)⟩ (fun hHeld=>?_);clear hK K;refine nm 25 ?_;refine pV 9 26 (bo 10 1023) ?_;have H:=Hq_.o;clear Hq_;by_cases c8:Bh=true
       ·subst c8;replace H:=iT H;have H':=aK H;clear H;refine done_ (done_of HT_.o (by kernel_rfl)) ?_;(try go_wp2)
        go_roundg k1
        case measure=>have:=AD.o;omega
        case rel=>exact⟨(wrap64 (D+1)),fa,H',⟨by have:=AD.o;omega⟩,⟨bl⟩⟩
       ·replace c8:=bF c8;subst c8;replace H:=iF H;obtain rfl:=oj H;refine done_ (done_of HT_.o (by kernel_rfl)) ?_;(try go_wp2)
        go_ret
        exact⟨fe,bl⟩
      ·rw[if_neg c6]at H;exact absurd H (by simp)
     ·rw[if_neg c5]at H;exact absurd H (by simp)
    ·rw[if_neg c4]at H;have A5:=df c4;clear c4;obtain rfl:=oj H;go_wp2
     go_ret
     exact⟨fe,bl⟩
 ·rw[if_neg c3]at H;have Z:=bN c3;have A2:=bQ c3;have Ar:(l0.length==l1.length)=false:=by first|simpa using c3|(simp at c3 ⊢;omega)
  obtain rfl:=oj H
  go_enter Tryz.func62,Tryz.ntmps62
  go_wp2
  go_ret
  exact⟨fe,bl⟩
def laws_eqMove.f (J:Int) (U:ByteArray) (A3:ByteArray) (AO:Int) (X:Int) (Y:ByteArray) (A4:ByteArray) (AP:Int):Option (Bool):=if J=X then(if U.toList=Y.toList then(if A3.toList=A4.toList then(if AO=AP then(some true)else(some false))else(some false))else(some false))else(some false)
theorem laws_eqMove.z1 {p:Prop} (h:p:=by
 go_enter Tryz.func129,Tryz.ntmps129
 go_wp2_with (first|((with_reducible refine gD 2 rfl ?_);refine boxW ?_;intro BS hg Bx hbox hb;have Ax:=aK hbox;have BT:=gW HB hg;replace HB:=bS HB hb;clear hb hbox hg)|((with_reducible refine gD 3 rfl ?_);refine boxW ?_;intro BU hg By hbox hb;have Bv:=aK hbox;have BV:=gW HB hg;replace HB:=bS HB hb;have B4:=nl Ax hg;have B5:=nr Ax hg;replace Ax:=bv Ax hb;clear hb hbox hg;have B7:=B4.o;have B8:=B5.o;have:=cf4 Ax;have:=cf4 Bv))
 go_ret
 exact⟨fe,bl⟩):p:=h
theorem laws_eqMove.calls (J:Int) (U:ByteArray) (A3:ByteArray) (AO:Int) (X:Int) (Y:ByteArray) (A4:ByteArray) (AP:Int) (r:Bool) (w:World) (h:laws_eqMove.f J U A3 AO X Y A4 AP=some r) :
 Calls Tryz.prog 129 #[.agg #[.int .i64 J,.string U,.string A3,.int .i64 AO],.agg #[.int .i64 X,.string Y,.string A4,.int .i64 AP]] w fun e w'=>e = .returned (.bool r)∧Below w.heap.size w w':=by
 have Bw:=Tryz.underlying135;have HB:=aK (Below.refl w.heap.size w);have H:=h;unfold laws_eqMove.f at H;clear h;by_cases c3:J=X
 ·rw[if_pos c3]at H;have Z:=bT c3;have A2:=bE c3;clear c3;by_cases c4:U.toList=Y.toList
  ·rw[if_pos c4]at H;have A5:=bT c4;have Az:=bE c4;clear c4;by_cases c5:A3.toList=A4.toList
   ·rw[if_pos c5]at H;have Ay:=bT c5;have B9:=bE c5;clear c5;by_cases c6:AO=AP
    ·rw[if_pos c6]at H;have Au:=bT c6;have BH:=bE c6;clear c6;obtain rfl:=oj H
     exact laws_eqMove.z1
    ·rw[if_neg c6]at H;have Au:=bN c6;have BH:=bQ c6;obtain rfl:=oj H
     exact laws_eqMove.z1
   ·rw[if_neg c5]at H;have Ay:=bN c5;have B9:=bQ c5;obtain rfl:=oj H
    exact laws_eqMove.z1
  ·rw[if_neg c4]at H;have A5:=bN c4;have Az:=bQ c4;obtain rfl:=oj H
   exact laws_eqMove.z1
 ·rw[if_neg c3]at H;have Z:=bN c3;have A2:=bQ c3;obtain rfl:=oj H
  exact laws_eqMove.z1
def laws_eqMoveS.l0:Nat→List (S135)→List (S135)→Int→Option (Bool)
 | 0,_,_,_=>none
 |k+1,x0,x1,x5=>if x5<(x0.length:Int)then(if 0≤x5 then(if x5<(x1.length:Int)then((laws_eqMove.f ((rd_T135 x0 x5).f0) ((rd_T135 x0 x5).f1) ((rd_T135 x0 x5).f2) ((rd_T135 x0 x5).f3) ((rd_T135 x1 x5).f0) ((rd_T135 x1 x5).f1) ((rd_T135 x1 x5).f2) ((rd_T135 x1 x5).f3)).bind fun Bm=>(if Bm=true then(laws_eqMoveS.l0 k x0 x1 (wrap64 (x5+1)))else(some false)))else(none))else(none))else(some true)
def laws_eqMoveS.f (k:Nat) (l0:List (S135)) (l1:List (S135)):Option (Bool):=if(l0.length:Int)=(l1.length:Int)then(laws_eqMoveS.l0 k l0 l1 0)else(some false)
def laws_eqMoveS.T6:Bool×List (List Nat×List Nat):=(true,[([],[]),([],[]),([0,1],[0,1]),([2],[2]),([],[]),([],[]),([4,5],[4,5]),([6],[6]),([3,7],[3,7]),([8],[8])])
def laws_eqMoveS.B6:List Nat:=[0,0,3,7,0,0,48,112,255,511]
theorem laws_eqMoveS.tab6:rtab .any (opsOf Tryz.f63 6)=laws_eqMoveS.T6:=by kernel_rfl
theorem laws_eqMoveS.bits6:waitsOk laws_eqMoveS.T6.2 laws_eqMoveS.B6=true:=by kernel_rfl
theorem laws_eqMoveS.calls (k:Nat) (A0:Option Addr) (c0:Nat) (l0:List (S135)) (A1:Option Addr) (c1:Nat) (l1:List (S135)) (r:Bool) (w:World) (A_:Kd.C k135 w A0 l0.length l0) (AA:l0.length≤c0) (AB:Kd.C k135 w A1 l1.length l1) (AC:l1.length≤c1) (h:laws_eqMoveS.f k l0 l1=some r) :
 Calls Tryz.prog 63 #[.slice A0 l0.length c0,.slice A1 l1.length c1] w fun e w'=>e = .returned (.bool r)∧Below w.heap.size w w':=by
 have Bw:=Tryz.underlying135;have Bb:=aK A_;have Bz:=aK AA;clear A_ AA;have Bc:=aK AB;have B_:=aK AC;clear AB AC;have HB:=aK (Below.refl w.heap.size w);have H:=h;unfold laws_eqMoveS.f at H;clear h;by_cases c3:(l0.length:Int)=(l1.length:Int)
 ·rw[if_pos c3]at H;have Z:=bT c3;have A2:=bE c3;have Ar:(l0.length==l1.length)=true:=by first|simpa using c3|(simp at c3 ⊢;omega)
  clear c3;have H':=aK H;clear H
  go_enter Tryz.func63,Tryz.ntmps63
  go_wp2
  go_loopg [5] k (fun kq v5 w'=>∃(D:Int),v5 = .int .i64 D∧Aside0 (laws_eqMoveS.l0 kq l0 l1 D=some r)∧Aside0 (kq≤k)∧Aside0 (Below w.heap.size w w'))
  case atStart=>exact⟨(0),fa,H',⟨Nat.le_refl _⟩,⟨bl⟩⟩
  case round=>
   clear H';(try clear c1);(try clear p2);(try clear c3);(try clear Z);(try clear A2);(try clear Ar);obtain⟨D,rfl,HA,AD,HB⟩:=hrel;cases gk with
   |zero=>exact absurd HA.o (by simp[laws_eqMoveS.l0])
   |succ k1=>
    have H:=HA.o;clear HA;simp only[laws_eqMoveS.l0]at H;by_cases c4:D<(l0.length:Int)
    ·rw[if_pos c4]at H;have A5:=dt c4;clear c4;by_cases c5:0≤D
     ·rw[if_pos c5]at H;have Ay:=dt c5;clear c5;have Hq_:=aK H;clear H;(try go_wp2);replace HB:=dW HB;have Bn:0≤(D:Int):=dT am;have Bo:D<(l0.length:Int):=dT am;obtain⟨A6,BI,Aj,Ak,Al,Am⟩:=at_T135 Bb.o D Bn Bo;have AQ:=Am;have AR:=Al;have AS:=Ak;have AT:=Aj;cases BI;replace Aj:=cz HB Aj;replace Ak:=cz HB Ak;replace Al:=cz HB Al;replace Am:=cz HB Am;replace Bn:=eq_true Bn;replace Bo:=eq_true Bo;have Bp:0≤(D:Int):=dT am;have H:=Hq_.o;clear Hq_;by_cases c6:D<(l1.length:Int)
      ·rw[if_pos c6]at H;have Au:=dt c6;(try rw[Au]);clear c6;obtain⟨Bm,A7,H⟩:=bd H;have Hq_:=aK H;clear H;have Bq:D<(l1.length:Int):=dT am;obtain⟨A8,BJ,An,Ao,Ap,Aq⟩:=at_T135 Bc.o D Bp Bq;have AU:=Aq;have AV:=Ap;have AW:=Ao;have AX:=An;cases BJ;replace An:=cz HB An;replace Ao:=cz HB Ao;replace Ap:=cz HB Ap;replace Aq:=cz HB Aq;replace Bp:=eq_true Bp;replace Bq:=eq_true Bq
       refine start_ (n:=10) (S:=fun w'=>w'.cell? (A6.add ((D).toNat*4))=some (.int .i64 ((rd_T135 l0 D).f0))∧w'.cell? ⟨(A6.add ((D).toNat*4)).block,(A6.add ((D).toNat*4)).off+1,none⟩=some (.string ((rd_T135 l0 D).f1))∧w'.cell? ⟨(A6.add ((D).toNat*4)).block,(A6.add ((D).toNat*4)).off+2,none⟩=some (.string ((rd_T135 l0 D).f2))∧w'.cell? ⟨(A6.add ((D).toNat*4)).block,(A6.add ((D).toNat*4)).off+3,none⟩=some (.int .i64 ((rd_T135 l0 D).f3))∧w'.cell? (A8.add ((D).toNat*4))=some (.int .i64 ((rd_T135 l1 D).f0))∧w'.cell? ⟨(A8.add ((D).toNat*4)).block,(A8.add ((D).toNat*4)).off+1,none⟩=some (.string ((rd_T135 l1 D).f1))∧w'.cell? ⟨(A8.add ((D).toNat*4)).block,(A8.add ((D).toNat*4)).off+2,none⟩=some (.string ((rd_T135 l1 D).f2))∧w'.cell? ⟨(A8.add ((D).toNat*4)).block,(A8.add ((D).toNat*4)).off+3,none⟩=some (.int .i64 ((rd_T135 l1 D).f3))) (ds:=[]) (bo 10 0) (by kernel_rfl) rfl rfl ⟨(cy HB AT),(cy HB AS),(cy HB AR),(cy HB AQ),(cy HB AX),(cy HB AW),(cy HB AV),(cy HB AU)⟩ (fun hHeld=>?_);refine with_tabW laws_eqMoveS.tab6 laws_eqMoveS.bits6 (fun HT_ HW_=>?_);generalize wr.drew=BC at HB Aj Ak Al Am An Ao Ap Aq hHeld ⊢;refine pV 0 17 (bo 10 1) ?_;refine pV 1 18 (bo 10 3) ?_;refine pV 2 19 (bo 10 7) ?_
       refine pV 4 21 (bo 10 23) ?_;refine pV 5 22 (bo 10 55) ?_;refine pV 6 23 (bo 10 119) ?_;refine tV 3 20 (bo 10 127) ?_;refine tV 7 24 (bo 10 255) ?_;refine o1 8 25 (bo 10 511) (fun K hK=>?_);refine goesV Tryz.func129 ?_;(with_reducible refine(laws_eqMove.calls ((rd_T135 l0 D).f0) ((rd_T135 l0 D).f1) ((rd_T135 l0 D).f2) ((rd_T135 l0 D).f3) ((rd_T135 l1 D).f0) ((rd_T135 l1 D).f1) ((rd_T135 l1 D).f2) ((rd_T135 l1 D).f3) _ _ A7.o).mono ?_);rintro e BD ⟨rfl,hb⟩;refine⟨_,rfl,?_⟩;replace HB:=bS HB hb;(try clear hb BE hk hi);refine hK.out _ _ ⟨(cy HB AT),(cy HB AS),(cy HB AR),(cy HB AQ),(cy HB AX),(cy HB AW),(cy HB AV),(cy HB AU)⟩ (fun hHeld=>?_);clear hK K;refine nm 25 ?_;refine pV 9 26 (bo 10 1023) ?_;have H:=Hq_.o;clear Hq_;by_cases c8:Bm=true
       ·subst c8;replace H:=iT H;have H':=aK H;clear H;refine done_ (done_of HT_.o (by kernel_rfl)) ?_;(try go_wp2)
        go_roundg k1
        case measure=>have:=AD.o;omega
        case rel=>exact⟨(wrap64 (D+1)),fa,H',⟨by have:=AD.o;omega⟩,⟨bl⟩⟩
       ·replace c8:=bF c8;subst c8;replace H:=iF H;obtain rfl:=oj H;refine done_ (done_of HT_.o (by kernel_rfl)) ?_;(try go_wp2)
        go_ret
        exact⟨fe,bl⟩
      ·rw[if_neg c6]at H;exact absurd H (by simp)
     ·rw[if_neg c5]at H;exact absurd H (by simp)
    ·rw[if_neg c4]at H;have A5:=df c4;clear c4;obtain rfl:=oj H;go_wp2
     go_ret
     exact⟨fe,bl⟩
 ·rw[if_neg c3]at H;have Z:=bN c3;have A2:=bQ c3;have Ar:(l0.length==l1.length)=false:=by first|simpa using c3|(simp at c3 ⊢;omega)
  obtain rfl:=oj H
  go_enter Tryz.func63,Tryz.ntmps63
  go_wp2
  go_ret
  exact⟨fe,bl⟩
def laws_eqDisk.f (k:Nat) (B0:Int) (B1:Int) (Ay:List (S130)) (Az:List (S133)) (A_:List (S135)) (B2:Int) (B3:Int) (AA:List (S130)) (AB:List (S133)) (AC:List (S135)):Option (Bool):=if B0=B2 then(if B1=B3 then((laws_eqInodeS.f k Ay AA).bind fun BF=>(if BF=true then((laws_eqLinkS.f k Az AB).bind fun BG=>(if BG=true then((laws_eqMoveS.f k A_ AC).bind fun BH=>(if BH=true then(some true)else(some false)))else(some false)))else(some false)))else(some false))else(some false)
theorem laws_eqDisk.z1 {p:Prop} (h:p:=by
 go_enter Tryz.func14,Tryz.ntmps14
 go_wp2_with (first|((with_reducible refine gD 2 rfl ?_);refine boxW ?_;intro DF hg B4 hbox hb;have Ac:=aK hbox;have DG:=gW HB hg;replace HB:=bS HB hb;clear hb hbox hg)|((with_reducible refine gD 3 rfl ?_);refine boxW ?_;intro DH hg B5 hbox hb;have Ak:=aK hbox;have DI:=gW HB hg;replace HB:=bS HB hb;have Bi:=nl Ac hg;have Bj:=nr Ac hg;replace Ac:=bv Ac hb;clear hb hbox hg;have DJ:=Bi.o;have DK:=Bj.o;have:=cf5 Ac;have:=cf5 Ak)|((with_reducible refine gC 61 rfl ?_);refine goesW Tryz.func61 ?_;(with_reducible refine(laws_eqInodeS.calls k _ _ Ay _ _ AA _ _ ?_ ?_ ?_ ?_ A5.o).mono ?_);exact cB CO HB;exact CP.o;exact cB CQ HB;exact CR.o;rintro e A2 ⟨rfl,hb⟩;refine⟨_,rfl,?_⟩;replace Ac:=bv Ac hb;replace Ak:=bv Ak hb;replace HB:=bS HB hb;(try clear hb);have:=cf5 Ac;have:=cf5 Ak)|((with_reducible refine gC 62 rfl ?_);refine goesW Tryz.func62 ?_;(with_reducible refine(laws_eqLinkS.calls k _ _ Az _ _ AB _ _ ?_ ?_ ?_ ?_ A7.o).mono ?_);exact cB CS HB;exact CT.o;exact cB CU HB;exact CV.o;rintro e Aj ⟨rfl,hb⟩;refine⟨_,rfl,?_⟩;replace Ac:=bv Ac hb;replace Ak:=bv Ak hb;replace HB:=bS HB hb;(try clear hb);have:=cf5 Ac;have:=cf5 Ak)|((with_reducible refine gC 63 rfl ?_);refine goesW Tryz.func63 ?_;(with_reducible refine(laws_eqMoveS.calls k _ _ A_ _ _ AC _ _ ?_ ?_ ?_ ?_ A9.o).mono ?_);exact cB CW HB;exact CX.o;exact cB CY HB;exact CZ.o;rintro e Ao ⟨rfl,hb⟩;refine⟨_,rfl,?_⟩;replace Ac:=bv Ac hb;replace Ak:=bv Ak hb;replace HB:=bS HB hb;(try clear hb)))
 go_ret
 exact⟨fe,bl⟩):p:=h
theorem laws_eqDisk.calls (k:Nat) (B0:Int) (B1:Int) (Cq:Option Addr) (Cr:Nat) (Ay:List (S130)) (Cs:Option Addr) (Ct:Nat) (Az:List (S133)) (Cu:Option Addr) (Cv:Nat) (A_:List (S135)) (B2:Int) (B3:Int) (Cw:Option Addr) (Cx:Nat) (AA:List (S130)) (Cy:Option Addr) (Cz:Nat) (AB:List (S133)) (C_:Option Addr) (CA:Nat) (AC:List (S135)) (r:Bool) (w:World) (BI:Kd.C k130 w Cq Ay.length Ay) (BJ:Ay.length≤Cr) (BK:Kd.C k133 w Cs Az.length Az) (BL:Az.length≤Ct) (BM:Kd.C k135 w Cu A_.length A_) (BN:A_.length≤Cv) (BO:Kd.C k130 w Cw AA.length AA) (BP:AA.length≤Cx) (BQ:Kd.C k133 w Cy AB.length AB) (BR:AB.length≤Cz) (BS:Kd.C k135 w C_ AC.length AC) (BT:AC.length≤CA) (h:laws_eqDisk.f k B0 B1 Ay Az A_ B2 B3 AA AB AC=some r) :
 Calls Tryz.prog 14 #[.agg #[.int .i64 B0,.int .i64 B1,.slice Cq Ay.length Cr,.slice Cs Az.length Ct,.slice Cu A_.length Cv],.agg #[.int .i64 B2,.int .i64 B3,.slice Cw AA.length Cx,.slice Cy AB.length Cz,.slice C_ AC.length CA]] w fun e w'=>e = .returned (.bool r)∧Below w.heap.size w w':=by
 have E1:=Tryz.underlying35;have CO:=aK BI;have CP:=aK BJ;clear BI BJ;have CS:=aK BK;have CT:=aK BL;clear BK BL;have CW:=aK BM;have CX:=aK BN;clear BM BN;have CQ:=aK BO;have CR:=aK BP;clear BO BP;have CU:=aK BQ;have CV:=aK BR;clear BQ BR;have CY:=aK BS;have CZ:=aK BT;clear BS BT;have HB:=aK (Below.refl w.heap.size w);have H:=h;unfold laws_eqDisk.f at H;clear h;by_cases c3:B0=B2
 ·rw[if_pos c3]at H;have Au:=bT c3;have Di:=bE c3;clear c3;by_cases c4:B1=B3
  ·rw[if_pos c4]at H;have Bz:=bT c4;have CB:=bE c4;clear c4;obtain⟨BF,A5,H⟩:=bd H;by_cases c6:BF=true
   ·subst c6;replace H:=iT H;obtain⟨BG,A7,H⟩:=bd H;by_cases c8:BG=true
    ·subst c8;replace H:=iT H;obtain⟨BH,A9,H⟩:=bd H;by_cases c10:BH=true
     ·subst c10;replace H:=iT H;obtain rfl:=oj H
      exact laws_eqDisk.z1
     ·replace c10:=bF c10;subst c10;replace H:=iF H;obtain rfl:=oj H
      exact laws_eqDisk.z1
    ·replace c8:=bF c8;subst c8;replace H:=iF H;obtain rfl:=oj H
     exact laws_eqDisk.z1
   ·replace c6:=bF c6;subst c6;replace H:=iF H;obtain rfl:=oj H
    exact laws_eqDisk.z1
  ·rw[if_neg c4]at H;have Bz:=bN c4;have CB:=bQ c4;obtain rfl:=oj H
   exact laws_eqDisk.z1
 ·rw[if_neg c3]at H;have Au:=bN c3;have Di:=bQ c3;obtain rfl:=oj H
  exact laws_eqDisk.z1
def laws_markText.l0:Nat→Int→ByteArray→Option (ByteArray)
 | 0,_,_=>none
 |k+1,x0,x3=>if x0>0 then((some (([(wrap64 (48+(Int.tmod x0 10)))%256]:List Int):List Int)).bind fun AY=>(if(strOfNums AY).size+x3.size≤9223372036854775807 then(laws_markText.l0 k (wrap64 (Int.tdiv x0 10)) ((strOfNums AY)++x3))else(none)))else(if 1+x3.size≤9223372036854775807 then(some ((⟨#[109]⟩:ByteArray)++x3))else(none))
def laws_markText.f (k:Nat) (a0:Int):Option (ByteArray):=if a0≤0 then(some (⟨#[109,48]⟩:ByteArray))else(laws_markText.l0 k a0 (⟨#[]⟩:ByteArray))
theorem laws_markText.calls (k:Nat) (a0:Int) (r:ByteArray) (w:World) (h:laws_markText.f k a0=some r) :
 Calls Tryz.prog 81 #[.int .i64 a0] w fun e w'=>e = .returned (.string r)∧Below w.heap.size w w':=by
 have HB:=aK (Below.refl w.heap.size w);have H:=h;unfold laws_markText.f at H;clear h;by_cases c2:a0≤0
 ·rw[if_pos c2]at H;have CC:=dt c2;clear c2;obtain rfl:=oj H
  go_enter Tryz.func81,Tryz.ntmps81
  go_wp2
  go_ret
  exact⟨fe,bl⟩
 ·rw[if_neg c2]at H;have CC:=df c2;clear c2;have H':=aK H;clear H
  go_enter Tryz.func81,Tryz.ntmps81
  go_wp2
  go_loopg [0,3] k (fun kq v0 v3 w'=>∃(J:Int) (AD:ByteArray),v0 = .int .i64 J∧v3 = .string AD∧Aside0 (laws_markText.l0 kq J AD=some r)∧Aside0 (kq≤k)∧Aside0 (Below w.heap.size w w'))
  case atStart=>exact⟨(a0),((⟨#[]⟩:ByteArray)),fa,fa,H',⟨Nat.le_refl _⟩,⟨bl⟩⟩
  case round=>
   clear H';(try clear c2);(try clear CC);(try clear p2);obtain⟨J,AD,rfl,rfl,HA,AM,HB⟩:=hrel;cases gk with
   |zero=>exact absurd HA.o (by simp[laws_markText.l0])
   |succ k1=>
    have H:=HA.o;clear HA;simp only[laws_markText.l0]at H;by_cases c3:J>0
    ·rw[if_pos c3]at H;have Au:=dt c3;clear c3;obtain⟨AY,Bk⟩:=yy ([(wrap64 (48+(Int.tmod J 10)))%256]:List Int);rw[←Bk]at H;(try rw[obs]at H)
     have BU:=aK Bk;clear Bk;by_cases c4:(strOfNums AY).size+AD.size≤9223372036854775807
     ·rw[if_pos c4]at H;have Bz:=eq_true c4;have CB:=dt c4;(try have E2:(9223372036854775807<(strOfNums AY).size+AD.size)=False:=eq_false (Nat.not_lt.2 c4));have H':=aK H;clear H;go_wp2_with (first|((with_reducible refine gD 12 rfl ?_);refine Kd.R_lit (Kd.int .u8) _ 5 ?hg (N:=12) ?hd (xs:=([(wrap64 (48+(Int.tmod J 10)))%256]:List Int)) (inner:=[.int .u8 ((wrap64 (48+(Int.tmod J 10)))%256)]) (ok:=fun _=>True) (okp:=fun _=>True) ?hr ?hp (fun _ hk=>hk) trivial (Below.refl _ _) (Nat.le_refl _) (by simp) ?_;(case hd=>rfl);(case hg=>rfl);(case hr=>first|(go_simp;done)|(go_simp;rfl));(case hp=>exact(Reps.one (show Kd.M (Kd.int .u8) _ _ _ ((wrap64 (48+(Int.tmod J 10)))%256) [.int .u8 ((wrap64 (48+(Int.tmod J 10)))%256)]from rfl) (Reps.none _ _)));intro Eb Ec B6 hb hg_ hnew_;clear hg_ hnew_;(first|rw[←BU.o]at B6|(simp only[Int.reduceToNat]at B6;rw[←BU.o]at B6));have Dj:=rl HB B6;replace HB:=bS HB hb;clear hb B6;have E3:=own_string (P:=Tryz.prog) Tryz.underlying169 Tryz.underlying5 Tryz.underlying9 (Kd.own_of_R Dj.o)))
      go_roundg k1
      case measure=>have:=AM.o;omega
      case rel=>exact⟨(wrap64 (Int.tdiv J 10)),((strOfNums AY)++AD),fa,fa,H',⟨by have:=AM.o;omega⟩,⟨bl⟩⟩
     ·rw[if_neg c4]at H;exact absurd H (by simp)
    ·rw[if_neg c3]at H;have Au:=df c3;clear c3;by_cases c8:1+AD.size≤9223372036854775807
     ·rw[if_pos c8]at H;have E4:=eq_true c8;have E5:=dt c8;(try have E6:(9223372036854775807<1+AD.size)=False:=eq_false (Nat.not_lt.2 c8));obtain rfl:=oj H;go_wp2
      go_ret
      exact⟨fe,bl⟩
     ·rw[if_neg c8]at H;exact absurd H (by simp)
def laws_markInodeS.l0:Nat→List (S130)→Int→Int→Option (Int×(List (S130)))
 | 0,_,_,_=>none
 |k+1,x0,x1,x5=>if x5<(x0.length:Int)then(if 0≤x5 then((some (x0.set (x5:Int).toNat (⟨x1,(rd_T130 x0 x5).f1,(rd_T130 x0 x5).f2⟩:S130):List (S130))).bind fun Ae=>((laws_markText.f k (wrap64 (x1+1))).bind fun AE=>((some (Ae.set (x5:Int).toNat (⟨(rd_T130 Ae x5).f0,AE,(rd_T130 Ae x5).f2⟩:S130):List (S130))).bind fun Af=>(laws_markInodeS.l0 k (Af.set (x5:Int).toNat (⟨(rd_T130 Af x5).f0,(rd_T130 Af x5).f1,wrap64 ((wrap64 (x1+1))+1)⟩:S130)) (wrap64 ((wrap64 ((wrap64 (x1+1))+1))+1)) (wrap64 (x5+1))))))else(none))else(some (x1,x0))
def laws_markInodeS.f (k:Nat) (l0:List (S130)) (a1:Int):Option (Int×(List (S130))):=laws_markInodeS.l0 k l0 a1 0
theorem laws_markInodeS.calls (k:Nat) (Z:Nat→Prop) (A0:Value) (l0:List (S130)) (a1:Int) (r1:Int) (r2:List (S130)) (w0 w:World) (hB:Below w0.heap.size w0 w) (BV:Kd.R k130 130 w w0.heap.size Z A0 l0) (h:laws_markInodeS.f k l0 a1=some (r1,r2)) :
 Calls Tryz.prog 64 #[A0,.int .i64 a1] w fun e w'=>e = .returned (.int .i64 r1)∧Kd.R k130 130 w' w0.heap.size (fun k_=>(Z k_∨w.heap.size≤k_)) A0 r2∧Below w0.heap.size w0 w'∧Kept w w' (fun k_=>Z k_):=by
 have BW:=aK (show Kd.R k130 130 w w0.heap.size (fun k_=>(Z k_∨w.heap.size≤k_)) A0 l0 from rM BV (fun k_ hk=>(.inl hk)));have HK:=aK (Kept.refl w (fun k_=>Z k_));have Dk:=aK hB.size;have HB:=aK hB;clear hB;have H:=h;unfold laws_markInodeS.f at H;clear h;have H':=aK H;clear H
 go_enter Tryz.func64,Tryz.ntmps64
 go_wp2
 go_loopg [1,5] k (fun kq v1 v5 w'=>∃(J:List (S130)) (Y:Int) (D:Int),v1 = .int .i64 Y∧v5 = .int .i64 D∧Aside0 (laws_markInodeS.l0 kq J Y D=some (r1,r2))∧Aside0 (kq≤k)∧Aside0 (Kd.R k130 130 w' w0.heap.size (fun k_=>(Z k_∨w.heap.size≤k_)) A0 J)∧Aside0 (Kept w w' (fun k_=>Z k_))∧Aside0 (Below w0.heap.size w0 w'))
 case atStart=>exact⟨(l0),(a1),(0),fa,fa,H',⟨Nat.le_refl _⟩,⟨rpR BW.o⟩,⟨by repeat (first|(with_reducible first|exact HK.o|apply Kept.alloc|apply Kept.drewN|apply Kept.drew)|exact HK.o)⟩,⟨bl⟩⟩
 case round=>
  clear H';(try clear p2);obtain⟨J,Y,D,rfl,rfl,HA,AM,U,HK,HB⟩:=hrel;cases gk with
  |zero=>exact absurd HA.o (by simp[laws_markInodeS.l0])
  |succ k1=>
   have H:=HA.o;clear HA;simp only[laws_markInodeS.l0]at H;by_cases c3:D<(J.length:Int)
   ·rw[if_pos c3]at H;have Au:=dt c3;clear c3;by_cases c4:0≤D
    ·rw[if_pos c4]at H;have Bz:=dt c4;clear c4;obtain⟨Ae,Bl⟩:=yy (J.set (D:Int).toNat (⟨Y,(rd_T130 J D).f1,(rd_T130 J D).f2⟩:S130));rw[←Bl]at H;(try rw[obs]at H)
     have D0:=aK Bl;clear Bl;obtain⟨AE,A6,H⟩:=bd H;obtain⟨Af,Bm⟩:=yy (Ae.set (D:Int).toNat (⟨(rd_T130 Ae D).f0,AE,(rd_T130 Ae D).f2⟩:S130));rw[←Bm]at H;(try rw[obs]at H)
     have D1:=aK Bm;clear Bm;obtain⟨CD,Bn⟩:=yy (Af.set (D:Int).toNat (⟨(rd_T130 Af D).f0,(rd_T130 Af D).f1,wrap64 ((wrap64 (Y+1))+1)⟩:S130));rw[←Bn]at H;(try rw[obs]at H)
     have D2:=aK Bn;clear Bn;have H':=aK H;clear H;obtain⟨B7,A1,Am⟩:=rs U;subst Am;have AN:0≤(D:Int):=dT am;have AO:(D:Int)<((J.length:Int):Int):=dT am;obtain⟨X,CE,AF,AG,D3,DL,BX⟩:=Kd.R_form U.o (by omega);(first|cases AF|(injection AF with ea_ en_ ec_;(first|subst ea_|(injection ea_ with ea_;subst ea_));subst ec_;clear en_));have B8:=aK AG;have DM:=aK BX;clear AG D3 BX;have D4:=aK (show(Z X∨w.heap.size≤X)from(U.out.1 _ rfl));obtain⟨DN,BY,BZ,Ap,Aq⟩:=Kd.R_elem U.o z130 (D:Int) AN AO;obtain rfl:=k130_openM BZ;have B_:wr.cell? ⟨X,(D:Int).toNat*3,none⟩=some (.int .i64 ((rd_T130 J D).f0)):=Ap 0 _ rfl;have BA:wr.cell? ⟨X,(D:Int).toNat*3+1,none⟩=some (.string ((rd_T130 J D).f1)):=Ap 1 _ rfl;have Cd:wr.cell? ⟨X,(D:Int).toNat*3+2,none⟩=some (.int .i64 ((rd_T130 J D).f2)):=Ap 2 _ rfl;have D5:wr.frozen? ⟨X,(D:Int).toNat*3,none⟩=false:=Aq 0;have D6:wr.frozen? ⟨X,(D:Int).toNat*3+1,none⟩=false:=Aq 1;have D7:wr.frozen? ⟨X,(D:Int).toNat*3+2,none⟩=false:=Aq 2;clear BY Ap Aq BZ;replace AN:=eq_true AN;replace AO:=eq_true AO
     have B9:=aK (show Kd.R k130 130 wr w0.heap.size (fun k_=>(Z k_∨w.heap.size≤k_)) (.slice (some ⟨X,0,none⟩) J.length A1) J from(rpR U.o));obtain⟨CF,Ar,AH,Ad,Ag⟩:=Kd.R_elem B9.o z130 (D:Int) (dT am) (by have h_:(D:Int)<((J.length:Int):Int):=dT am;first|exact h_|(have e_:=(Kd.R_reads' U.o).1;omega)|simpa using h_);obtain rfl:=k130_openM AH;have AP:=Kd.R_seg B9.o (D:Int) (dT am) (by have h_:(D:Int)<((J.length:Int):Int):=dT am;first|exact h_|(have e_:=(Kd.R_reads' U.o).1;omega)|simpa using h_) (seg:=[.int .i64 Y]) (j:=0) Ar Ad (show 1≤3 from by decide) (x':=(⟨Y,(rd_T130 J D).f1,(rd_T130 J D).f2⟩:S130)) (k130_mkM _ _ _ (⟨Y,(rd_T130 J D).f1,(rd_T130 J D).f2⟩:S130)) (fun _ hk=>hk);have Av:=Ad 0 _ rfl;(try simp only[show(k130).sz=3 from rfl,Nat.mul_one,Nat.add_zero]at Av);have AL:=Ag 0;(try simp only[show(k130).sz=3 from rfl,Nat.mul_one,Nat.add_zero]at AL);clear Ar Ad Ag AH
     go_wp2_with (first|((with_reducible refine gate_store (t:=3) (p:=16) rfl ?_);refine store_event (t:=3) (p:=16) (v:=?vo_w11) (w1:=(wr.setCell ⟨X,(D:Int).toNat*3,none⟩ (.int .i64 Y))) ?hg ?ho ?hn ?hr ?_;(case ho=>rfl);(case hg=>rfl);(case hn=>rfl);(case hr=>first|(go_simp;done)|(go_simp;rfl));intro B5 hw;have hg:wr.grownBy B5 (some X):=(by rw[hw];exact AP.2);have hp_:Kd.R k130 130 B5 w0.heap.size (fun k_=>(Z k_∨w.heap.size≤k_)) (.slice (some ⟨X,0,none⟩) J.length A1) Ae:=(by rw[hw,D0.o];exact AP.1);clear AP;replace HB:=aK ((by rw[hw];exact below_set (HB.o) B8.o:Below w0.heap.size w0 B5));replace HK:=aK (Kept.of_grown (S:=(fun k_=>Z k_)) hg (by repeat (first|(with_reducible first|exact HK.o|apply Kept.alloc|apply Kept.drewN|apply Kept.drew)|exact HK.o)) (fun k_ e_=>(U.out.1 k_ e_)));replace U:=aK (hp_);clear hg hw hp_)|((with_reducible refine gC 81 rfl ?_);refine goesW Tryz.func81 ?_;(with_reducible refine(laws_markText.calls k1 (wrap64 (Y+1)) AE _ A6.o).mono ?_);rintro e A2 ⟨rfl,hb⟩;refine⟨_,rfl,?_⟩;replace U:=rb U hb;replace HK:=aK (Kept.below (S:=(fun k_=>Z k_)) (by repeat (first|(with_reducible first|exact HK.o|apply Kept.alloc|apply Kept.drewN|apply Kept.drew)|exact HK.o)) hb);replace HB:=bs (w:=w0) hb;(try clear hb);have AQ:0≤(D:Int):=dT am;have AR:(D:Int)<((J.length:Int):Int):=dT am;obtain⟨Dl,Ba,Bb,Ah,Ai⟩:=Kd.R_elem U.o z130 (D:Int) AQ AR;obtain rfl:=k130_openM Bb;have BB:A2.cell? ⟨X,(D:Int).toNat*3,none⟩=some (.int .i64 ((rd_T130 Ae D).f0)):=Ah 0 _ rfl;have BC:A2.cell? ⟨X,(D:Int).toNat*3+1,none⟩=some (.string ((rd_T130 Ae D).f1)):=Ah 1 _ rfl;have Ce:A2.cell? ⟨X,(D:Int).toNat*3+2,none⟩=some (.int .i64 ((rd_T130 Ae D).f2)):=Ah 2 _ rfl;have C0:A2.frozen? ⟨X,(D:Int).toNat*3,none⟩=false:=Ai 0;have C1:A2.frozen? ⟨X,(D:Int).toNat*3+1,none⟩=false:=Ai 1;have D8:A2.frozen? ⟨X,(D:Int).toNat*3+2,none⟩=false:=Ai 2;clear Ba Ah Ai Bb;replace AQ:=eq_true AQ;replace AR:=eq_true AR;have CG:=aK (show Kd.R k130 130 A2 w0.heap.size (fun k_=>(Z k_∨w.heap.size≤k_)) (.slice (some ⟨X,0,none⟩) J.length A1) Ae from(rpR U.o));obtain⟨E7,C2,CH,Bo,C3⟩:=Kd.R_elem CG.o z130 (D:Int) (dT am) (by have h_:(D:Int)<((J.length:Int):Int):=dT am;first|exact h_|(have e_:=(Kd.R_reads' U.o).1;omega)|simpa using h_);obtain rfl:=k130_openM CH;have C4:=Kd.R_seg CG.o (D:Int) (dT am) (by have h_:(D:Int)<((J.length:Int):Int):=dT am;first|exact h_|(have e_:=(Kd.R_reads' U.o).1;omega)|simpa using h_) (seg:=[.string AE]) (j:=1) C2 Bo (show 2≤3 from by decide) (x':=(⟨(rd_T130 Ae D).f0,AE,(rd_T130 Ae D).f2⟩:S130)) (k130_mkM _ _ _ (⟨(rd_T130 Ae D).f0,AE,(rd_T130 Ae D).f2⟩:S130)) (fun _ hk=>hk);have Aw:=Bo 1 _ rfl;(try simp only[show(k130).sz=3 from rfl,Nat.mul_one,Nat.add_zero]at Aw);have Cf:=C3 1;(try simp only[show(k130).sz=3 from rfl,Nat.mul_one,Nat.add_zero]at Cf);clear C2 Bo C3 CH)|((with_reducible refine gate_store (t:=9) (p:=24) rfl ?_);refine store_event (t:=9) (p:=24) (v:=?vo_w14) (w1:=(A2.setCell ⟨X,(D:Int).toNat*3+1,none⟩ (.string AE))) ?hg ?ho ?hn ?hr ?_;(case ho=>rfl);(case hg=>rfl);(case hn=>rfl);(case hr=>first|(go_simp;done)|(go_simp;rfl));intro Aj hw;have hg:A2.grownBy Aj (some X):=(by rw[hw];exact C4.2);have hp_:Kd.R k130 130 Aj w0.heap.size (fun k_=>(Z k_∨w.heap.size≤k_)) (.slice (some ⟨X,0,none⟩) J.length A1) Af:=(by rw[hw,D1.o];exact C4.1);clear C4;replace HB:=aK ((by rw[hw];exact below_set (HB.o) B8.o:Below w0.heap.size w0 Aj));replace HK:=aK (Kept.of_grown (S:=(fun k_=>Z k_)) hg (by repeat (first|(with_reducible first|exact HK.o|apply Kept.alloc|apply Kept.drewN|apply Kept.drew)|exact HK.o)) (fun k_ e_=>(U.out.1 k_ e_)));replace U:=aK (hp_);clear hg hw hp_;have Bp:0≤(D:Int):=dT am;have Bq:(D:Int)<((J.length:Int):Int):=dT am;obtain⟨Ed,Dm,Dn,BD,BE⟩:=Kd.R_elem U.o z130 (D:Int) Bp Bq;obtain rfl:=k130_openM Dn;have Cg:Aj.cell? ⟨X,(D:Int).toNat*3,none⟩=some (.int .i64 ((rd_T130 Af D).f0)):=BD 0 _ rfl;have Ch:Aj.cell? ⟨X,(D:Int).toNat*3+1,none⟩=some (.string ((rd_T130 Af D).f1)):=BD 1 _ rfl;have Ci:Aj.cell? ⟨X,(D:Int).toNat*3+2,none⟩=some (.int .i64 ((rd_T130 Af D).f2)):=BD 2 _ rfl;have DO:Aj.frozen? ⟨X,(D:Int).toNat*3,none⟩=false:=BE 0;have DP:Aj.frozen? ⟨X,(D:Int).toNat*3+1,none⟩=false:=BE 1;have DQ:Aj.frozen? ⟨X,(D:Int).toNat*3+2,none⟩=false:=BE 2;clear Dm BD BE Dn;replace Bp:=eq_true Bp;replace Bq:=eq_true Bq;have Bc:=aK (show Kd.R k130 130 Aj w0.heap.size (fun k_=>(Z k_∨w.heap.size≤k_)) (.slice (some ⟨X,0,none⟩) J.length A1) Af from(rpR U.o));obtain⟨Do,AS,Bd,As,AT⟩:=Kd.R_elem Bc.o z130 (D:Int) (dT am) (by have h_:(D:Int)<((J.length:Int):Int):=dT am;first|exact h_|(have e_:=(Kd.R_reads' U.o).1;omega)|simpa using h_);obtain rfl:=k130_openM Bd;have AU:=Kd.R_seg Bc.o (D:Int) (dT am) (by have h_:(D:Int)<((J.length:Int):Int):=dT am;first|exact h_|(have e_:=(Kd.R_reads' U.o).1;omega)|simpa using h_) (seg:=[.int .i64 (wrap64 ((wrap64 (Y+1))+1))]) (j:=2) AS As (show 3≤3 from by decide) (x':=(⟨(rd_T130 Af D).f0,(rd_T130 Af D).f1,wrap64 ((wrap64 (Y+1))+1)⟩:S130)) (k130_mkM _ _ _ (⟨(rd_T130 Af D).f0,(rd_T130 Af D).f1,wrap64 ((wrap64 (Y+1))+1)⟩:S130)) (fun _ hk=>hk);have AZ:=As 2 _ rfl;(try simp only[show(k130).sz=3 from rfl,Nat.mul_one,Nat.add_zero]at AZ);have Cj:=AT 2;(try simp only[show(k130).sz=3 from rfl,Nat.mul_one,Nat.add_zero]at Cj);clear AS As AT Bd)|((with_reducible refine gate_store (t:=3) (p:=31) rfl ?_);refine store_event (t:=3) (p:=31) (v:=?vo_w16) (w1:=(Aj.setCell ⟨X,(D:Int).toNat*3+2,none⟩ (.int .i64 (wrap64 ((wrap64 (Y+1))+1))))) ?hg ?ho ?hn ?hr ?_;(case ho=>rfl);(case hg=>rfl);(case hn=>rfl);(case hr=>first|(go_simp;done)|(go_simp;rfl));intro Ao hw;have hg:Aj.grownBy Ao (some X):=(by rw[hw];exact AU.2);have hp_:Kd.R k130 130 Ao w0.heap.size (fun k_=>(Z k_∨w.heap.size≤k_)) (.slice (some ⟨X,0,none⟩) J.length A1) CD:=(by rw[hw,D2.o];exact AU.1);clear AU;replace HB:=aK ((by rw[hw];exact below_set (HB.o) B8.o:Below w0.heap.size w0 Ao));replace HK:=aK (Kept.of_grown (S:=(fun k_=>Z k_)) hg (by repeat (first|(with_reducible first|exact HK.o|apply Kept.alloc|apply Kept.drewN|apply Kept.drew)|exact HK.o)) (fun k_ e_=>(U.out.1 k_ e_)));replace U:=aK (hp_);clear hg hw hp_))
     go_roundg k1
     case measure=>have:=AM.o;omega
     case rel=>exact⟨(CD),(wrap64 ((wrap64 ((wrap64 (Y+1))+1))+1)),(wrap64 (D+1)),fa,fa,H',⟨by have:=AM.o;omega⟩,⟨rpR U.o⟩,⟨by repeat (first|(with_reducible first|exact HK.o|apply Kept.alloc|apply Kept.drewN|apply Kept.drew)|exact HK.o)⟩,⟨bl⟩⟩
    ·rw[if_neg c4]at H;exact absurd H (by simp)
   ·rw[if_neg c3]at H;have Au:=df c3;clear c3;simp only[Option.some.injEq,Prod.mk.injEq]at H;obtain⟨rfl,rfl⟩:=H;obtain⟨B7,A1,Am⟩:=rs U;subst Am;go_wp2
    go_ret
    exact⟨fe,rpR U.o,bl,by repeat (first|(with_reducible first|exact HK.o|apply Kept.alloc|apply Kept.drewN|apply Kept.drew)|exact HK.o)⟩
def laws_markLinkS.l0:Nat→List (S133)→Int→Int→Option (Int×(List (S133)))
 | 0,_,_,_=>none
 |k+1,x0,x1,x5=>if x5<(x0.length:Int)then((laws_markText.f k x1).bind fun AI=>(if 0≤x5 then((some (x0.set (x5:Int).toNat (⟨AI,(rd_T133 x0 x5).f1⟩:S133):List (S133))).bind fun An=>(laws_markLinkS.l0 k (An.set (x5:Int).toNat (⟨(rd_T133 An x5).f0,wrap64 (x1+1)⟩:S133)) (wrap64 ((wrap64 (x1+1))+1)) (wrap64 (x5+1))))else(none)))else(some (x1,x0))
def laws_markLinkS.f (k:Nat) (l0:List (S133)) (a1:Int):Option (Int×(List (S133))):=laws_markLinkS.l0 k l0 a1 0
theorem laws_markLinkS.calls (k:Nat) (Z:Nat→Prop) (A0:Value) (l0:List (S133)) (a1:Int) (r1:Int) (r2:List (S133)) (w0 w:World) (hB:Below w0.heap.size w0 w) (BV:Kd.R k133 133 w w0.heap.size Z A0 l0) (h:laws_markLinkS.f k l0 a1=some (r1,r2)) :
 Calls Tryz.prog 65 #[A0,.int .i64 a1] w fun e w'=>e = .returned (.int .i64 r1)∧Kd.R k133 133 w' w0.heap.size (fun k_=>(Z k_∨w.heap.size≤k_)) A0 r2∧Below w0.heap.size w0 w'∧Kept w w' (fun k_=>Z k_):=by
 have BW:=aK (show Kd.R k133 133 w w0.heap.size (fun k_=>(Z k_∨w.heap.size≤k_)) A0 l0 from rM BV (fun k_ hk=>(.inl hk)));have HK:=aK (Kept.refl w (fun k_=>Z k_));have Dk:=aK hB.size;have HB:=aK hB;clear hB;have H:=h;unfold laws_markLinkS.f at H;clear h;have H':=aK H;clear H
 go_enter Tryz.func65,Tryz.ntmps65
 go_wp2
 go_loopg [1,5] k (fun kq v1 v5 w'=>∃(J:List (S133)) (Y:Int) (D:Int),v1 = .int .i64 Y∧v5 = .int .i64 D∧Aside0 (laws_markLinkS.l0 kq J Y D=some (r1,r2))∧Aside0 (kq≤k)∧Aside0 (Kd.R k133 133 w' w0.heap.size (fun k_=>(Z k_∨w.heap.size≤k_)) A0 J)∧Aside0 (Kept w w' (fun k_=>Z k_))∧Aside0 (Below w0.heap.size w0 w'))
 case atStart=>exact⟨(l0),(a1),(0),fa,fa,H',⟨Nat.le_refl _⟩,⟨rpR BW.o⟩,⟨by repeat (first|(with_reducible first|exact HK.o|apply Kept.alloc|apply Kept.drewN|apply Kept.drew)|exact HK.o)⟩,⟨bl⟩⟩
 case round=>
  clear H';(try clear p2);obtain⟨J,Y,D,rfl,rfl,HA,AM,U,HK,HB⟩:=hrel;cases gk with
  |zero=>exact absurd HA.o (by simp[laws_markLinkS.l0])
  |succ k1=>
   have H:=HA.o;clear HA;simp only[laws_markLinkS.l0]at H;by_cases c3:D<(J.length:Int)
   ·rw[if_pos c3]at H;have Au:=dt c3;clear c3;obtain⟨AI,A4,H⟩:=bd H;by_cases c5:0≤D
    ·rw[if_pos c5]at H;have E8:=dt c5;clear c5;obtain⟨An,Br⟩:=yy (J.set (D:Int).toNat (⟨AI,(rd_T133 J D).f1⟩:S133));rw[←Br]at H;(try rw[obs]at H)
     have D9:=aK Br;clear Br;obtain⟨CI,Bs⟩:=yy (An.set (D:Int).toNat (⟨(rd_T133 An D).f0,wrap64 (Y+1)⟩:S133));rw[←Bs]at H;(try rw[obs]at H)
     have Da:=aK Bs;clear Bs;have H':=aK H;clear H;obtain⟨B7,A1,Am⟩:=rs U;subst Am
     go_wp2_with (first|((with_reducible refine gC 81 rfl ?_);refine goesW Tryz.func81 ?_;(with_reducible refine(laws_markText.calls k1 Y AI _ A4.o).mono ?_);rintro e B4 ⟨rfl,hb⟩;refine⟨_,rfl,?_⟩;replace U:=rb U hb;replace HK:=aK (Kept.below (S:=(fun k_=>Z k_)) (by repeat (first|(with_reducible first|exact HK.o|apply Kept.alloc|apply Kept.drewN|apply Kept.drew)|exact HK.o)) hb);replace HB:=bs (w:=w0) hb;(try clear hb);have AN:0≤(D:Int):=dT am;have AO:(D:Int)<((J.length:Int):Int):=dT am;obtain⟨Al,CE,AF,AG,DR,Ee,Dp⟩:=Kd.R_form U.o (by omega);(first|cases AF|(injection AF with ea_ en_ ec_;(first|subst ea_|(injection ea_ with ea_;subst ea_));subst ec_;clear en_));have Dq:=aK AG;have Ef:=aK Dp;clear AG DR Dp;have DS:=aK (show(Z Al∨w.heap.size≤Al)from(U.out.1 _ rfl));obtain⟨Eg,Dr,Ds,C5,C6⟩:=Kd.R_elem U.o z133 (D:Int) AN AO;obtain rfl:=k133_openM Ds;have B_:B4.cell? ⟨Al,(D:Int).toNat*2,none⟩=some (.string ((rd_T133 J D).f0)):=C5 0 _ rfl;have BA:B4.cell? ⟨Al,(D:Int).toNat*2+1,none⟩=some (.int .i64 ((rd_T133 J D).f1)):=C5 1 _ rfl;have DT:B4.frozen? ⟨Al,(D:Int).toNat*2,none⟩=false:=C6 0;have DU:B4.frozen? ⟨Al,(D:Int).toNat*2+1,none⟩=false:=C6 1;clear Dr C5 C6 Ds;replace AN:=eq_true AN;replace AO:=eq_true AO;have B9:=aK (show Kd.R k133 133 B4 w0.heap.size (fun k_=>(Z k_∨w.heap.size≤k_)) (.slice (some ⟨Al,0,none⟩) J.length A1) J from(rpR U.o));obtain⟨CF,Ar,AH,Ad,Ag⟩:=Kd.R_elem B9.o z133 (D:Int) (dT am) (by have h_:(D:Int)<((J.length:Int):Int):=dT am;first|exact h_|(have e_:=(Kd.R_reads' U.o).1;omega)|simpa using h_);obtain rfl:=k133_openM AH;have AP:=Kd.R_seg B9.o (D:Int) (dT am) (by have h_:(D:Int)<((J.length:Int):Int):=dT am;first|exact h_|(have e_:=(Kd.R_reads' U.o).1;omega)|simpa using h_) (seg:=[.string AI]) (j:=0) Ar Ad (show 1≤2 from by decide) (x':=(⟨AI,(rd_T133 J D).f1⟩:S133)) (k133_mkM _ _ _ (⟨AI,(rd_T133 J D).f1⟩:S133)) (fun _ hk=>hk);have Av:=Ad 0 _ rfl;(try simp only[show(k133).sz=2 from rfl,Nat.mul_one,Nat.add_zero]at Av);have AL:=Ag 0;(try simp only[show(k133).sz=2 from rfl,Nat.mul_one,Nat.add_zero]at AL);clear Ar Ad Ag AH)|((with_reducible refine gate_store (t:=9) (p:=17) rfl ?_);refine store_event (t:=9) (p:=17) (v:=?vo_w11) (w1:=(B4.setCell ⟨Al,(D:Int).toNat*2,none⟩ (.string AI))) ?hg ?ho ?hn ?hr ?_;(case ho=>rfl);(case hg=>rfl);(case hn=>rfl);(case hr=>first|(go_simp;done)|(go_simp;rfl));intro A2 hw;have hg:B4.grownBy A2 (some Al):=(by rw[hw];exact AP.2);have hp_:Kd.R k133 133 A2 w0.heap.size (fun k_=>(Z k_∨w.heap.size≤k_)) (.slice (some ⟨Al,0,none⟩) J.length A1) An:=(by rw[hw,D9.o];exact AP.1);clear AP;replace HB:=aK ((by rw[hw];exact below_set (HB.o) Dq.o:Below w0.heap.size w0 A2));replace HK:=aK (Kept.of_grown (S:=(fun k_=>Z k_)) hg (by repeat (first|(with_reducible first|exact HK.o|apply Kept.alloc|apply Kept.drewN|apply Kept.drew)|exact HK.o)) (fun k_ e_=>(U.out.1 k_ e_)));replace U:=aK (hp_);clear hg hw hp_;have AQ:0≤(D:Int):=dT am;have AR:(D:Int)<((J.length:Int):Int):=dT am;obtain⟨Dl,Ba,Bb,Ah,Ai⟩:=Kd.R_elem U.o z133 (D:Int) AQ AR;obtain rfl:=k133_openM Bb;have BB:A2.cell? ⟨Al,(D:Int).toNat*2,none⟩=some (.string ((rd_T133 An D).f0)):=Ah 0 _ rfl;have BC:A2.cell? ⟨Al,(D:Int).toNat*2+1,none⟩=some (.int .i64 ((rd_T133 An D).f1)):=Ah 1 _ rfl;have C0:A2.frozen? ⟨Al,(D:Int).toNat*2,none⟩=false:=Ai 0;have C1:A2.frozen? ⟨Al,(D:Int).toNat*2+1,none⟩=false:=Ai 1;clear Ba Ah Ai Bb;replace AQ:=eq_true AQ;replace AR:=eq_true AR;have Be:=aK (show Kd.R k133 133 A2 w0.heap.size (fun k_=>(Z k_∨w.heap.size≤k_)) (.slice (some ⟨Al,0,none⟩) J.length A1) An from(rpR U.o));obtain⟨Dt,AV,Bf,At,AW⟩:=Kd.R_elem Be.o z133 (D:Int) (dT am) (by have h_:(D:Int)<((J.length:Int):Int):=dT am;first|exact h_|(have e_:=(Kd.R_reads' U.o).1;omega)|simpa using h_);obtain rfl:=k133_openM Bf;have AX:=Kd.R_seg Be.o (D:Int) (dT am) (by have h_:(D:Int)<((J.length:Int):Int):=dT am;first|exact h_|(have e_:=(Kd.R_reads' U.o).1;omega)|simpa using h_) (seg:=[.int .i64 (wrap64 (Y+1))]) (j:=1) AV At (show 2≤2 from by decide) (x':=(⟨(rd_T133 An D).f0,wrap64 (Y+1)⟩:S133)) (k133_mkM _ _ _ (⟨(rd_T133 An D).f0,wrap64 (Y+1)⟩:S133)) (fun _ hk=>hk);have Aw:=At 1 _ rfl;(try simp only[show(k133).sz=2 from rfl,Nat.mul_one,Nat.add_zero]at Aw);have Ck:=AW 1;(try simp only[show(k133).sz=2 from rfl,Nat.mul_one,Nat.add_zero]at Ck);clear AV At AW Bf)|((with_reducible refine gate_store (t:=3) (p:=24) rfl ?_);refine store_event (t:=3) (p:=24) (v:=?vo_w13) (w1:=(A2.setCell ⟨Al,(D:Int).toNat*2+1,none⟩ (.int .i64 (wrap64 (Y+1))))) ?hg ?ho ?hn ?hr ?_;(case ho=>rfl);(case hg=>rfl);(case hn=>rfl);(case hr=>first|(go_simp;done)|(go_simp;rfl));intro Aj hw;have hg:A2.grownBy Aj (some Al):=(by rw[hw];exact AX.2);have hp_:Kd.R k133 133 Aj w0.heap.size (fun k_=>(Z k_∨w.heap.size≤k_)) (.slice (some ⟨Al,0,none⟩) J.length A1) CI:=(by rw[hw,Da.o];exact AX.1);clear AX;replace HB:=aK ((by rw[hw];exact below_set (HB.o) Dq.o:Below w0.heap.size w0 Aj));replace HK:=aK (Kept.of_grown (S:=(fun k_=>Z k_)) hg (by repeat (first|(with_reducible first|exact HK.o|apply Kept.alloc|apply Kept.drewN|apply Kept.drew)|exact HK.o)) (fun k_ e_=>(U.out.1 k_ e_)));replace U:=aK (hp_);clear hg hw hp_))
     go_roundg k1
     case measure=>have:=AM.o;omega
     case rel=>exact⟨(CI),(wrap64 ((wrap64 (Y+1))+1)),(wrap64 (D+1)),fa,fa,H',⟨by have:=AM.o;omega⟩,⟨rpR U.o⟩,⟨by repeat (first|(with_reducible first|exact HK.o|apply Kept.alloc|apply Kept.drewN|apply Kept.drew)|exact HK.o)⟩,⟨bl⟩⟩
    ·rw[if_neg c5]at H;exact absurd H (by simp)
   ·rw[if_neg c3]at H;have Au:=df c3;clear c3;simp only[Option.some.injEq,Prod.mk.injEq]at H;obtain⟨rfl,rfl⟩:=H;obtain⟨B7,A1,Am⟩:=rs U;subst Am;go_wp2
    go_ret
    exact⟨fe,rpR U.o,bl,by repeat (first|(with_reducible first|exact HK.o|apply Kept.alloc|apply Kept.drewN|apply Kept.drew)|exact HK.o)⟩
def laws_markMoveS.l0:Nat→List (S135)→Int→Int→Option (Int×(List (S135)))
 | 0,_,_,_=>none
 |k+1,x0,x1,x5=>if x5<(x0.length:Int)then(if 0≤x5 then((some (x0.set (x5:Int).toNat (⟨x1,(rd_T135 x0 x5).f1,(rd_T135 x0 x5).f2,(rd_T135 x0 x5).f3⟩:S135):List (S135))).bind fun A3=>((laws_markText.f k (wrap64 (x1+1))).bind fun AJ=>((some (A3.set (x5:Int).toNat (⟨(rd_T135 A3 x5).f0,AJ,(rd_T135 A3 x5).f2,(rd_T135 A3 x5).f3⟩:S135):List (S135))).bind fun Aa=>((laws_markText.f k (wrap64 ((wrap64 (x1+1))+1))).bind fun AK=>((some (Aa.set (x5:Int).toNat (⟨(rd_T135 Aa x5).f0,(rd_T135 Aa x5).f1,AK,(rd_T135 Aa x5).f3⟩:S135):List (S135))).bind fun Ab=>(laws_markMoveS.l0 k (Ab.set (x5:Int).toNat (⟨(rd_T135 Ab x5).f0,(rd_T135 Ab x5).f1,(rd_T135 Ab x5).f2,wrap64 ((wrap64 ((wrap64 (x1+1))+1))+1)⟩:S135)) (wrap64 ((wrap64 ((wrap64 ((wrap64 (x1+1))+1))+1))+1)) (wrap64 (x5+1))))))))else(none))else(some (x1,x0))
def laws_markMoveS.f (k:Nat) (l0:List (S135)) (a1:Int):Option (Int×(List (S135))):=laws_markMoveS.l0 k l0 a1 0
theorem laws_markMoveS.calls (k:Nat) (Z:Nat→Prop) (A0:Value) (l0:List (S135)) (a1:Int) (r1:Int) (r2:List (S135)) (w0 w:World) (hB:Below w0.heap.size w0 w) (BV:Kd.R k135 135 w w0.heap.size Z A0 l0) (h:laws_markMoveS.f k l0 a1=some (r1,r2)) :
 Calls Tryz.prog 66 #[A0,.int .i64 a1] w fun e w'=>e = .returned (.int .i64 r1)∧Kd.R k135 135 w' w0.heap.size (fun k_=>(Z k_∨w.heap.size≤k_)) A0 r2∧Below w0.heap.size w0 w'∧Kept w w' (fun k_=>Z k_):=by
 have BW:=aK (show Kd.R k135 135 w w0.heap.size (fun k_=>(Z k_∨w.heap.size≤k_)) A0 l0 from rM BV (fun k_ hk=>(.inl hk)));have HK:=aK (Kept.refl w (fun k_=>Z k_));have Dk:=aK hB.size;have HB:=aK hB;clear hB;have H:=h;unfold laws_markMoveS.f at H;clear h;have H':=aK H;clear H
 go_enter Tryz.func66,Tryz.ntmps66
 go_wp2
 go_loopg [1,5] k (fun kq v1 v5 w'=>∃(J:List (S135)) (Y:Int) (D:Int),v1 = .int .i64 Y∧v5 = .int .i64 D∧Aside0 (laws_markMoveS.l0 kq J Y D=some (r1,r2))∧Aside0 (kq≤k)∧Aside0 (Kd.R k135 135 w' w0.heap.size (fun k_=>(Z k_∨w.heap.size≤k_)) A0 J)∧Aside0 (Kept w w' (fun k_=>Z k_))∧Aside0 (Below w0.heap.size w0 w'))
 case atStart=>exact⟨(l0),(a1),(0),fa,fa,H',⟨Nat.le_refl _⟩,⟨rpR BW.o⟩,⟨by repeat (first|(with_reducible first|exact HK.o|apply Kept.alloc|apply Kept.drewN|apply Kept.drew)|exact HK.o)⟩,⟨bl⟩⟩
 case round=>
  clear H';(try clear p2);obtain⟨J,Y,D,rfl,rfl,HA,AM,U,HK,HB⟩:=hrel;cases gk with
  |zero=>exact absurd HA.o (by simp[laws_markMoveS.l0])
  |succ k1=>
   have H:=HA.o;clear HA;simp only[laws_markMoveS.l0]at H;by_cases c3:D<(J.length:Int)
   ·rw[if_pos c3]at H;have Au:=dt c3;clear c3;by_cases c4:0≤D
    ·rw[if_pos c4]at H;have Bz:=dt c4;clear c4;obtain⟨A3,Bt⟩:=yy (J.set (D:Int).toNat (⟨Y,(rd_T135 J D).f1,(rd_T135 J D).f2,(rd_T135 J D).f3⟩:S135));rw[←Bt]at H;(try rw[obs]at H)
     have Db:=aK Bt;clear Bt;obtain⟨AJ,A6,H⟩:=bd H;obtain⟨Aa,Bu⟩:=yy (A3.set (D:Int).toNat (⟨(rd_T135 A3 D).f0,AJ,(rd_T135 A3 D).f2,(rd_T135 A3 D).f3⟩:S135));rw[←Bu]at H;(try rw[obs]at H)
     have Dc:=aK Bu;clear Bu;obtain⟨AK,A8,H⟩:=bd H;obtain⟨Ab,Bv⟩:=yy (Aa.set (D:Int).toNat (⟨(rd_T135 Aa D).f0,(rd_T135 Aa D).f1,AK,(rd_T135 Aa D).f3⟩:S135));rw[←Bv]at H;(try rw[obs]at H)
     have Dd:=aK Bv;clear Bv;obtain⟨CJ,Bw⟩:=yy (Ab.set (D:Int).toNat (⟨(rd_T135 Ab D).f0,(rd_T135 Ab D).f1,(rd_T135 Ab D).f2,wrap64 ((wrap64 ((wrap64 (Y+1))+1))+1)⟩:S135));rw[←Bw]at H;(try rw[obs]at H)
     have De:=aK Bw;clear Bw;have H':=aK H;clear H;obtain⟨B7,A1,Am⟩:=rs U;subst Am;have AN:0≤(D:Int):=dT am;have AO:(D:Int)<((J.length:Int):Int):=dT am;obtain⟨X,CE,AF,AG,D3,DL,BX⟩:=Kd.R_form U.o (by omega);(first|cases AF|(injection AF with ea_ en_ ec_;(first|subst ea_|(injection ea_ with ea_;subst ea_));subst ec_;clear en_));have B8:=aK AG;have DM:=aK BX;clear AG D3 BX;have D4:=aK (show(Z X∨w.heap.size≤X)from(U.out.1 _ rfl));obtain⟨DN,BY,BZ,Ap,Aq⟩:=Kd.R_elem U.o z135 (D:Int) AN AO;obtain rfl:=k135_openM BZ;have B_:wr.cell? ⟨X,(D:Int).toNat*4,none⟩=some (.int .i64 ((rd_T135 J D).f0)):=Ap 0 _ rfl;have BA:wr.cell? ⟨X,(D:Int).toNat*4+1,none⟩=some (.string ((rd_T135 J D).f1)):=Ap 1 _ rfl;have Cd:wr.cell? ⟨X,(D:Int).toNat*4+2,none⟩=some (.string ((rd_T135 J D).f2)):=Ap 2 _ rfl;have Dw:wr.cell? ⟨X,(D:Int).toNat*4+3,none⟩=some (.int .i64 ((rd_T135 J D).f3)):=Ap 3 _ rfl;have D5:wr.frozen? ⟨X,(D:Int).toNat*4,none⟩=false:=Aq 0;have D6:wr.frozen? ⟨X,(D:Int).toNat*4+1,none⟩=false:=Aq 1;have D7:wr.frozen? ⟨X,(D:Int).toNat*4+2,none⟩=false:=Aq 2;have DV:wr.frozen? ⟨X,(D:Int).toNat*4+3,none⟩=false:=Aq 3
     clear BY Ap Aq BZ;replace AN:=eq_true AN;replace AO:=eq_true AO;have Be:=aK (show Kd.R k135 135 wr w0.heap.size (fun k_=>(Z k_∨w.heap.size≤k_)) (.slice (some ⟨X,0,none⟩) J.length A1) J from(rpR U.o));obtain⟨Dt,AV,Bf,At,AW⟩:=Kd.R_elem Be.o z135 (D:Int) (dT am) (by have h_:(D:Int)<((J.length:Int):Int):=dT am;first|exact h_|(have e_:=(Kd.R_reads' U.o).1;omega)|simpa using h_);obtain rfl:=k135_openM Bf;have AX:=Kd.R_seg Be.o (D:Int) (dT am) (by have h_:(D:Int)<((J.length:Int):Int):=dT am;first|exact h_|(have e_:=(Kd.R_reads' U.o).1;omega)|simpa using h_) (seg:=[.int .i64 Y]) (j:=0) AV At (show 1≤4 from by decide) (x':=(⟨Y,(rd_T135 J D).f1,(rd_T135 J D).f2,(rd_T135 J D).f3⟩:S135)) (k135_mkM _ _ _ (⟨Y,(rd_T135 J D).f1,(rd_T135 J D).f2,(rd_T135 J D).f3⟩:S135)) (fun _ hk=>hk);have Av:=At 0 _ rfl;(try simp only[show(k135).sz=4 from rfl,Nat.mul_one,Nat.add_zero]at Av);have Cl:=AW 0;(try simp only[show(k135).sz=4 from rfl,Nat.mul_one,Nat.add_zero]at Cl);clear AV At AW Bf
     go_wp2_with (first|((with_reducible refine gate_store (t:=3) (p:=16) rfl ?_);refine store_event (t:=3) (p:=16) (v:=?vo_w13) (w1:=(wr.setCell ⟨X,(D:Int).toNat*4,none⟩ (.int .i64 Y))) ?hg ?ho ?hn ?hr ?_;(case ho=>rfl);(case hg=>rfl);(case hn=>rfl);(case hr=>first|(go_simp;done)|(go_simp;rfl));intro B5 hw;have hg:wr.grownBy B5 (some X):=(by rw[hw];exact AX.2);have hp_:Kd.R k135 135 B5 w0.heap.size (fun k_=>(Z k_∨w.heap.size≤k_)) (.slice (some ⟨X,0,none⟩) J.length A1) A3:=(by rw[hw,Db.o];exact AX.1);clear AX;replace HB:=aK ((by rw[hw];exact below_set (HB.o) B8.o:Below w0.heap.size w0 B5));replace HK:=aK (Kept.of_grown (S:=(fun k_=>Z k_)) hg (by repeat (first|(with_reducible first|exact HK.o|apply Kept.alloc|apply Kept.drewN|apply Kept.drew)|exact HK.o)) (fun k_ e_=>(U.out.1 k_ e_)));replace U:=aK (hp_);clear hg hw hp_)|((with_reducible refine gC 81 rfl ?_);refine goesW Tryz.func81 ?_;(with_reducible refine(laws_markText.calls k1 (wrap64 (Y+1)) AJ _ A6.o).mono ?_);rintro e A2 ⟨rfl,hb⟩;refine⟨_,rfl,?_⟩;replace U:=rb U hb;replace HK:=aK (Kept.below (S:=(fun k_=>Z k_)) (by repeat (first|(with_reducible first|exact HK.o|apply Kept.alloc|apply Kept.drewN|apply Kept.drew)|exact HK.o)) hb);replace HB:=bs (w:=w0) hb;(try clear hb);have AQ:0≤(D:Int):=dT am;have AR:(D:Int)<((J.length:Int):Int):=dT am;obtain⟨Dl,Ba,Bb,Ah,Ai⟩:=Kd.R_elem U.o z135 (D:Int) AQ AR;obtain rfl:=k135_openM Bb;have BB:A2.cell? ⟨X,(D:Int).toNat*4,none⟩=some (.int .i64 ((rd_T135 A3 D).f0)):=Ah 0 _ rfl;have BC:A2.cell? ⟨X,(D:Int).toNat*4+1,none⟩=some (.string ((rd_T135 A3 D).f1)):=Ah 1 _ rfl;have Ce:A2.cell? ⟨X,(D:Int).toNat*4+2,none⟩=some (.string ((rd_T135 A3 D).f2)):=Ah 2 _ rfl;have Dx:A2.cell? ⟨X,(D:Int).toNat*4+3,none⟩=some (.int .i64 ((rd_T135 A3 D).f3)):=Ah 3 _ rfl;have C0:A2.frozen? ⟨X,(D:Int).toNat*4,none⟩=false:=Ai 0;have C1:A2.frozen? ⟨X,(D:Int).toNat*4+1,none⟩=false:=Ai 1;have D8:A2.frozen? ⟨X,(D:Int).toNat*4+2,none⟩=false:=Ai 2;have DW:A2.frozen? ⟨X,(D:Int).toNat*4+3,none⟩=false:=Ai 3;clear Ba Ah Ai Bb;replace AQ:=eq_true AQ;replace AR:=eq_true AR;have Bc:=aK (show Kd.R k135 135 A2 w0.heap.size (fun k_=>(Z k_∨w.heap.size≤k_)) (.slice (some ⟨X,0,none⟩) J.length A1) A3 from(rpR U.o));obtain⟨Do,AS,Bd,As,AT⟩:=Kd.R_elem Bc.o z135 (D:Int) (dT am) (by have h_:(D:Int)<((J.length:Int):Int):=dT am;first|exact h_|(have e_:=(Kd.R_reads' U.o).1;omega)|simpa using h_);obtain rfl:=k135_openM Bd;have AU:=Kd.R_seg Bc.o (D:Int) (dT am) (by have h_:(D:Int)<((J.length:Int):Int):=dT am;first|exact h_|(have e_:=(Kd.R_reads' U.o).1;omega)|simpa using h_) (seg:=[.string AJ]) (j:=1) AS As (show 2≤4 from by decide) (x':=(⟨(rd_T135 A3 D).f0,AJ,(rd_T135 A3 D).f2,(rd_T135 A3 D).f3⟩:S135)) (k135_mkM _ _ _ (⟨(rd_T135 A3 D).f0,AJ,(rd_T135 A3 D).f2,(rd_T135 A3 D).f3⟩:S135)) (fun _ hk=>hk);have Aw:=As 1 _ rfl;(try simp only[show(k135).sz=4 from rfl,Nat.mul_one,Nat.add_zero]at Aw);have Cm:=AT 1;(try simp only[show(k135).sz=4 from rfl,Nat.mul_one,Nat.add_zero]at Cm);clear AS As AT Bd)|((with_reducible refine gate_store (t:=9) (p:=24) rfl ?_);refine store_event (t:=9) (p:=24) (v:=?vo_w16) (w1:=(A2.setCell ⟨X,(D:Int).toNat*4+1,none⟩ (.string AJ))) ?hg ?ho ?hn ?hr ?_;(case ho=>rfl);(case hg=>rfl);(case hn=>rfl);(case hr=>first|(go_simp;done)|(go_simp;rfl));intro Aj hw;have hg:A2.grownBy Aj (some X):=(by rw[hw];exact AU.2);have hp_:Kd.R k135 135 Aj w0.heap.size (fun k_=>(Z k_∨w.heap.size≤k_)) (.slice (some ⟨X,0,none⟩) J.length A1) Aa:=(by rw[hw,Dc.o];exact AU.1);clear AU;replace HB:=aK ((by rw[hw];exact below_set (HB.o) B8.o:Below w0.heap.size w0 Aj));replace HK:=aK (Kept.of_grown (S:=(fun k_=>Z k_)) hg (by repeat (first|(with_reducible first|exact HK.o|apply Kept.alloc|apply Kept.drewN|apply Kept.drew)|exact HK.o)) (fun k_ e_=>(U.out.1 k_ e_)));replace U:=aK (hp_);clear hg hw hp_)|((with_reducible refine gC 81 rfl ?_);refine goesW Tryz.func81 ?_;(with_reducible refine(laws_markText.calls k1 (wrap64 ((wrap64 (Y+1))+1)) AK _ A8.o).mono ?_);rintro e Ao ⟨rfl,hb⟩;refine⟨_,rfl,?_⟩;replace U:=rb U hb;replace HK:=aK (Kept.below (S:=(fun k_=>Z k_)) (by repeat (first|(with_reducible first|exact HK.o|apply Kept.alloc|apply Kept.drewN|apply Kept.drew)|exact HK.o)) hb);replace HB:=bs (w:=w0) hb;(try clear hb);have Bp:0≤(D:Int):=dT am;have Bq:(D:Int)<((J.length:Int):Int):=dT am;obtain⟨Eh,Du,Dv,Bg,Bh⟩:=Kd.R_elem U.o z135 (D:Int) Bp Bq;obtain rfl:=k135_openM Dv;have Cg:Ao.cell? ⟨X,(D:Int).toNat*4,none⟩=some (.int .i64 ((rd_T135 Aa D).f0)):=Bg 0 _ rfl;have Ch:Ao.cell? ⟨X,(D:Int).toNat*4+1,none⟩=some (.string ((rd_T135 Aa D).f1)):=Bg 1 _ rfl;have Ci:Ao.cell? ⟨X,(D:Int).toNat*4+2,none⟩=some (.string ((rd_T135 Aa D).f2)):=Bg 2 _ rfl;have Dy:Ao.cell? ⟨X,(D:Int).toNat*4+3,none⟩=some (.int .i64 ((rd_T135 Aa D).f3)):=Bg 3 _ rfl;have DX:Ao.frozen? ⟨X,(D:Int).toNat*4,none⟩=false:=Bh 0;have DY:Ao.frozen? ⟨X,(D:Int).toNat*4+1,none⟩=false:=Bh 1;have DZ:Ao.frozen? ⟨X,(D:Int).toNat*4+2,none⟩=false:=Bh 2;have E0:Ao.frozen? ⟨X,(D:Int).toNat*4+3,none⟩=false:=Bh 3;clear Du Bg Bh Dv;replace Bp:=eq_true Bp;replace Bq:=eq_true Bq;have CK:=aK (show Kd.R k135 135 Ao w0.heap.size (fun k_=>(Z k_∨w.heap.size≤k_)) (.slice (some ⟨X,0,none⟩) J.length A1) Aa from(rpR U.o));obtain⟨E9,C7,CL,Bx,C8⟩:=Kd.R_elem CK.o z135 (D:Int) (dT am) (by have h_:(D:Int)<((J.length:Int):Int):=dT am;first|exact h_|(have e_:=(Kd.R_reads' U.o).1;omega)|simpa using h_);obtain rfl:=k135_openM CL;have C9:=Kd.R_seg CK.o (D:Int) (dT am) (by have h_:(D:Int)<((J.length:Int):Int):=dT am;first|exact h_|(have e_:=(Kd.R_reads' U.o).1;omega)|simpa using h_) (seg:=[.string AK]) (j:=2) C7 Bx (show 3≤4 from by decide) (x':=(⟨(rd_T135 Aa D).f0,(rd_T135 Aa D).f1,AK,(rd_T135 Aa D).f3⟩:S135)) (k135_mkM _ _ _ (⟨(rd_T135 Aa D).f0,(rd_T135 Aa D).f1,AK,(rd_T135 Aa D).f3⟩:S135)) (fun _ hk=>hk);have AZ:=Bx 2 _ rfl;(try simp only[show(k135).sz=4 from rfl,Nat.mul_one,Nat.add_zero]at AZ);have Cn:=C8 2;(try simp only[show(k135).sz=4 from rfl,Nat.mul_one,Nat.add_zero]at Cn);clear C7 Bx C8 CL)|((with_reducible refine gate_store (t:=9) (p:=32) rfl ?_);refine store_event (t:=9) (p:=32) (v:=?vo_w19) (w1:=(Ao.setCell ⟨X,(D:Int).toNat*4+2,none⟩ (.string AK))) ?hg ?ho ?hn ?hr ?_;(case ho=>rfl);(case hg=>rfl);(case hn=>rfl);(case hr=>first|(go_simp;done)|(go_simp;rfl));intro Ax hw;have hg:Ao.grownBy Ax (some X):=(by rw[hw];exact C9.2);have hp_:Kd.R k135 135 Ax w0.heap.size (fun k_=>(Z k_∨w.heap.size≤k_)) (.slice (some ⟨X,0,none⟩) J.length A1) Ab:=(by rw[hw,Dd.o];exact C9.1);clear C9;replace HB:=aK ((by rw[hw];exact below_set (HB.o) B8.o:Below w0.heap.size w0 Ax));replace HK:=aK (Kept.of_grown (S:=(fun k_=>Z k_)) hg (by repeat (first|(with_reducible first|exact HK.o|apply Kept.alloc|apply Kept.drewN|apply Kept.drew)|exact HK.o)) (fun k_ e_=>(U.out.1 k_ e_)));replace U:=aK (hp_);clear hg hw hp_;have Df:0≤(D:Int):=dT am;have Dg:(D:Int)<((J.length:Int):Int):=dT am;obtain⟨CF,Ar,AH,Ad,Ag⟩:=Kd.R_elem U.o z135 (D:Int) Df Dg;obtain rfl:=k135_openM AH;have Dz:Ax.cell? ⟨X,(D:Int).toNat*4,none⟩=some (.int .i64 ((rd_T135 Ab D).f0)):=Ad 0 _ rfl;have D_:Ax.cell? ⟨X,(D:Int).toNat*4+1,none⟩=some (.string ((rd_T135 Ab D).f1)):=Ad 1 _ rfl;have DA:Ax.cell? ⟨X,(D:Int).toNat*4+2,none⟩=some (.string ((rd_T135 Ab D).f2)):=Ad 2 _ rfl;have DB:Ax.cell? ⟨X,(D:Int).toNat*4+3,none⟩=some (.int .i64 ((rd_T135 Ab D).f3)):=Ad 3 _ rfl;have AL:Ax.frozen? ⟨X,(D:Int).toNat*4,none⟩=false:=Ag 0;have DC:Ax.frozen? ⟨X,(D:Int).toNat*4+1,none⟩=false:=Ag 1;have DD:Ax.frozen? ⟨X,(D:Int).toNat*4+2,none⟩=false:=Ag 2;have DE:Ax.frozen? ⟨X,(D:Int).toNat*4+3,none⟩=false:=Ag 3;clear Ar Ad Ag AH;replace Df:=eq_true Df;replace Dg:=eq_true Dg;have CM:=aK (show Kd.R k135 135 Ax w0.heap.size (fun k_=>(Z k_∨w.heap.size≤k_)) (.slice (some ⟨X,0,none⟩) J.length A1) Ab from(rpR U.o));obtain⟨Ea,Ca,CN,By,Cb⟩:=Kd.R_elem CM.o z135 (D:Int) (dT am) (by have h_:(D:Int)<((J.length:Int):Int):=dT am;first|exact h_|(have e_:=(Kd.R_reads' U.o).1;omega)|simpa using h_);obtain rfl:=k135_openM CN;have Cc:=Kd.R_seg CM.o (D:Int) (dT am) (by have h_:(D:Int)<((J.length:Int):Int):=dT am;first|exact h_|(have e_:=(Kd.R_reads' U.o).1;omega)|simpa using h_) (seg:=[.int .i64 (wrap64 ((wrap64 ((wrap64 (Y+1))+1))+1))]) (j:=3) Ca By (show 4≤4 from by decide) (x':=(⟨(rd_T135 Ab D).f0,(rd_T135 Ab D).f1,(rd_T135 Ab D).f2,wrap64 ((wrap64 ((wrap64 (Y+1))+1))+1)⟩:S135)) (k135_mkM _ _ _ (⟨(rd_T135 Ab D).f0,(rd_T135 Ab D).f1,(rd_T135 Ab D).f2,wrap64 ((wrap64 ((wrap64 (Y+1))+1))+1)⟩:S135)) (fun _ hk=>hk);have Co:=By 3 _ rfl;(try simp only[show(k135).sz=4 from rfl,Nat.mul_one,Nat.add_zero]at Co);have Cp:=Cb 3;(try simp only[show(k135).sz=4 from rfl,Nat.mul_one,Nat.add_zero]at Cp);clear Ca By Cb CN)|((with_reducible refine gate_store (t:=3) (p:=39) rfl ?_);refine store_event (t:=3) (p:=39) (v:=?vo_w21) (w1:=(Ax.setCell ⟨X,(D:Int).toNat*4+3,none⟩ (.int .i64 (wrap64 ((wrap64 ((wrap64 (Y+1))+1))+1))))) ?hg ?ho ?hn ?hr ?_;(case ho=>rfl);(case hg=>rfl);(case hn=>rfl);(case hr=>first|(go_simp;done)|(go_simp;rfl));intro Dh hw;have hg:Ax.grownBy Dh (some X):=(by rw[hw];exact Cc.2);have hp_:Kd.R k135 135 Dh w0.heap.size (fun k_=>(Z k_∨w.heap.size≤k_)) (.slice (some ⟨X,0,none⟩) J.length A1) CJ:=(by rw[hw,De.o];exact Cc.1);clear Cc;replace HB:=aK ((by rw[hw];exact below_set (HB.o) B8.o:Below w0.heap.size w0 Dh));replace HK:=aK (Kept.of_grown (S:=(fun k_=>Z k_)) hg (by repeat (first|(with_reducible first|exact HK.o|apply Kept.alloc|apply Kept.drewN|apply Kept.drew)|exact HK.o)) (fun k_ e_=>(U.out.1 k_ e_)));replace U:=aK (hp_);clear hg hw hp_))
     go_roundg k1
     case measure=>have:=AM.o;omega
     case rel=>exact⟨(CJ),(wrap64 ((wrap64 ((wrap64 ((wrap64 (Y+1))+1))+1))+1)),(wrap64 (D+1)),fa,fa,H',⟨by have:=AM.o;omega⟩,⟨rpR U.o⟩,⟨by repeat (first|(with_reducible first|exact HK.o|apply Kept.alloc|apply Kept.drewN|apply Kept.drew)|exact HK.o)⟩,⟨bl⟩⟩
    ·rw[if_neg c4]at H;exact absurd H (by simp)
   ·rw[if_neg c3]at H;have Au:=df c3;clear c3;simp only[Option.some.injEq,Prod.mk.injEq]at H;obtain⟨rfl,rfl⟩:=H;obtain⟨B7,A1,Am⟩:=rs U;subst Am;go_wp2
    go_ret
    exact⟨fe,rpR U.o,bl,by repeat (first|(with_reducible first|exact HK.o|apply Kept.alloc|apply Kept.drewN|apply Kept.drew)|exact HK.o)⟩
def impl_Link_125.f (l0:List (S133)):Option ((List (S133))):=if l0.length<5864062014805 then some l0 else none
theorem impl_Link_125.calls (X:Option Addr) (c0:Nat) (l0:List (S133)) (r:List (S133)) (w:World) (D:Kd.C k133 w X l0.length l0) (J:l0.length≤c0) (h:impl_Link_125.f l0=some r) :
 Calls Tryz.prog 125 #[.slice X l0.length c0] w fun e w'=>∃U:Value,e = .returned (U)∧Kd.R k133 133 w' w.heap.size (fun _=>True) U r∧Below w.heap.size w w':=by
 have Y:l0.length<5864062014805:=by
  by_cases c:l0.length<5864062014805
  ·exact c
  ·simp[impl_Link_125.f,c]at h
 obtain rfl:l0=r:=by simpa [impl_Link_125.f,Y] using h
 have LMc:=aK Y;clear Y h;have HB:=aK (Below.refl w.heap.size w);cases X with
 |none=>
  have hl:l0 = []:=by
   rcases Nat.eq_zero_or_pos l0.length with g|g
   ·exact List.length_eq_zero_iff.1 g
   ·obtain⟨ad,e,_⟩:=D.2.2 g;cases e
  subst hl;clear D J;have hq:=fun(w:World) (n c:Nat)=>Lib.run_eql_slice_nil (P:=Tryz.prog) w 32 133 none n c 0 0 Tryz.underlying32
  simp only[Option.isNone_none]at hq
  go_enter Tryz.func125,Tryz.ntmps125
  go_wp2
  go_ret
  exact⟨_,rfl,Kd.R_nil _ _ _ _ _,bl⟩
 |some ad=>
  have Z:=aK D;clear D J;have hq:=fun(w:World) (n c:Nat)=>Lib.run_eql_slice_nil (P:=Tryz.prog) w 32 133 (some ad) n c 0 0 Tryz.underlying32
  simp only[Option.isNone_some]at hq
  go_enter Tryz.func125,Tryz.ntmps125
  go_wp2_with (first|((with_reducible refine gD 5 rfl ?_);refine Kd.R_lit k133 _ 133 ?hg (N:=5) ?hd (xs:=([]:List (S133))) (inner:=[]) (ok:=fun _=>True) (okp:=fun _=>True) ?hr ?hp (fun _ hk=>hk) trivial (Below.refl _ _) (Nat.le_refl _) (by simp) ?_;(case hd=>rfl);(case hg=>rfl);(case hr=>first|(go_simp;done)|(go_simp;rfl));(case hp=>exact(Reps.none _ _));intro v1 w1 ho hb hg_ hnew_;clear hg_ hnew_;have HO:=rl HB ho;replace HB:=bS HB hb;clear hb ho)|((with_reducible refine gate_builtin (b:=.append) (xs:=#[.tmp 5,.tmp 6]) rfl ?_);at_builtin;refine Kd.R_append_rows k133 (w0:=w) w.heap.size rfl (.tmp 5) (.tmp 6) 32 133 (.agg #[(.string ⟨#[]⟩),(.int .i64 0)]) 24 rfl Tryz.underlying32 info133 rfl (by decide) (by omega) v1 [] l0 _ _ _ (fun _=>True) (fun _=>False) rfl rfl ?aO ?aR (fun _ _ h=>h) (fun _ h=>h.elim) ?aF ?aB ?aS ?aL ?_;(case aR=>exact(Kd.C_below Z.o bl));(case aB=>exact bl);(case aF=>exact(fun _ _=>trivial));(case aO=>exact HO.o);(case aS=>exact(below_size bl));(case aL=>have:=LMc.o;simp;omega);intro v2 w2 ho hb hg hat;clear HO HB hg hat;have HO:=aK ho;have HB:=aK hb;clear ho hb;obtain⟨Ao,co,eo⟩:=rs HO;subst eo))
  go_ret
  exact⟨_,rfl,HO.o,bl⟩
def slices_Index_int_int.l0:Nat→List Int→Int→Int→Int→Option (Int)
 | 0,_,_,_,_=>none
 |k+1,x0,x1,x7,x8=>if x8<x7 then(if 0≤x8 then(if x8<(x0.length:Int)then(if x1=(rd x0 x8)then(some x8)else(slices_Index_int_int.l0 k x0 x1 x7 (wrap64 (x8+1))))else(none))else(none))else(some (-1))
def slices_Index_int_int.f (k:Nat) (l0:List Int) (J:Int):Option (Int):=slices_Index_int_int.l0 k l0 J (l0.length:Int) 0
theorem slices_Index_int_int.calls (k:Nat) (A0:Option Addr) (c0:Nat) (l0:List Int) (J:Int) (r:Int) (w:World) (U:Kd.C (Kd.int .i64) w A0 l0.length l0) (X:l0.length≤c0) (h:slices_Index_int_int.f k l0 J=some r) :
 Calls Tryz.prog 169 #[.slice A0 l0.length c0,.int .i64 J] w fun e w'=>e = .returned (.int .i64 r)∧Drawn0 w w':=by
 have A5:=aK U;have A6:=aK X;clear U X;have H:=h;unfold slices_Index_int_int.f at H;clear h;have H':=aK H;clear H
 go_enter Tryz.func169,Tryz.ntmps169
 go_wp2
 go_loopg [8] k (fun kq v8 w'=>∃(D:Int),v8 = .int .i64 D∧Aside0 (slices_Index_int_int.l0 kq l0 J (l0.length:Int) D=some r)∧Aside0 (kq≤k)∧Drawn0 w w')
 case atStart=>exact⟨(0),fa,H',⟨Nat.le_refl _⟩,fd⟩
 case round=>
  clear H';(try clear c1);(try clear p2);obtain⟨D,rfl,HA,A7,⟨m1,rfl⟩⟩:=hrel;cases gk with
  |zero=>exact absurd HA.o (by simp[slices_Index_int_int.l0])
  |succ k1=>
   have H:=HA.o;clear HA;simp only[slices_Index_int_int.l0]at H;by_cases c3:D<(l0.length:Int)
   ·rw[if_pos c3]at H;have A8:=dt c3;clear c3;by_cases c4:0≤D
    ·rw[if_pos c4]at H;have Ac:=dt c4;clear c4;by_cases c5:D<(l0.length:Int)
     ·rw[if_pos c5]at H;have Ad:=dt c5;clear c5;have Hq_:=aK H;clear H;have Y:0≤(D:Int):=dT am;have Z:D<(l0.length:Int):=dT am;obtain⟨Ab,A9,Aa⟩:=Kd.at_int A5.o D Y Z;cases A9;replace Y:=eq_true Y;replace Z:=eq_true Z;have H:=Hq_.o;clear Hq_;by_cases c6:J=(rd l0 D)
      ·rw[if_pos c6]at H;have A1:=bT c6;(try rw[A1]);have A2:=bE c6;(try rw[A2]);clear c6;obtain rfl:=oj H;go_wp2
       go_ret
       exact⟨fa,fd⟩
      ·rw[if_neg c6]at H;have A1:=bN c6;(try rw[A1]);have A2:=bQ c6;(try rw[A2]);have H':=aK H;clear H;go_wp2
       go_roundg k1
       case measure=>have:=A7.o;omega
       case rel=>exact⟨(wrap64 (D+1)),fa,H',⟨by have:=A7.o;omega⟩,fd⟩
     ·rw[if_neg c5]at H;exact absurd H (by simp)
    ·rw[if_neg c4]at H;exact absurd H (by simp)
   ·rw[if_neg c3]at H;have A8:=df c3;clear c3;obtain rfl:=oj H;go_wp2
    go_ret
    exact⟨fa,fd⟩
def slices_Contains_int_int.f (k:Nat) (l0:List Int) (J:Int):Option (Bool):=(slices_Index_int_int.f k l0 J).bind fun A4=>(some (decide (A4≥0)))
theorem slices_Contains_int_int.calls (k:Nat) (A0:Option Addr) (c0:Nat) (l0:List Int) (J:Int) (r:Bool) (w:World) (U:Kd.C (Kd.int .i64) w A0 l0.length l0) (X:l0.length≤c0) (h:slices_Contains_int_int.f k l0 J=some r) :
 Calls Tryz.prog 122 #[.slice A0 l0.length c0,.int .i64 J] w fun e w'=>e = .returned (.bool r)∧Drawn0 w w':=by
 have A5:=aK U;have A6:=aK X;clear U X;have H:=h;unfold slices_Contains_int_int.f at H;clear h;obtain⟨A4,A3,H⟩:=bd H;obtain rfl:=oj H
 go_enter Tryz.func122,Tryz.ntmps122
 go_wp2_with (first|((with_reducible refine gC 169 rfl ?_);refine goesW Tryz.func169 ?_;(with_reducible refine(slices_Index_int_int.calls k _ _ l0 J A4 _ ?_ ?_ A3.o).mono ?_);exact ca A5.o;exact A6.o;rintro e w' ⟨rfl,⟨nd,rfl⟩⟩;refine⟨_,rfl,?_⟩))
 go_ret
 exact⟨fa,fd⟩
end Go.Proofs.YtndbmllnkjngnaaGreat.PDs
