/- Functions of the program, each with its contract, written by a program out of the translation. -/
import Derived.Test.YtndbmllnkjngnaaGreatPDsx0
import Derived.Test.YtndbmllnkjngnaaGreatZip
namespace Go.Proofs.YtndbmllnkjngnaaGreat.PDs
open Go.RowKit Go.Proofs.YtndbmllnkjngnaaGreatW.PrintWords Go.Proofs.YtndbmllnkjngnaaGreatW.PrintLast Go.Proofs.YtndbmllnkjngnaaGreatW.PrintMore Go.Proofs.YtndbmllnkjngnaaGreat.Zip
attribute [local go_sem] max2_int min2_int max_two min_two max_three min_three max_four min_four
set_option linter.unusedVariables false
set_option linter.unusedSimpArgs false
set_option maxHeartbeats 8000000
set_option maxRecDepth 100000
def laws_eqInode.f (J:Int) (U:ByteArray) (Z:Int) (X:Int) (Y:ByteArray) (A2:Int):Option (Bool):=if J=X then(if U.toList=Y.toList then(if Z=A2 then(some true)else(some false))else(some false))else(some false)
theorem laws_eqInode.z1 {p:Prop} (h:p:=by
 go_enter Tryz.func127,Tryz.ntmps127
 go_wp2_with (first|((with_reducible refine gd 2 ?_);refine boxQ HB ?_;clear HB;intro BH hg Bv Ar BI HB hb;clear hb hg)|((with_reducible refine gd 3 ?_);refine boxQ HB ?_;clear HB;intro BJ hg Bw Bj BK HB hb;have Bk:=nL Ar hg;have Bl:=nR Ar hg;replace Ar:=bv Ar hb;clear hb hg;have:=cf3 Ar;have:=cf3 Bj))
 go_ret
 exact⟨fe,bl⟩):p:=h
theorem laws_eqInode.calls (J:Int) (U:ByteArray) (Z:Int) (X:Int) (Y:ByteArray) (A2:Int) (r:Bool) (w:World) (h:laws_eqInode.f J U Z X Y A2=some r) :
 Calls Tryz.prog 127 #[.agg #[.int .i64 J,.string U,.int .i64 Z],.agg #[.int .i64 X,.string Y,.int .i64 A2]] w fun e w'=>e = .returned (.bool r)∧Below w.heap.size w w':=by
 have Bm:=Tryz.underlying130;have HB:=aK (Below.refl w.heap.size w);have H:=h;unfold laws_eqInode.f at H;clear h;by_cases c3:J=X
 ·rw[if_pos c3]at H;have A3:=bT c3;have A4:=bE c3;clear c3;by_cases c4:U.toList=Y.toList
  ·rw[if_pos c4]at H;have A5:=bT c4;have Ay:=bE c4;clear c4;by_cases c5:Z=A2
   ·rw[if_pos c5]at H;have Ax:=bT c5;have B0:=bE c5;clear c5;obtain rfl:=oj H
    exact laws_eqInode.z1
   ·rw[if_neg c5]at H;have Ax:=bN c5;have B0:=bQ c5;obtain rfl:=oj H
    exact laws_eqInode.z1
  ·rw[if_neg c4]at H;have A5:=bN c4;have Ay:=bQ c4;obtain rfl:=oj H
   exact laws_eqInode.z1
 ·rw[if_neg c3]at H;have A3:=bN c3;have A4:=bQ c3;obtain rfl:=oj H
  exact laws_eqInode.z1
def laws_eqInodeS.l0:Nat→List (S130)→List (S130)→Int→Option (Bool)
 | 0,_,_,_=>none
 |k+1,x0,x1,x5=>if x5<(x0.length:Int)then(if 0≤x5 then(if x5<(x1.length:Int)then((laws_eqInode.f ((rd_T130 x0 x5).f0) ((rd_T130 x0 x5).f1) ((rd_T130 x0 x5).f2) ((rd_T130 x1 x5).f0) ((rd_T130 x1 x5).f1) ((rd_T130 x1 x5).f2)).bind fun B1=>(if B1=true then(laws_eqInodeS.l0 k x0 x1 (wrap64 (x5+1)))else(some false)))else(none))else(none))else(some true)
def laws_eqInodeS.f (k:Nat) (l0:List (S130)) (l1:List (S130)):Option (Bool):=if(l0.length:Int)=(l1.length:Int)then(laws_eqInodeS.l0 k l0 l1 0)else(some false)
def laws_eqInodeS.T6:Bool×List (List Nat×List Nat):=(true,[([],[]),([],[]),([0,1],[0,1]),([2],[2]),([],[]),([],[]),([4,5],[4,5]),([6],[6]),([3,7],[3,7]),([8],[8])])
def laws_eqInodeS.B6:List Nat:=[0,0,3,7,0,0,48,112,255,511]
theorem laws_eqInodeS.tab6:rtab .any (opsOf Tryz.f61 6)=laws_eqInodeS.T6:=by kernel_rfl
theorem laws_eqInodeS.bits6:waitsOk laws_eqInodeS.T6.2 laws_eqInodeS.B6=true:=by kernel_rfl
theorem laws_eqInodeS.calls (k:Nat) (A0:Option Addr) (c0:Nat) (l0:List (S130)) (A1:Option Addr) (c1:Nat) (l1:List (S130)) (r:Bool) (w:World) (Az:Kd.C k130 w A0 l0.length l0) (A_:l0.length≤c0) (AA:Kd.C k130 w A1 l1.length l1) (AB:l1.length≤c1) (h:laws_eqInodeS.f k l0 l1=some r) :
 Calls Tryz.prog 61 #[.slice A0 l0.length c0,.slice A1 l1.length c1] w fun e w'=>e = .returned (.bool r)∧Below w.heap.size w w':=by
 have Bm:=Tryz.underlying130;have B2:=aK Az;have Bx:=aK A_;clear Az A_;have B3:=aK AA;have By:=aK AB;clear AA AB;have HB:=aK (Below.refl w.heap.size w);have H:=h;unfold laws_eqInodeS.f at H;clear h;by_cases c3:(l0.length:Int)=(l1.length:Int)
 ·rw[if_pos c3]at H;have A3:=bT c3;have A4:=bE c3;have AC:(l0.length==l1.length)=true:=by first|simpa using c3|(simp at c3 ⊢;omega)
  clear c3;have H':=aK H;clear H
  go_enter Tryz.func61,Tryz.ntmps61
  go_wp2
  go_loopg [5] k (fun kq v5 w'=>∃(D:Int),v5 = .int .i64 D∧Aside0 (laws_eqInodeS.l0 kq l0 l1 D=some r)∧Aside0 (kq≤k)∧Aside0 (Below w.heap.size w w'))
  case atStart=>exact⟨(0),fa,H',⟨Nat.le_refl _⟩,⟨bl⟩⟩
  case round=>
   clear H';obtain⟨D,rfl,HA,AD,HB⟩:=hrel;cases gk with
   |zero=>exact absurd HA.o (by simp[laws_eqInodeS.l0])
   |succ k1=>
    have H:=HA.o;clear HA;simp only[laws_eqInodeS.l0]at H;by_cases c4:D<(l0.length:Int)
    ·rw[if_pos c4]at H;have A5:=dt c4;clear c4;by_cases c5:0≤D
     ·rw[if_pos c5]at H;have Ax:=dt c5;clear c5;have Hq_:=aK H;clear H;(try go_wp2);replace HB:=dW HB;have B4:0≤(D:Int):=dT am;have B5:D<(l0.length:Int):=dT am;obtain⟨As,Bz,A9,Aa,Ab⟩:=at_T130 B2.o D B4 B5;have AE:=Ab;have AF:=Aa;have AG:=A9;cases Bz;replace A9:=cz HB A9;replace Aa:=cz HB Aa;replace Ab:=cz HB Ab;replace B4:=eq_true B4;replace B5:=eq_true B5;have B7:0≤(D:Int):=dT am;have H:=Hq_.o;clear Hq_;by_cases c6:D<(l1.length:Int)
      ·rw[if_pos c6]at H;have At:=dt c6;(try rw[At]);clear c6;obtain⟨B1,A7,H⟩:=bd H;have Hq_:=aK H;clear H;have B8:D<(l1.length:Int):=dT am;obtain⟨Au,B_,Ac,Ad,Ae⟩:=at_T130 B3.o D B7 B8;have AH:=Ae;have AI:=Ad;have AJ:=Ac;cases B_;replace Ac:=cz HB Ac;replace Ad:=cz HB Ad;replace Ae:=cz HB Ae;replace B7:=eq_true B7;replace B8:=eq_true B8;refine start_ (n:=10) (S:=fun w'=>w'.cell? (As.add ((D).toNat*3))=some (.int .i64 ((rd_T130 l0 D).f0))∧w'.cell? ⟨(As.add ((D).toNat*3)).block,(As.add ((D).toNat*3)).off+1,none⟩=some (.string ((rd_T130 l0 D).f1))∧w'.cell? ⟨(As.add ((D).toNat*3)).block,(As.add ((D).toNat*3)).off+2,none⟩=some (.int .i64 ((rd_T130 l0 D).f2))∧w'.cell? (Au.add ((D).toNat*3))=some (.int .i64 ((rd_T130 l1 D).f0))∧w'.cell? ⟨(Au.add ((D).toNat*3)).block,(Au.add ((D).toNat*3)).off+1,none⟩=some (.string ((rd_T130 l1 D).f1))∧w'.cell? ⟨(Au.add ((D).toNat*3)).block,(Au.add ((D).toNat*3)).off+2,none⟩=some (.int .i64 ((rd_T130 l1 D).f2))) (ds:=[]) (bo 10 0) (by kernel_rfl) rfl rfl ⟨(cy HB AG),(cy HB AF),(cy HB AE),(cy HB AJ),(cy HB AI),(cy HB AH)⟩ (fun hHeld=>?_)
       refine with_tabW laws_eqInodeS.tab6 laws_eqInodeS.bits6 (fun HT_ HW_=>?_);generalize wr.drew=BA at HB A9 Aa Ab Ac Ad Ae hHeld ⊢;refine pv 0 ?_;refine pv 1 ?_;refine pv 2 ?_;refine pv 4 ?_;refine pv 5 ?_;refine pv 6 ?_;refine tv 3 ?_;refine tv 7 ?_;refine oo 8 (fun K hK=>?_);refine goesV Tryz.func127 ?_;(with_reducible refine mo (laws_eqInode.calls ((rd_T130 l0 D).f0) ((rd_T130 l0 D).f1) ((rd_T130 l0 D).f2) ((rd_T130 l1 D).f0) ((rd_T130 l1 D).f1) ((rd_T130 l1 D).f2) _ _ A7.o) ?_);intro BB hb;replace HB:=bS HB hb;refine hK.out _ _ ⟨(cy HB AG),(cy HB AF),(cy HB AE),(cy HB AJ),(cy HB AI),(cy HB AH)⟩ (fun hHeld=>?_);clear hK K;refine nm 25 ?_;refine pv 9 ?_;have H:=Hq_.o;clear Hq_;by_cases c8:B1=true
       ·subst c8;replace H:=iT H;have H':=aK H;clear H;refine done_ (done_of HT_.o (by kernel_rfl)) ?_;(try go_wp2)
        go_roundg k1
        case measure=>have:=AD.o;omega
        case rel=>exact⟨(wrap64 (D+1)),fa,H',⟨by have:=AD.o;omega⟩,⟨bl⟩⟩
       ·replace c8:=bF c8;subst c8;replace H:=iF H;obtain rfl:=oj H;refine done_ (done_of HT_.o (by kernel_rfl)) ?_;(try go_wp2)
        go_ret
        exact⟨fe,bl⟩
      ·exact no c6 H
     ·exact no c5 H
    ·rw[if_neg c4]at H;have A5:=df c4;clear c4;obtain rfl:=oj H;go_wp2
     go_ret
     exact⟨fe,bl⟩
 ·rw[if_neg c3]at H;have A3:=bN c3;have A4:=bQ c3;have AC:(l0.length==l1.length)=false:=by first|simpa using c3|(simp at c3 ⊢;omega)
  obtain rfl:=oj H
  go_enter Tryz.func61,Tryz.ntmps61
  go_wp2
  go_ret
  exact⟨fe,bl⟩
def laws_eqLink.f (J:ByteArray) (U:Int) (X:ByteArray) (Y:Int):Option (Bool):=if J.toList=X.toList then(if U=Y then(some true)else(some false))else(some false)
theorem laws_eqLink.z1 {p:Prop} (h:p:=by
 go_enter Tryz.func128,Tryz.ntmps128
 go_wp2_with (first|((with_reducible refine gd 2 ?_);refine boxQ HB ?_;clear HB;intro BL hg Bv Av BM HB hb;clear hb hg)|((with_reducible refine gd 3 ?_);refine boxQ HB ?_;clear HB;intro BN hg Bw Bn BO HB hb;have Bo:=nL Av hg;have Bp:=nR Av hg;replace Av:=bv Av hb;clear hb hg;have:=cf2 Av;have:=cf2 Bn))
 go_ret
 exact⟨fe,bl⟩):p:=h
theorem laws_eqLink.calls (J:ByteArray) (U:Int) (X:ByteArray) (Y:Int) (r:Bool) (w:World) (h:laws_eqLink.f J U X Y=some r) :
 Calls Tryz.prog 128 #[.agg #[.string J,.int .i64 U],.agg #[.string X,.int .i64 Y]] w fun e w'=>e = .returned (.bool r)∧Below w.heap.size w w':=by
 have Bq:=Tryz.underlying133;have HB:=aK (Below.refl w.heap.size w);have H:=h;unfold laws_eqLink.f at H;clear h;by_cases c3:J.toList=X.toList
 ·rw[if_pos c3]at H;have A3:=bT c3;have A4:=bE c3;clear c3;by_cases c4:U=Y
  ·rw[if_pos c4]at H;have A5:=bT c4;have Ay:=bE c4;clear c4;obtain rfl:=oj H
   exact laws_eqLink.z1
  ·rw[if_neg c4]at H;have A5:=bN c4;have Ay:=bQ c4;obtain rfl:=oj H
   exact laws_eqLink.z1
 ·rw[if_neg c3]at H;have A3:=bN c3;have A4:=bQ c3;obtain rfl:=oj H
  exact laws_eqLink.z1
def laws_eqLinkS.l0:Nat→List (S133)→List (S133)→Int→Option (Bool)
 | 0,_,_,_=>none
 |k+1,x0,x1,x5=>if x5<(x0.length:Int)then(if 0≤x5 then(if x5<(x1.length:Int)then((laws_eqLink.f ((rd_T133 x0 x5).f0) ((rd_T133 x0 x5).f1) ((rd_T133 x1 x5).f0) ((rd_T133 x1 x5).f1)).bind fun B9=>(if B9=true then(laws_eqLinkS.l0 k x0 x1 (wrap64 (x5+1)))else(some false)))else(none))else(none))else(some true)
def laws_eqLinkS.f (k:Nat) (l0:List (S133)) (l1:List (S133)):Option (Bool):=if(l0.length:Int)=(l1.length:Int)then(laws_eqLinkS.l0 k l0 l1 0)else(some false)
def laws_eqLinkS.T6:Bool×List (List Nat×List Nat):=(true,[([],[]),([],[]),([0,1],[0,1]),([2],[2]),([],[]),([],[]),([4,5],[4,5]),([6],[6]),([3,7],[3,7]),([8],[8])])
def laws_eqLinkS.B6:List Nat:=[0,0,3,7,0,0,48,112,255,511]
theorem laws_eqLinkS.tab6:rtab .any (opsOf Tryz.f62 6)=laws_eqLinkS.T6:=by kernel_rfl
theorem laws_eqLinkS.bits6:waitsOk laws_eqLinkS.T6.2 laws_eqLinkS.B6=true:=by kernel_rfl
theorem laws_eqLinkS.calls (k:Nat) (A0:Option Addr) (c0:Nat) (l0:List (S133)) (A1:Option Addr) (c1:Nat) (l1:List (S133)) (r:Bool) (w:World) (Az:Kd.C k133 w A0 l0.length l0) (A_:l0.length≤c0) (AA:Kd.C k133 w A1 l1.length l1) (AB:l1.length≤c1) (h:laws_eqLinkS.f k l0 l1=some r) :
 Calls Tryz.prog 62 #[.slice A0 l0.length c0,.slice A1 l1.length c1] w fun e w'=>e = .returned (.bool r)∧Below w.heap.size w w':=by
 have Bq:=Tryz.underlying133;have B2:=aK Az;have Bx:=aK A_;clear Az A_;have B3:=aK AA;have By:=aK AB;clear AA AB;have HB:=aK (Below.refl w.heap.size w);have H:=h;unfold laws_eqLinkS.f at H;clear h;by_cases c3:(l0.length:Int)=(l1.length:Int)
 ·rw[if_pos c3]at H;have A3:=bT c3;have A4:=bE c3;have AC:(l0.length==l1.length)=true:=by first|simpa using c3|(simp at c3 ⊢;omega)
  clear c3;have H':=aK H;clear H
  go_enter Tryz.func62,Tryz.ntmps62
  go_wp2
  go_loopg [5] k (fun kq v5 w'=>∃(D:Int),v5 = .int .i64 D∧Aside0 (laws_eqLinkS.l0 kq l0 l1 D=some r)∧Aside0 (kq≤k)∧Aside0 (Below w.heap.size w w'))
  case atStart=>exact⟨(0),fa,H',⟨Nat.le_refl _⟩,⟨bl⟩⟩
  case round=>
   clear H';obtain⟨D,rfl,HA,AD,HB⟩:=hrel;cases gk with
   |zero=>exact absurd HA.o (by simp[laws_eqLinkS.l0])
   |succ k1=>
    have H:=HA.o;clear HA;simp only[laws_eqLinkS.l0]at H;by_cases c4:D<(l0.length:Int)
    ·rw[if_pos c4]at H;have A5:=dt c4;clear c4;by_cases c5:0≤D
     ·rw[if_pos c5]at H;have Ax:=dt c5;clear c5;have Hq_:=aK H;clear H;(try go_wp2);replace HB:=dW HB;have Ba:0≤(D:Int):=dT am;have Bb:D<(l0.length:Int):=dT am;obtain⟨AY,BC,Af,Ag⟩:=at_T133 B2.o D Ba Bb;have AK:=Ag;have AL:=Af;cases BC;replace Af:=cz HB Af;replace Ag:=cz HB Ag;replace Ba:=eq_true Ba;replace Bb:=eq_true Bb;have Bc:0≤(D:Int):=dT am;have H:=Hq_.o;clear Hq_;by_cases c6:D<(l1.length:Int)
      ·rw[if_pos c6]at H;have At:=dt c6;(try rw[At]);clear c6;obtain⟨B9,A7,H⟩:=bd H;have Hq_:=aK H;clear H;have Bd:D<(l1.length:Int):=dT am;obtain⟨AZ,BD,Ah,Ai⟩:=at_T133 B3.o D Bc Bd;have AM:=Ai;have AN:=Ah;cases BD;replace Ah:=cz HB Ah;replace Ai:=cz HB Ai;replace Bc:=eq_true Bc;replace Bd:=eq_true Bd;refine start_ (n:=10) (S:=fun w'=>w'.cell? (AY.add ((D).toNat*2))=some (.string ((rd_T133 l0 D).f0))∧w'.cell? ⟨(AY.add ((D).toNat*2)).block,(AY.add ((D).toNat*2)).off+1,none⟩=some (.int .i64 ((rd_T133 l0 D).f1))∧w'.cell? (AZ.add ((D).toNat*2))=some (.string ((rd_T133 l1 D).f0))∧w'.cell? ⟨(AZ.add ((D).toNat*2)).block,(AZ.add ((D).toNat*2)).off+1,none⟩=some (.int .i64 ((rd_T133 l1 D).f1))) (ds:=[]) (bo 10 0) (by kernel_rfl) rfl rfl ⟨(cy HB AL),(cy HB AK),(cy HB AN),(cy HB AM)⟩ (fun hHeld=>?_);refine with_tabW laws_eqLinkS.tab6 laws_eqLinkS.bits6 (fun HT_ HW_=>?_);generalize wr.drew=BA at HB Af Ag Ah Ai hHeld ⊢;refine pv 0 ?_;refine pv 1 ?_;refine pv 2 ?_;refine pv 4 ?_;refine pv 5 ?_;refine pv 6 ?_;refine tv 3 ?_;refine tv 7 ?_
       refine oo 8 (fun K hK=>?_);refine goesV Tryz.func128 ?_;(with_reducible refine mo (laws_eqLink.calls ((rd_T133 l0 D).f0) ((rd_T133 l0 D).f1) ((rd_T133 l1 D).f0) ((rd_T133 l1 D).f1) _ _ A7.o) ?_);intro BB hb;replace HB:=bS HB hb;refine hK.out _ _ ⟨(cy HB AL),(cy HB AK),(cy HB AN),(cy HB AM)⟩ (fun hHeld=>?_);clear hK K;refine nm 25 ?_;refine pv 9 ?_;have H:=Hq_.o;clear Hq_;by_cases c8:B9=true
       ·subst c8;replace H:=iT H;have H':=aK H;clear H;refine done_ (done_of HT_.o (by kernel_rfl)) ?_;(try go_wp2)
        go_roundg k1
        case measure=>have:=AD.o;omega
        case rel=>exact⟨(wrap64 (D+1)),fa,H',⟨by have:=AD.o;omega⟩,⟨bl⟩⟩
       ·replace c8:=bF c8;subst c8;replace H:=iF H;obtain rfl:=oj H;refine done_ (done_of HT_.o (by kernel_rfl)) ?_;(try go_wp2)
        go_ret
        exact⟨fe,bl⟩
      ·exact no c6 H
     ·exact no c5 H
    ·rw[if_neg c4]at H;have A5:=df c4;clear c4;obtain rfl:=oj H;go_wp2
     go_ret
     exact⟨fe,bl⟩
 ·rw[if_neg c3]at H;have A3:=bN c3;have A4:=bQ c3;have AC:(l0.length==l1.length)=false:=by first|simpa using c3|(simp at c3 ⊢;omega)
  obtain rfl:=oj H
  go_enter Tryz.func62,Tryz.ntmps62
  go_wp2
  go_ret
  exact⟨fe,bl⟩
def laws_eqMove.f (J:Int) (U:ByteArray) (Z:ByteArray) (AO:Int) (X:Int) (Y:ByteArray) (A2:ByteArray) (AP:Int):Option (Bool):=if J=X then(if U.toList=Y.toList then(if Z.toList=A2.toList then(if AO=AP then(some true)else(some false))else(some false))else(some false))else(some false)
theorem laws_eqMove.z1 {p:Prop} (h:p:=by
 go_enter Tryz.func129,Tryz.ntmps129
 go_wp2_with (first|((with_reducible refine gd 2 ?_);refine boxQ HB ?_;clear HB;intro BP hg Bv Aw BQ HB hb;clear hb hg)|((with_reducible refine gd 3 ?_);refine boxQ HB ?_;clear HB;intro BR hg Bw Br BS HB hb;have Bs:=nL Aw hg;have Bt:=nR Aw hg;replace Aw:=bv Aw hb;clear hb hg;have:=cf4 Aw;have:=cf4 Br))
 go_ret
 exact⟨fe,bl⟩):p:=h
theorem laws_eqMove.calls (J:Int) (U:ByteArray) (Z:ByteArray) (AO:Int) (X:Int) (Y:ByteArray) (A2:ByteArray) (AP:Int) (r:Bool) (w:World) (h:laws_eqMove.f J U Z AO X Y A2 AP=some r) :
 Calls Tryz.prog 129 #[.agg #[.int .i64 J,.string U,.string Z,.int .i64 AO],.agg #[.int .i64 X,.string Y,.string A2,.int .i64 AP]] w fun e w'=>e = .returned (.bool r)∧Below w.heap.size w w':=by
 have Bu:=Tryz.underlying135;have HB:=aK (Below.refl w.heap.size w);have H:=h;unfold laws_eqMove.f at H;clear h;by_cases c3:J=X
 ·rw[if_pos c3]at H;have A3:=bT c3;have A4:=bE c3;clear c3;by_cases c4:U.toList=Y.toList
  ·rw[if_pos c4]at H;have A5:=bT c4;have Ay:=bE c4;clear c4;by_cases c5:Z.toList=A2.toList
   ·rw[if_pos c5]at H;have Ax:=bT c5;have B0:=bE c5;clear c5;by_cases c6:AO=AP
    ·rw[if_pos c6]at H;have At:=bT c6;have BE:=bE c6;clear c6;obtain rfl:=oj H
     exact laws_eqMove.z1
    ·rw[if_neg c6]at H;have At:=bN c6;have BE:=bQ c6;obtain rfl:=oj H
     exact laws_eqMove.z1
   ·rw[if_neg c5]at H;have Ax:=bN c5;have B0:=bQ c5;obtain rfl:=oj H
    exact laws_eqMove.z1
  ·rw[if_neg c4]at H;have A5:=bN c4;have Ay:=bQ c4;obtain rfl:=oj H
   exact laws_eqMove.z1
 ·rw[if_neg c3]at H;have A3:=bN c3;have A4:=bQ c3;obtain rfl:=oj H
  exact laws_eqMove.z1
def laws_eqMoveS.l0:Nat→List (S135)→List (S135)→Int→Option (Bool)
 | 0,_,_,_=>none
 |k+1,x0,x1,x5=>if x5<(x0.length:Int)then(if 0≤x5 then(if x5<(x1.length:Int)then((laws_eqMove.f ((rd_T135 x0 x5).f0) ((rd_T135 x0 x5).f1) ((rd_T135 x0 x5).f2) ((rd_T135 x0 x5).f3) ((rd_T135 x1 x5).f0) ((rd_T135 x1 x5).f1) ((rd_T135 x1 x5).f2) ((rd_T135 x1 x5).f3)).bind fun Be=>(if Be=true then(laws_eqMoveS.l0 k x0 x1 (wrap64 (x5+1)))else(some false)))else(none))else(none))else(some true)
def laws_eqMoveS.f (k:Nat) (l0:List (S135)) (l1:List (S135)):Option (Bool):=if(l0.length:Int)=(l1.length:Int)then(laws_eqMoveS.l0 k l0 l1 0)else(some false)
def laws_eqMoveS.T6:Bool×List (List Nat×List Nat):=(true,[([],[]),([],[]),([0,1],[0,1]),([2],[2]),([],[]),([],[]),([4,5],[4,5]),([6],[6]),([3,7],[3,7]),([8],[8])])
def laws_eqMoveS.B6:List Nat:=[0,0,3,7,0,0,48,112,255,511]
theorem laws_eqMoveS.tab6:rtab .any (opsOf Tryz.f63 6)=laws_eqMoveS.T6:=by kernel_rfl
theorem laws_eqMoveS.bits6:waitsOk laws_eqMoveS.T6.2 laws_eqMoveS.B6=true:=by kernel_rfl
theorem laws_eqMoveS.calls (k:Nat) (A0:Option Addr) (c0:Nat) (l0:List (S135)) (A1:Option Addr) (c1:Nat) (l1:List (S135)) (r:Bool) (w:World) (Az:Kd.C k135 w A0 l0.length l0) (A_:l0.length≤c0) (AA:Kd.C k135 w A1 l1.length l1) (AB:l1.length≤c1) (h:laws_eqMoveS.f k l0 l1=some r) :
 Calls Tryz.prog 63 #[.slice A0 l0.length c0,.slice A1 l1.length c1] w fun e w'=>e = .returned (.bool r)∧Below w.heap.size w w':=by
 have Bu:=Tryz.underlying135;have B2:=aK Az;have Bx:=aK A_;clear Az A_;have B3:=aK AA;have By:=aK AB;clear AA AB;have HB:=aK (Below.refl w.heap.size w);have H:=h;unfold laws_eqMoveS.f at H;clear h;by_cases c3:(l0.length:Int)=(l1.length:Int)
 ·rw[if_pos c3]at H;have A3:=bT c3;have A4:=bE c3;have AC:(l0.length==l1.length)=true:=by first|simpa using c3|(simp at c3 ⊢;omega)
  clear c3;have H':=aK H;clear H
  go_enter Tryz.func63,Tryz.ntmps63
  go_wp2
  go_loopg [5] k (fun kq v5 w'=>∃(D:Int),v5 = .int .i64 D∧Aside0 (laws_eqMoveS.l0 kq l0 l1 D=some r)∧Aside0 (kq≤k)∧Aside0 (Below w.heap.size w w'))
  case atStart=>exact⟨(0),fa,H',⟨Nat.le_refl _⟩,⟨bl⟩⟩
  case round=>
   clear H';obtain⟨D,rfl,HA,AD,HB⟩:=hrel;cases gk with
   |zero=>exact absurd HA.o (by simp[laws_eqMoveS.l0])
   |succ k1=>
    have H:=HA.o;clear HA;simp only[laws_eqMoveS.l0]at H;by_cases c4:D<(l0.length:Int)
    ·rw[if_pos c4]at H;have A5:=dt c4;clear c4;by_cases c5:0≤D
     ·rw[if_pos c5]at H;have Ax:=dt c5;clear c5;have Hq_:=aK H;clear H;(try go_wp2);replace HB:=dW HB;have Bf:0≤(D:Int):=dT am;have Bg:D<(l0.length:Int):=dT am;obtain⟨A6,BF,Aj,Ak,Al,Am⟩:=at_T135 B2.o D Bf Bg;have AQ:=Am;have AR:=Al;have AS:=Ak;have AT:=Aj;cases BF;replace Aj:=cz HB Aj;replace Ak:=cz HB Ak;replace Al:=cz HB Al;replace Am:=cz HB Am;replace Bf:=eq_true Bf;replace Bg:=eq_true Bg;have Bh:0≤(D:Int):=dT am;have H:=Hq_.o;clear Hq_;by_cases c6:D<(l1.length:Int)
      ·rw[if_pos c6]at H;have At:=dt c6;(try rw[At]);clear c6;obtain⟨Be,A7,H⟩:=bd H;have Hq_:=aK H;clear H;have Bi:D<(l1.length:Int):=dT am;obtain⟨A8,BG,An,Ao,Ap,Aq⟩:=at_T135 B3.o D Bh Bi;have AU:=Aq;have AV:=Ap;have AW:=Ao;have AX:=An;cases BG;replace An:=cz HB An;replace Ao:=cz HB Ao;replace Ap:=cz HB Ap;replace Aq:=cz HB Aq;replace Bh:=eq_true Bh;replace Bi:=eq_true Bi
       refine start_ (n:=10) (S:=fun w'=>w'.cell? (A6.add ((D).toNat*4))=some (.int .i64 ((rd_T135 l0 D).f0))∧w'.cell? ⟨(A6.add ((D).toNat*4)).block,(A6.add ((D).toNat*4)).off+1,none⟩=some (.string ((rd_T135 l0 D).f1))∧w'.cell? ⟨(A6.add ((D).toNat*4)).block,(A6.add ((D).toNat*4)).off+2,none⟩=some (.string ((rd_T135 l0 D).f2))∧w'.cell? ⟨(A6.add ((D).toNat*4)).block,(A6.add ((D).toNat*4)).off+3,none⟩=some (.int .i64 ((rd_T135 l0 D).f3))∧w'.cell? (A8.add ((D).toNat*4))=some (.int .i64 ((rd_T135 l1 D).f0))∧w'.cell? ⟨(A8.add ((D).toNat*4)).block,(A8.add ((D).toNat*4)).off+1,none⟩=some (.string ((rd_T135 l1 D).f1))∧w'.cell? ⟨(A8.add ((D).toNat*4)).block,(A8.add ((D).toNat*4)).off+2,none⟩=some (.string ((rd_T135 l1 D).f2))∧w'.cell? ⟨(A8.add ((D).toNat*4)).block,(A8.add ((D).toNat*4)).off+3,none⟩=some (.int .i64 ((rd_T135 l1 D).f3))) (ds:=[]) (bo 10 0) (by kernel_rfl) rfl rfl ⟨(cy HB AT),(cy HB AS),(cy HB AR),(cy HB AQ),(cy HB AX),(cy HB AW),(cy HB AV),(cy HB AU)⟩ (fun hHeld=>?_);refine with_tabW laws_eqMoveS.tab6 laws_eqMoveS.bits6 (fun HT_ HW_=>?_);generalize wr.drew=BA at HB Aj Ak Al Am An Ao Ap Aq hHeld ⊢;refine pv 0 ?_;refine pv 1 ?_;refine pv 2 ?_
       refine pv 4 ?_;refine pv 5 ?_;refine pv 6 ?_;refine tv 3 ?_;refine tv 7 ?_;refine oo 8 (fun K hK=>?_);refine goesV Tryz.func129 ?_;(with_reducible refine mo (laws_eqMove.calls ((rd_T135 l0 D).f0) ((rd_T135 l0 D).f1) ((rd_T135 l0 D).f2) ((rd_T135 l0 D).f3) ((rd_T135 l1 D).f0) ((rd_T135 l1 D).f1) ((rd_T135 l1 D).f2) ((rd_T135 l1 D).f3) _ _ A7.o) ?_);intro BB hb;replace HB:=bS HB hb;refine hK.out _ _ ⟨(cy HB AT),(cy HB AS),(cy HB AR),(cy HB AQ),(cy HB AX),(cy HB AW),(cy HB AV),(cy HB AU)⟩ (fun hHeld=>?_);clear hK K;refine nm 25 ?_;refine pv 9 ?_;have H:=Hq_.o;clear Hq_;by_cases c8:Be=true
       ·subst c8;replace H:=iT H;have H':=aK H;clear H;refine done_ (done_of HT_.o (by kernel_rfl)) ?_;(try go_wp2)
        go_roundg k1
        case measure=>have:=AD.o;omega
        case rel=>exact⟨(wrap64 (D+1)),fa,H',⟨by have:=AD.o;omega⟩,⟨bl⟩⟩
       ·replace c8:=bF c8;subst c8;replace H:=iF H;obtain rfl:=oj H;refine done_ (done_of HT_.o (by kernel_rfl)) ?_;(try go_wp2)
        go_ret
        exact⟨fe,bl⟩
      ·exact no c6 H
     ·exact no c5 H
    ·rw[if_neg c4]at H;have A5:=df c4;clear c4;obtain rfl:=oj H;go_wp2
     go_ret
     exact⟨fe,bl⟩
 ·rw[if_neg c3]at H;have A3:=bN c3;have A4:=bQ c3;have AC:(l0.length==l1.length)=false:=by first|simpa using c3|(simp at c3 ⊢;omega)
  obtain rfl:=oj H
  go_enter Tryz.func63,Tryz.ntmps63
  go_wp2
  go_ret
  exact⟨fe,bl⟩
def laws_eqDisk.f (k:Nat) (B0:Int) (B1:Int) (Ay:List (S130)) (Az:List (S133)) (A_:List (S135)) (B2:Int) (B3:Int) (AA:List (S130)) (AB:List (S133)) (AC:List (S135)):Option (Bool):=if B0=B2 then(if B1=B3 then((laws_eqInodeS.f k Ay AA).bind fun BD=>(if BD=true then((laws_eqLinkS.f k Az AB).bind fun BE=>(if BE=true then((laws_eqMoveS.f k A_ AC).bind fun BF=>(if BF=true then(some true)else(some false)))else(some false)))else(some false)))else(some false))else(some false)
theorem laws_eqDisk.z1 {p:Prop} (h:p:=by
 go_enter Tryz.func14,Tryz.ntmps14
 go_wp2_with (first|((with_reducible refine gd 2 ?_);refine boxQ HB ?_;clear HB;intro DE hg B4 Ac DF HB hb;clear hb hg)|((with_reducible refine gd 3 ?_);refine boxQ HB ?_;clear HB;intro DG hg B5 Ak DH HB hb;have CL:=nL Ac hg;have CM:=nR Ac hg;replace Ac:=bv Ac hb;clear hb hg;have:=cf5 Ac;have:=cf5 Ak)|((with_reducible refine gc 61 ?_);refine goesW Tryz.func61 ?_;(with_reducible refine mo (laws_eqInodeS.calls k _ _ Ay _ _ AA _ _ ?_ ?_ ?_ ?_ A5.o) ?_);exact cB CN HB;exact CO.o;exact cB CP HB;exact CQ.o;intro A2 hb;replace Ac:=bv Ac hb;replace Ak:=bv Ak hb;replace HB:=bS HB hb;have:=cf5 Ac;have:=cf5 Ak)|((with_reducible refine gc 62 ?_);refine goesW Tryz.func62 ?_;(with_reducible refine mo (laws_eqLinkS.calls k _ _ Az _ _ AB _ _ ?_ ?_ ?_ ?_ A7.o) ?_);exact cB CR HB;exact CS.o;exact cB CT HB;exact CU.o;intro Aj hb;replace Ac:=bv Ac hb;replace Ak:=bv Ak hb;replace HB:=bS HB hb;have:=cf5 Ac;have:=cf5 Ak)|((with_reducible refine gc 63 ?_);refine goesW Tryz.func63 ?_;(with_reducible refine mo (laws_eqMoveS.calls k _ _ A_ _ _ AC _ _ ?_ ?_ ?_ ?_ A9.o) ?_);exact cB CV HB;exact CW.o;exact cB CX HB;exact CY.o;intro Ao hb;replace Ac:=bv Ac hb;replace Ak:=bv Ak hb;replace HB:=bS HB hb))
 go_ret
 exact⟨fe,bl⟩):p:=h
theorem laws_eqDisk.calls (k:Nat) (B0:Int) (B1:Int) (Co:Option Addr) (Cp:Nat) (Ay:List (S130)) (Cq:Option Addr) (Cr:Nat) (Az:List (S133)) (Cs:Option Addr) (Ct:Nat) (A_:List (S135)) (B2:Int) (B3:Int) (Cu:Option Addr) (Cv:Nat) (AA:List (S130)) (Cw:Option Addr) (Cx:Nat) (AB:List (S133)) (Cy:Option Addr) (Cz:Nat) (AC:List (S135)) (r:Bool) (w:World) (BG:Kd.C k130 w Co Ay.length Ay) (BH:Ay.length≤Cp) (BI:Kd.C k133 w Cq Az.length Az) (BJ:Az.length≤Cr) (BK:Kd.C k135 w Cs A_.length A_) (BL:A_.length≤Ct) (BM:Kd.C k130 w Cu AA.length AA) (BN:AA.length≤Cv) (BO:Kd.C k133 w Cw AB.length AB) (BP:AB.length≤Cx) (BQ:Kd.C k135 w Cy AC.length AC) (BR:AC.length≤Cz) (h:laws_eqDisk.f k B0 B1 Ay Az A_ B2 B3 AA AB AC=some r) :
 Calls Tryz.prog 14 #[.agg #[.int .i64 B0,.int .i64 B1,.slice Co Ay.length Cp,.slice Cq Az.length Cr,.slice Cs A_.length Ct],.agg #[.int .i64 B2,.int .i64 B3,.slice Cu AA.length Cv,.slice Cw AB.length Cx,.slice Cy AC.length Cz]] w fun e w'=>e = .returned (.bool r)∧Below w.heap.size w w':=by
 have DY:=Tryz.underlying35;have CN:=aK BG;have CO:=aK BH;clear BG BH;have CR:=aK BI;have CS:=aK BJ;clear BI BJ;have CV:=aK BK;have CW:=aK BL;clear BK BL;have CP:=aK BM;have CQ:=aK BN;clear BM BN;have CT:=aK BO;have CU:=aK BP;clear BO BP;have CX:=aK BQ;have CY:=aK BR;clear BQ BR;have HB:=aK (Below.refl w.heap.size w);have H:=h;unfold laws_eqDisk.f at H;clear h;by_cases c3:B0=B2
 ·rw[if_pos c3]at H;have Au:=bT c3;have Dh:=bE c3;clear c3;by_cases c4:B1=B3
  ·rw[if_pos c4]at H;have Bx:=bT c4;have C_:=bE c4;clear c4;obtain⟨BD,A5,H⟩:=bd H;by_cases c6:BD=true
   ·subst c6;replace H:=iT H;obtain⟨BE,A7,H⟩:=bd H;by_cases c8:BE=true
    ·subst c8;replace H:=iT H;obtain⟨BF,A9,H⟩:=bd H;by_cases c10:BF=true
     ·subst c10;replace H:=iT H;obtain rfl:=oj H
      exact laws_eqDisk.z1
     ·replace c10:=bF c10;subst c10;replace H:=iF H;obtain rfl:=oj H
      exact laws_eqDisk.z1
    ·replace c8:=bF c8;subst c8;replace H:=iF H;obtain rfl:=oj H
     exact laws_eqDisk.z1
   ·replace c6:=bF c6;subst c6;replace H:=iF H;obtain rfl:=oj H
    exact laws_eqDisk.z1
  ·rw[if_neg c4]at H;have Bx:=bN c4;have C_:=bQ c4;obtain rfl:=oj H
   exact laws_eqDisk.z1
 ·rw[if_neg c3]at H;have Au:=bN c3;have Dh:=bQ c3;obtain rfl:=oj H
  exact laws_eqDisk.z1
def laws_markText.l0:Nat→Int→ByteArray→Option (ByteArray)
 | 0,_,_=>none
 |k+1,x0,x3=>if x0>0 then((some (([(wrap64 (48+(Int.tmod x0 10)))%256]:List Int):List Int)).bind fun AY=>(if(strOfNums AY).size+x3.size≤9223372036854775807 then(laws_markText.l0 k (wrap64 (Int.tdiv x0 10)) ((strOfNums AY)++x3))else(none)))else(if 1+x3.size≤9223372036854775807 then(some ((⟨#[109]⟩:ByteArray)++x3))else(none))
def laws_markText.f (k:Nat) (a0:Int):Option (ByteArray):=if a0≤0 then(some (⟨#[109,48]⟩:ByteArray))else(laws_markText.l0 k a0 (⟨#[]⟩:ByteArray))
theorem laws_markText.calls (k:Nat) (a0:Int) (r:ByteArray) (w:World) (h:laws_markText.f k a0=some r) :
 Calls Tryz.prog 81 #[.int .i64 a0] w fun e w'=>e = .returned (.string r)∧Below w.heap.size w w':=by
 have HB:=aK (Below.refl w.heap.size w);have H:=h;unfold laws_markText.f at H;clear h;by_cases c2:a0≤0
 ·rw[if_pos c2]at H;have Di:=dt c2;clear c2;obtain rfl:=oj H
  go_enter Tryz.func81,Tryz.ntmps81
  go_wp2
  go_ret
  exact⟨fe,bl⟩
 ·rw[if_neg c2]at H;have Di:=df c2;clear c2;have H':=aK H;clear H
  go_enter Tryz.func81,Tryz.ntmps81
  go_wp2
  go_loopg [0,3] k (fun kq v0 v3 w'=>∃(J:Int) (AD:ByteArray),v0 = .int .i64 J∧v3 = .string AD∧Aside0 (laws_markText.l0 kq J AD=some r)∧Aside0 (kq≤k)∧Aside0 (Below w.heap.size w w'))
  case atStart=>exact⟨(a0),((⟨#[]⟩:ByteArray)),fa,fa,H',⟨Nat.le_refl _⟩,⟨bl⟩⟩
  case round=>
   clear H';obtain⟨J,AD,rfl,rfl,HA,AM,HB⟩:=hrel;cases gk with
   |zero=>exact absurd HA.o (by simp[laws_markText.l0])
   |succ k1=>
    have H:=HA.o;clear HA;simp only[laws_markText.l0]at H;by_cases c3:J>0
    ·rw[if_pos c3]at H;have Au:=dt c3;clear c3;obtain⟨AY,Bi⟩:=yy ([(wrap64 (48+(Int.tmod J 10)))%256]:List Int);rw[←Bi]at H;(try rw[obs]at H)
     have BS:=aK Bi;clear Bi;by_cases c4:(strOfNums AY).size+AD.size≤9223372036854775807
     ·rw[if_pos c4]at H;have Bx:=eq_true c4;have C_:=dt c4;(try have DZ:(9223372036854775807<(strOfNums AY).size+AD.size)=False:=eq_false (Nat.not_lt.2 c4));have H':=aK H;clear H;go_wp2_with (first|((with_reducible refine gd 12 ?_);refine Kd.R_lit (Kd.int .u8) _ 5 ?hg (N:=12) ?hd (xs:=([(wrap64 (48+(Int.tmod J 10)))%256]:List Int)) (inner:=[.int .u8 ((wrap64 (48+(Int.tmod J 10)))%256)]) (ok:=fun _=>True) (okp:=fun _=>True) ?hr ?hp (fun _ hk=>hk) trivial (Below.refl _ _) (Nat.le_refl _) (by simp) ?_;(case hd=>rfl);(case hg=>rfl);(case hr=>first|(go_simp;done)|(go_simp;rfl));(case hp=>exact(Reps.one (show Kd.M (Kd.int .u8) _ _ _ ((wrap64 (48+(Int.tmod J 10)))%256) [.int .u8 ((wrap64 (48+(Int.tmod J 10)))%256)]from rfl) (Reps.none _ _)));intro E8 E9 B6 hb hg_ hnew_;clear hg_ hnew_;(first|rw[←BS.o]at B6|(simp only[Int.reduceToNat]at B6;rw[←BS.o]at B6));have Dj:=rl HB B6;replace HB:=bS HB hb;clear hb B6;have E0:=own_string (P:=Tryz.prog) Tryz.underlying169 Tryz.underlying5 Tryz.underlying9 (Kd.own_of_R Dj.o)))
      go_roundg k1
      case measure=>have:=AM.o;omega
      case rel=>exact⟨(wrap64 (Int.tdiv J 10)),((strOfNums AY)++AD),fa,fa,H',⟨by have:=AM.o;omega⟩,⟨bl⟩⟩
     ·exact no c4 H
    ·rw[if_neg c3]at H;have Au:=df c3;clear c3;by_cases c8:1+AD.size≤9223372036854775807
     ·rw[if_pos c8]at H;have E1:=eq_true c8;have E2:=dt c8;(try have E3:(9223372036854775807<1+AD.size)=False:=eq_false (Nat.not_lt.2 c8));obtain rfl:=oj H;go_wp2
      go_ret
      exact⟨fe,bl⟩
     ·exact no c8 H
def laws_markInodeS.l0:Nat→List (S130)→Int→Int→Option (Int×(List (S130)))
 | 0,_,_,_=>none
 |k+1,x0,x1,x5=>if x5<(x0.length:Int)then(if 0≤x5 then((some (x0.set (x5:Int).toNat (⟨x1,(rd_T130 x0 x5).f1,(rd_T130 x0 x5).f2⟩:S130):List (S130))).bind fun Ae=>((laws_markText.f k (wrap64 (x1+1))).bind fun AE=>((some (Ae.set (x5:Int).toNat (⟨(rd_T130 Ae x5).f0,AE,(rd_T130 Ae x5).f2⟩:S130):List (S130))).bind fun Af=>(laws_markInodeS.l0 k (Af.set (x5:Int).toNat (⟨(rd_T130 Af x5).f0,(rd_T130 Af x5).f1,wrap64 ((wrap64 (x1+1))+1)⟩:S130)) (wrap64 ((wrap64 ((wrap64 (x1+1))+1))+1)) (wrap64 (x5+1))))))else(none))else(some (x1,x0))
def laws_markInodeS.f (k:Nat) (l0:List (S130)) (a1:Int):Option (Int×(List (S130))):=laws_markInodeS.l0 k l0 a1 0
theorem laws_markInodeS.calls (k:Nat) (Z:Nat→Prop) (A0:Value) (l0:List (S130)) (a1:Int) (r1:Int) (r2:List (S130)) (w0 w:World) (hB:Below w0.heap.size w0 w) (BT:Kd.R k130 130 w w0.heap.size Z A0 l0) (h:laws_markInodeS.f k l0 a1=some (r1,r2)) :
 Calls Tryz.prog 64 #[A0,.int .i64 a1] w fun e w'=>e = .returned (.int .i64 r1)∧Kd.R k130 130 w' w0.heap.size (fun k_=>(Z k_∨w.heap.size≤k_)) A0 r2∧Below w0.heap.size w0 w'∧Kept w w' (fun k_=>Z k_):=by
 have BU:=aK (show Kd.R k130 130 w w0.heap.size (fun k_=>(Z k_∨w.heap.size≤k_)) A0 l0 from rM BT (fun k_ hk=>(.inl hk)));have HK:=aK (Kept.refl w (fun k_=>Z k_));have HW0:=aK hB.size;have HB:=aK hB;clear hB;have H:=h;unfold laws_markInodeS.f at H;clear h;have H':=aK H;clear H
 go_enter Tryz.func64,Tryz.ntmps64
 go_wp2
 go_loopg [1,5] k (fun kq v1 v5 w'=>∃(J:List (S130)) (Y:Int) (D:Int),v1 = .int .i64 Y∧v5 = .int .i64 D∧Aside0 (laws_markInodeS.l0 kq J Y D=some (r1,r2))∧Aside0 (kq≤k)∧Aside0 (Kd.R k130 130 w' w0.heap.size (fun k_=>(Z k_∨w.heap.size≤k_)) A0 J)∧Aside0 (Kept w w' (fun k_=>Z k_))∧Aside0 (Below w0.heap.size w0 w'))
 case atStart=>exact⟨(l0),(a1),(0),fa,fa,H',⟨Nat.le_refl _⟩,⟨rpR BU.o⟩,⟨by repeat (first|(with_reducible first|exact HK.o|apply Kept.alloc|apply Kept.drewN|apply Kept.drew)|exact HK.o)⟩,⟨bl⟩⟩
 case round=>
  clear H';obtain⟨J,Y,D,rfl,rfl,HA,AM,U,HK,HB⟩:=hrel;cases gk with
  |zero=>exact absurd HA.o (by simp[laws_markInodeS.l0])
  |succ k1=>
   have H:=HA.o;clear HA;simp only[laws_markInodeS.l0]at H;by_cases c3:D<(J.length:Int)
   ·rw[if_pos c3]at H;have Au:=dt c3;clear c3;by_cases c4:0≤D
    ·rw[if_pos c4]at H;have Bx:=dt c4;clear c4;obtain⟨Ae,Bj⟩:=yy (J.set (D:Int).toNat (⟨Y,(rd_T130 J D).f1,(rd_T130 J D).f2⟩:S130));rw[←Bj]at H;(try rw[obs]at H)
     have CZ:=aK Bj;clear Bj;obtain⟨AE,A6,H⟩:=bd H;obtain⟨Af,Bk⟩:=yy (Ae.set (D:Int).toNat (⟨(rd_T130 Ae D).f0,AE,(rd_T130 Ae D).f2⟩:S130));rw[←Bk]at H;(try rw[obs]at H)
     have D0:=aK Bk;clear Bk;obtain⟨CA,Bl⟩:=yy (Af.set (D:Int).toNat (⟨(rd_T130 Af D).f0,(rd_T130 Af D).f1,wrap64 ((wrap64 (Y+1))+1)⟩:S130));rw[←Bl]at H;(try rw[obs]at H)
     have D1:=aK Bl;clear Bl;have H':=aK H;clear H;obtain⟨B7,A1,Am⟩:=rs U;subst Am;have AN:0≤(D:Int):=dT am;have AO:(D:Int)<((J.length:Int):Int):=dT am;obtain⟨X,CB,AF,AG,D2,DI,BV⟩:=Kd.R_form U.o (by omega);(first|cases AF|(injection AF with ea_ en_ ec_;(first|subst ea_|(injection ea_ with ea_;subst ea_));subst ec_;clear en_));have B8:=aK AG;have DJ:=aK BV;clear AG D2 BV;have D3:=aK (show(Z X∨w.heap.size≤X)from(U.out.1 _ rfl));obtain⟨DK,BW,BX,Ap,Aq⟩:=Kd.R_elem U.o z130 (D:Int) AN AO;obtain rfl:=k130_openM BX;have By:wr.cell? ⟨X,(D:Int).toNat*3,none⟩=some (.int .i64 ((rd_T130 J D).f0)):=Ap 0 _ rfl;have Bz:wr.cell? ⟨X,(D:Int).toNat*3+1,none⟩=some (.string ((rd_T130 J D).f1)):=Ap 1 _ rfl;have Cb:wr.cell? ⟨X,(D:Int).toNat*3+2,none⟩=some (.int .i64 ((rd_T130 J D).f2)):=Ap 2 _ rfl;have D4:wr.frozen? ⟨X,(D:Int).toNat*3,none⟩=false:=Aq 0;have D5:wr.frozen? ⟨X,(D:Int).toNat*3+1,none⟩=false:=Aq 1;have D6:wr.frozen? ⟨X,(D:Int).toNat*3+2,none⟩=false:=Aq 2;clear BW Ap Aq BX;replace AN:=eq_true AN;replace AO:=eq_true AO
     have B9:=aK (show Kd.R k130 130 wr w0.heap.size (fun k_=>(Z k_∨w.heap.size≤k_)) (.slice (some ⟨X,0,none⟩) J.length A1) J from(rpR U.o));obtain⟨CC,Ar,AH,Ad,Ag⟩:=Kd.R_elem B9.o z130 (D:Int) (dT am) (by have h_:(D:Int)<((J.length:Int):Int):=dT am;first|exact h_|(have e_:=(Kd.R_reads' U.o).1;omega)|simpa using h_);obtain rfl:=k130_openM AH;have AP:=Kd.R_seg B9.o (D:Int) (dT am) (by have h_:(D:Int)<((J.length:Int):Int):=dT am;first|exact h_|(have e_:=(Kd.R_reads' U.o).1;omega)|simpa using h_) (seg:=[.int .i64 Y]) (j:=0) Ar Ad (show 1≤3 from by decide) (x':=(⟨Y,(rd_T130 J D).f1,(rd_T130 J D).f2⟩:S130)) (k130_mkM _ _ _ (⟨Y,(rd_T130 J D).f1,(rd_T130 J D).f2⟩:S130)) (fun _ hk=>hk);have Av:=Ad 0 _ rfl;(try simp only[show(k130).sz=3 from rfl,Nat.mul_one,Nat.add_zero]at Av);have AL:=Ag 0;(try simp only[show(k130).sz=3 from rfl,Nat.mul_one,Nat.add_zero]at AL);clear Ar Ad Ag AH
     go_wp2_with (first|((with_reducible refine gate_store (t:=3) (p:=16) rfl ?_);refine store_event (t:=3) (p:=16) (v:=?vo_w11) (w1:=(wr.setCell ⟨X,(D:Int).toNat*3,none⟩ (.int .i64 Y))) ?hg ?ho ?hn ?hr ?_;(case ho=>rfl);(case hg=>rfl);(case hn=>rfl);(case hr=>first|(go_simp;done)|(go_simp;rfl));intro B5 hw;have hg:wr.grownBy B5 (some X):=(by rw[hw];exact AP.2);have hp_:Kd.R k130 130 B5 w0.heap.size (fun k_=>(Z k_∨w.heap.size≤k_)) (.slice (some ⟨X,0,none⟩) J.length A1) Ae:=(by rw[hw,CZ.o];exact AP.1);clear AP;replace HB:=aK ((by rw[hw];exact below_set (HB.o) B8.o:Below w0.heap.size w0 B5));replace HK:=aK (Kept.of_grown (S:=(fun k_=>Z k_)) hg (by repeat (first|(with_reducible first|exact HK.o|apply Kept.alloc|apply Kept.drewN|apply Kept.drew)|exact HK.o)) (fun k_ e_=>(U.out.1 k_ e_)));replace U:=aK (hp_);clear hg hw hp_)|((with_reducible refine gc 81 ?_);refine goesW Tryz.func81 ?_;(with_reducible refine mo (laws_markText.calls k1 (wrap64 (Y+1)) AE _ A6.o) ?_);intro A2 hb;replace U:=rb U hb;replace HK:=aK (Kept.below (S:=(fun k_=>Z k_)) (by repeat (first|(with_reducible first|exact HK.o|apply Kept.alloc|apply Kept.drewN|apply Kept.drew)|exact HK.o)) hb);replace HB:=bs (w:=w0) hb;have AQ:0≤(D:Int):=dT am;have AR:(D:Int)<((J.length:Int):Int):=dT am;obtain⟨Dk,Ba,Bb,Ah,Ai⟩:=Kd.R_elem U.o z130 (D:Int) AQ AR;obtain rfl:=k130_openM Bb;have B_:A2.cell? ⟨X,(D:Int).toNat*3,none⟩=some (.int .i64 ((rd_T130 Ae D).f0)):=Ah 0 _ rfl;have BA:A2.cell? ⟨X,(D:Int).toNat*3+1,none⟩=some (.string ((rd_T130 Ae D).f1)):=Ah 1 _ rfl;have Cc:A2.cell? ⟨X,(D:Int).toNat*3+2,none⟩=some (.int .i64 ((rd_T130 Ae D).f2)):=Ah 2 _ rfl;have BY:A2.frozen? ⟨X,(D:Int).toNat*3,none⟩=false:=Ai 0;have BZ:A2.frozen? ⟨X,(D:Int).toNat*3+1,none⟩=false:=Ai 1;have D7:A2.frozen? ⟨X,(D:Int).toNat*3+2,none⟩=false:=Ai 2;clear Ba Ah Ai Bb;replace AQ:=eq_true AQ;replace AR:=eq_true AR;have CD:=aK (show Kd.R k130 130 A2 w0.heap.size (fun k_=>(Z k_∨w.heap.size≤k_)) (.slice (some ⟨X,0,none⟩) J.length A1) Ae from(rpR U.o));obtain⟨E4,C0,CE,Bm,C1⟩:=Kd.R_elem CD.o z130 (D:Int) (dT am) (by have h_:(D:Int)<((J.length:Int):Int):=dT am;first|exact h_|(have e_:=(Kd.R_reads' U.o).1;omega)|simpa using h_);obtain rfl:=k130_openM CE;have C2:=Kd.R_seg CD.o (D:Int) (dT am) (by have h_:(D:Int)<((J.length:Int):Int):=dT am;first|exact h_|(have e_:=(Kd.R_reads' U.o).1;omega)|simpa using h_) (seg:=[.string AE]) (j:=1) C0 Bm (show 2≤3 from by decide) (x':=(⟨(rd_T130 Ae D).f0,AE,(rd_T130 Ae D).f2⟩:S130)) (k130_mkM _ _ _ (⟨(rd_T130 Ae D).f0,AE,(rd_T130 Ae D).f2⟩:S130)) (fun _ hk=>hk);have Aw:=Bm 1 _ rfl;(try simp only[show(k130).sz=3 from rfl,Nat.mul_one,Nat.add_zero]at Aw);have Cd:=C1 1;(try simp only[show(k130).sz=3 from rfl,Nat.mul_one,Nat.add_zero]at Cd);clear C0 Bm C1 CE)|((with_reducible refine gate_store (t:=9) (p:=24) rfl ?_);refine store_event (t:=9) (p:=24) (v:=?vo_w14) (w1:=(A2.setCell ⟨X,(D:Int).toNat*3+1,none⟩ (.string AE))) ?hg ?ho ?hn ?hr ?_;(case ho=>rfl);(case hg=>rfl);(case hn=>rfl);(case hr=>first|(go_simp;done)|(go_simp;rfl));intro Aj hw;have hg:A2.grownBy Aj (some X):=(by rw[hw];exact C2.2);have hp_:Kd.R k130 130 Aj w0.heap.size (fun k_=>(Z k_∨w.heap.size≤k_)) (.slice (some ⟨X,0,none⟩) J.length A1) Af:=(by rw[hw,D0.o];exact C2.1);clear C2;replace HB:=aK ((by rw[hw];exact below_set (HB.o) B8.o:Below w0.heap.size w0 Aj));replace HK:=aK (Kept.of_grown (S:=(fun k_=>Z k_)) hg (by repeat (first|(with_reducible first|exact HK.o|apply Kept.alloc|apply Kept.drewN|apply Kept.drew)|exact HK.o)) (fun k_ e_=>(U.out.1 k_ e_)));replace U:=aK (hp_);clear hg hw hp_;have Bn:0≤(D:Int):=dT am;have Bo:(D:Int)<((J.length:Int):Int):=dT am;obtain⟨Ea,Dl,Dm,BB,BC⟩:=Kd.R_elem U.o z130 (D:Int) Bn Bo;obtain rfl:=k130_openM Dm;have Ce:Aj.cell? ⟨X,(D:Int).toNat*3,none⟩=some (.int .i64 ((rd_T130 Af D).f0)):=BB 0 _ rfl;have Cf:Aj.cell? ⟨X,(D:Int).toNat*3+1,none⟩=some (.string ((rd_T130 Af D).f1)):=BB 1 _ rfl;have Cg:Aj.cell? ⟨X,(D:Int).toNat*3+2,none⟩=some (.int .i64 ((rd_T130 Af D).f2)):=BB 2 _ rfl;have DL:Aj.frozen? ⟨X,(D:Int).toNat*3,none⟩=false:=BC 0;have DM:Aj.frozen? ⟨X,(D:Int).toNat*3+1,none⟩=false:=BC 1;have DN:Aj.frozen? ⟨X,(D:Int).toNat*3+2,none⟩=false:=BC 2;clear Dl BB BC Dm;replace Bn:=eq_true Bn;replace Bo:=eq_true Bo;have Bc:=aK (show Kd.R k130 130 Aj w0.heap.size (fun k_=>(Z k_∨w.heap.size≤k_)) (.slice (some ⟨X,0,none⟩) J.length A1) Af from(rpR U.o));obtain⟨Dn,AS,Bd,As,AT⟩:=Kd.R_elem Bc.o z130 (D:Int) (dT am) (by have h_:(D:Int)<((J.length:Int):Int):=dT am;first|exact h_|(have e_:=(Kd.R_reads' U.o).1;omega)|simpa using h_);obtain rfl:=k130_openM Bd;have AU:=Kd.R_seg Bc.o (D:Int) (dT am) (by have h_:(D:Int)<((J.length:Int):Int):=dT am;first|exact h_|(have e_:=(Kd.R_reads' U.o).1;omega)|simpa using h_) (seg:=[.int .i64 (wrap64 ((wrap64 (Y+1))+1))]) (j:=2) AS As (show 3≤3 from by decide) (x':=(⟨(rd_T130 Af D).f0,(rd_T130 Af D).f1,wrap64 ((wrap64 (Y+1))+1)⟩:S130)) (k130_mkM _ _ _ (⟨(rd_T130 Af D).f0,(rd_T130 Af D).f1,wrap64 ((wrap64 (Y+1))+1)⟩:S130)) (fun _ hk=>hk);have AZ:=As 2 _ rfl;(try simp only[show(k130).sz=3 from rfl,Nat.mul_one,Nat.add_zero]at AZ);have Ch:=AT 2;(try simp only[show(k130).sz=3 from rfl,Nat.mul_one,Nat.add_zero]at Ch);clear AS As AT Bd)|((with_reducible refine gate_store (t:=3) (p:=31) rfl ?_);refine store_event (t:=3) (p:=31) (v:=?vo_w16) (w1:=(Aj.setCell ⟨X,(D:Int).toNat*3+2,none⟩ (.int .i64 (wrap64 ((wrap64 (Y+1))+1))))) ?hg ?ho ?hn ?hr ?_;(case ho=>rfl);(case hg=>rfl);(case hn=>rfl);(case hr=>first|(go_simp;done)|(go_simp;rfl));intro Ao hw;have hg:Aj.grownBy Ao (some X):=(by rw[hw];exact AU.2);have hp_:Kd.R k130 130 Ao w0.heap.size (fun k_=>(Z k_∨w.heap.size≤k_)) (.slice (some ⟨X,0,none⟩) J.length A1) CA:=(by rw[hw,D1.o];exact AU.1);clear AU;replace HB:=aK ((by rw[hw];exact below_set (HB.o) B8.o:Below w0.heap.size w0 Ao));replace HK:=aK (Kept.of_grown (S:=(fun k_=>Z k_)) hg (by repeat (first|(with_reducible first|exact HK.o|apply Kept.alloc|apply Kept.drewN|apply Kept.drew)|exact HK.o)) (fun k_ e_=>(U.out.1 k_ e_)));replace U:=aK (hp_);clear hg hw hp_))
     go_roundg k1
     case measure=>have:=AM.o;omega
     case rel=>exact⟨(CA),(wrap64 ((wrap64 ((wrap64 (Y+1))+1))+1)),(wrap64 (D+1)),fa,fa,H',⟨by have:=AM.o;omega⟩,⟨rpR U.o⟩,⟨by repeat (first|(with_reducible first|exact HK.o|apply Kept.alloc|apply Kept.drewN|apply Kept.drew)|exact HK.o)⟩,⟨bl⟩⟩
    ·exact no c4 H
   ·rw[if_neg c3]at H;have Au:=df c3;clear c3;obtain⟨rfl,rfl⟩:=t2 H;obtain⟨B7,A1,Am⟩:=rs U;subst Am;go_wp2
    go_ret
    exact⟨fe,rpR U.o,bl,by repeat (first|(with_reducible first|exact HK.o|apply Kept.alloc|apply Kept.drewN|apply Kept.drew)|exact HK.o)⟩
def laws_markLinkS.l0:Nat→List (S133)→Int→Int→Option (Int×(List (S133)))
 | 0,_,_,_=>none
 |k+1,x0,x1,x5=>if x5<(x0.length:Int)then((laws_markText.f k x1).bind fun AI=>(if 0≤x5 then((some (x0.set (x5:Int).toNat (⟨AI,(rd_T133 x0 x5).f1⟩:S133):List (S133))).bind fun An=>(laws_markLinkS.l0 k (An.set (x5:Int).toNat (⟨(rd_T133 An x5).f0,wrap64 (x1+1)⟩:S133)) (wrap64 ((wrap64 (x1+1))+1)) (wrap64 (x5+1))))else(none)))else(some (x1,x0))
def laws_markLinkS.f (k:Nat) (l0:List (S133)) (a1:Int):Option (Int×(List (S133))):=laws_markLinkS.l0 k l0 a1 0
theorem laws_markLinkS.calls (k:Nat) (Z:Nat→Prop) (A0:Value) (l0:List (S133)) (a1:Int) (r1:Int) (r2:List (S133)) (w0 w:World) (hB:Below w0.heap.size w0 w) (BT:Kd.R k133 133 w w0.heap.size Z A0 l0) (h:laws_markLinkS.f k l0 a1=some (r1,r2)) :
 Calls Tryz.prog 65 #[A0,.int .i64 a1] w fun e w'=>e = .returned (.int .i64 r1)∧Kd.R k133 133 w' w0.heap.size (fun k_=>(Z k_∨w.heap.size≤k_)) A0 r2∧Below w0.heap.size w0 w'∧Kept w w' (fun k_=>Z k_):=by
 have BU:=aK (show Kd.R k133 133 w w0.heap.size (fun k_=>(Z k_∨w.heap.size≤k_)) A0 l0 from rM BT (fun k_ hk=>(.inl hk)));have HK:=aK (Kept.refl w (fun k_=>Z k_));have HW0:=aK hB.size;have HB:=aK hB;clear hB;have H:=h;unfold laws_markLinkS.f at H;clear h;have H':=aK H;clear H
 go_enter Tryz.func65,Tryz.ntmps65
 go_wp2
 go_loopg [1,5] k (fun kq v1 v5 w'=>∃(J:List (S133)) (Y:Int) (D:Int),v1 = .int .i64 Y∧v5 = .int .i64 D∧Aside0 (laws_markLinkS.l0 kq J Y D=some (r1,r2))∧Aside0 (kq≤k)∧Aside0 (Kd.R k133 133 w' w0.heap.size (fun k_=>(Z k_∨w.heap.size≤k_)) A0 J)∧Aside0 (Kept w w' (fun k_=>Z k_))∧Aside0 (Below w0.heap.size w0 w'))
 case atStart=>exact⟨(l0),(a1),(0),fa,fa,H',⟨Nat.le_refl _⟩,⟨rpR BU.o⟩,⟨by repeat (first|(with_reducible first|exact HK.o|apply Kept.alloc|apply Kept.drewN|apply Kept.drew)|exact HK.o)⟩,⟨bl⟩⟩
 case round=>
  clear H';obtain⟨J,Y,D,rfl,rfl,HA,AM,U,HK,HB⟩:=hrel;cases gk with
  |zero=>exact absurd HA.o (by simp[laws_markLinkS.l0])
  |succ k1=>
   have H:=HA.o;clear HA;simp only[laws_markLinkS.l0]at H;by_cases c3:D<(J.length:Int)
   ·rw[if_pos c3]at H;have Au:=dt c3;clear c3;obtain⟨AI,A4,H⟩:=bd H;by_cases c5:0≤D
    ·rw[if_pos c5]at H;have E5:=dt c5;clear c5;obtain⟨An,Bp⟩:=yy (J.set (D:Int).toNat (⟨AI,(rd_T133 J D).f1⟩:S133));rw[←Bp]at H;(try rw[obs]at H)
     have D8:=aK Bp;clear Bp;obtain⟨CF,Bq⟩:=yy (An.set (D:Int).toNat (⟨(rd_T133 An D).f0,wrap64 (Y+1)⟩:S133));rw[←Bq]at H;(try rw[obs]at H)
     have D9:=aK Bq;clear Bq;have H':=aK H;clear H;obtain⟨B7,A1,Am⟩:=rs U;subst Am
     go_wp2_with (first|((with_reducible refine gc 81 ?_);refine goesW Tryz.func81 ?_;(with_reducible refine mo (laws_markText.calls k1 Y AI _ A4.o) ?_);intro B4 hb;replace U:=rb U hb;replace HK:=aK (Kept.below (S:=(fun k_=>Z k_)) (by repeat (first|(with_reducible first|exact HK.o|apply Kept.alloc|apply Kept.drewN|apply Kept.drew)|exact HK.o)) hb);replace HB:=bs (w:=w0) hb;have AN:0≤(D:Int):=dT am;have AO:(D:Int)<((J.length:Int):Int):=dT am;obtain⟨Al,CB,AF,AG,DO,Eb,Do⟩:=Kd.R_form U.o (by omega);(first|cases AF|(injection AF with ea_ en_ ec_;(first|subst ea_|(injection ea_ with ea_;subst ea_));subst ec_;clear en_));have Dp:=aK AG;have Ec:=aK Do;clear AG DO Do;have DP:=aK (show(Z Al∨w.heap.size≤Al)from(U.out.1 _ rfl));obtain⟨Ed,Dq,Dr,C3,C4⟩:=Kd.R_elem U.o z133 (D:Int) AN AO;obtain rfl:=k133_openM Dr;have By:B4.cell? ⟨Al,(D:Int).toNat*2,none⟩=some (.string ((rd_T133 J D).f0)):=C3 0 _ rfl;have Bz:B4.cell? ⟨Al,(D:Int).toNat*2+1,none⟩=some (.int .i64 ((rd_T133 J D).f1)):=C3 1 _ rfl;have DQ:B4.frozen? ⟨Al,(D:Int).toNat*2,none⟩=false:=C4 0;have DR:B4.frozen? ⟨Al,(D:Int).toNat*2+1,none⟩=false:=C4 1;clear Dq C3 C4 Dr;replace AN:=eq_true AN;replace AO:=eq_true AO;have B9:=aK (show Kd.R k133 133 B4 w0.heap.size (fun k_=>(Z k_∨w.heap.size≤k_)) (.slice (some ⟨Al,0,none⟩) J.length A1) J from(rpR U.o));obtain⟨CC,Ar,AH,Ad,Ag⟩:=Kd.R_elem B9.o z133 (D:Int) (dT am) (by have h_:(D:Int)<((J.length:Int):Int):=dT am;first|exact h_|(have e_:=(Kd.R_reads' U.o).1;omega)|simpa using h_);obtain rfl:=k133_openM AH;have AP:=Kd.R_seg B9.o (D:Int) (dT am) (by have h_:(D:Int)<((J.length:Int):Int):=dT am;first|exact h_|(have e_:=(Kd.R_reads' U.o).1;omega)|simpa using h_) (seg:=[.string AI]) (j:=0) Ar Ad (show 1≤2 from by decide) (x':=(⟨AI,(rd_T133 J D).f1⟩:S133)) (k133_mkM _ _ _ (⟨AI,(rd_T133 J D).f1⟩:S133)) (fun _ hk=>hk);have Av:=Ad 0 _ rfl;(try simp only[show(k133).sz=2 from rfl,Nat.mul_one,Nat.add_zero]at Av);have AL:=Ag 0;(try simp only[show(k133).sz=2 from rfl,Nat.mul_one,Nat.add_zero]at AL);clear Ar Ad Ag AH)|((with_reducible refine gate_store (t:=9) (p:=17) rfl ?_);refine store_event (t:=9) (p:=17) (v:=?vo_w11) (w1:=(B4.setCell ⟨Al,(D:Int).toNat*2,none⟩ (.string AI))) ?hg ?ho ?hn ?hr ?_;(case ho=>rfl);(case hg=>rfl);(case hn=>rfl);(case hr=>first|(go_simp;done)|(go_simp;rfl));intro A2 hw;have hg:B4.grownBy A2 (some Al):=(by rw[hw];exact AP.2);have hp_:Kd.R k133 133 A2 w0.heap.size (fun k_=>(Z k_∨w.heap.size≤k_)) (.slice (some ⟨Al,0,none⟩) J.length A1) An:=(by rw[hw,D8.o];exact AP.1);clear AP;replace HB:=aK ((by rw[hw];exact below_set (HB.o) Dp.o:Below w0.heap.size w0 A2));replace HK:=aK (Kept.of_grown (S:=(fun k_=>Z k_)) hg (by repeat (first|(with_reducible first|exact HK.o|apply Kept.alloc|apply Kept.drewN|apply Kept.drew)|exact HK.o)) (fun k_ e_=>(U.out.1 k_ e_)));replace U:=aK (hp_);clear hg hw hp_;have AQ:0≤(D:Int):=dT am;have AR:(D:Int)<((J.length:Int):Int):=dT am;obtain⟨Dk,Ba,Bb,Ah,Ai⟩:=Kd.R_elem U.o z133 (D:Int) AQ AR;obtain rfl:=k133_openM Bb;have B_:A2.cell? ⟨Al,(D:Int).toNat*2,none⟩=some (.string ((rd_T133 An D).f0)):=Ah 0 _ rfl;have BA:A2.cell? ⟨Al,(D:Int).toNat*2+1,none⟩=some (.int .i64 ((rd_T133 An D).f1)):=Ah 1 _ rfl;have BY:A2.frozen? ⟨Al,(D:Int).toNat*2,none⟩=false:=Ai 0;have BZ:A2.frozen? ⟨Al,(D:Int).toNat*2+1,none⟩=false:=Ai 1;clear Ba Ah Ai Bb;replace AQ:=eq_true AQ;replace AR:=eq_true AR;have Be:=aK (show Kd.R k133 133 A2 w0.heap.size (fun k_=>(Z k_∨w.heap.size≤k_)) (.slice (some ⟨Al,0,none⟩) J.length A1) An from(rpR U.o));obtain⟨Ds,AV,Bf,At,AW⟩:=Kd.R_elem Be.o z133 (D:Int) (dT am) (by have h_:(D:Int)<((J.length:Int):Int):=dT am;first|exact h_|(have e_:=(Kd.R_reads' U.o).1;omega)|simpa using h_);obtain rfl:=k133_openM Bf;have AX:=Kd.R_seg Be.o (D:Int) (dT am) (by have h_:(D:Int)<((J.length:Int):Int):=dT am;first|exact h_|(have e_:=(Kd.R_reads' U.o).1;omega)|simpa using h_) (seg:=[.int .i64 (wrap64 (Y+1))]) (j:=1) AV At (show 2≤2 from by decide) (x':=(⟨(rd_T133 An D).f0,wrap64 (Y+1)⟩:S133)) (k133_mkM _ _ _ (⟨(rd_T133 An D).f0,wrap64 (Y+1)⟩:S133)) (fun _ hk=>hk);have Aw:=At 1 _ rfl;(try simp only[show(k133).sz=2 from rfl,Nat.mul_one,Nat.add_zero]at Aw);have Ci:=AW 1;(try simp only[show(k133).sz=2 from rfl,Nat.mul_one,Nat.add_zero]at Ci);clear AV At AW Bf)|((with_reducible refine gate_store (t:=3) (p:=24) rfl ?_);refine store_event (t:=3) (p:=24) (v:=?vo_w13) (w1:=(A2.setCell ⟨Al,(D:Int).toNat*2+1,none⟩ (.int .i64 (wrap64 (Y+1))))) ?hg ?ho ?hn ?hr ?_;(case ho=>rfl);(case hg=>rfl);(case hn=>rfl);(case hr=>first|(go_simp;done)|(go_simp;rfl));intro Aj hw;have hg:A2.grownBy Aj (some Al):=(by rw[hw];exact AX.2);have hp_:Kd.R k133 133 Aj w0.heap.size (fun k_=>(Z k_∨w.heap.size≤k_)) (.slice (some ⟨Al,0,none⟩) J.length A1) CF:=(by rw[hw,D9.o];exact AX.1);clear AX;replace HB:=aK ((by rw[hw];exact below_set (HB.o) Dp.o:Below w0.heap.size w0 Aj));replace HK:=aK (Kept.of_grown (S:=(fun k_=>Z k_)) hg (by repeat (first|(with_reducible first|exact HK.o|apply Kept.alloc|apply Kept.drewN|apply Kept.drew)|exact HK.o)) (fun k_ e_=>(U.out.1 k_ e_)));replace U:=aK (hp_);clear hg hw hp_))
     go_roundg k1
     case measure=>have:=AM.o;omega
     case rel=>exact⟨(CF),(wrap64 ((wrap64 (Y+1))+1)),(wrap64 (D+1)),fa,fa,H',⟨by have:=AM.o;omega⟩,⟨rpR U.o⟩,⟨by repeat (first|(with_reducible first|exact HK.o|apply Kept.alloc|apply Kept.drewN|apply Kept.drew)|exact HK.o)⟩,⟨bl⟩⟩
    ·exact no c5 H
   ·rw[if_neg c3]at H;have Au:=df c3;clear c3;obtain⟨rfl,rfl⟩:=t2 H;obtain⟨B7,A1,Am⟩:=rs U;subst Am;go_wp2
    go_ret
    exact⟨fe,rpR U.o,bl,by repeat (first|(with_reducible first|exact HK.o|apply Kept.alloc|apply Kept.drewN|apply Kept.drew)|exact HK.o)⟩
def laws_markMoveS.l0:Nat→List (S135)→Int→Int→Option (Int×(List (S135)))
 | 0,_,_,_=>none
 |k+1,x0,x1,x5=>if x5<(x0.length:Int)then(if 0≤x5 then((some (x0.set (x5:Int).toNat (⟨x1,(rd_T135 x0 x5).f1,(rd_T135 x0 x5).f2,(rd_T135 x0 x5).f3⟩:S135):List (S135))).bind fun A3=>((laws_markText.f k (wrap64 (x1+1))).bind fun AJ=>((some (A3.set (x5:Int).toNat (⟨(rd_T135 A3 x5).f0,AJ,(rd_T135 A3 x5).f2,(rd_T135 A3 x5).f3⟩:S135):List (S135))).bind fun Aa=>((laws_markText.f k (wrap64 ((wrap64 (x1+1))+1))).bind fun AK=>((some (Aa.set (x5:Int).toNat (⟨(rd_T135 Aa x5).f0,(rd_T135 Aa x5).f1,AK,(rd_T135 Aa x5).f3⟩:S135):List (S135))).bind fun Ab=>(laws_markMoveS.l0 k (Ab.set (x5:Int).toNat (⟨(rd_T135 Ab x5).f0,(rd_T135 Ab x5).f1,(rd_T135 Ab x5).f2,wrap64 ((wrap64 ((wrap64 (x1+1))+1))+1)⟩:S135)) (wrap64 ((wrap64 ((wrap64 ((wrap64 (x1+1))+1))+1))+1)) (wrap64 (x5+1))))))))else(none))else(some (x1,x0))
def laws_markMoveS.f (k:Nat) (l0:List (S135)) (a1:Int):Option (Int×(List (S135))):=laws_markMoveS.l0 k l0 a1 0
theorem laws_markMoveS.calls (k:Nat) (Z:Nat→Prop) (A0:Value) (l0:List (S135)) (a1:Int) (r1:Int) (r2:List (S135)) (w0 w:World) (hB:Below w0.heap.size w0 w) (BT:Kd.R k135 135 w w0.heap.size Z A0 l0) (h:laws_markMoveS.f k l0 a1=some (r1,r2)) :
 Calls Tryz.prog 66 #[A0,.int .i64 a1] w fun e w'=>e = .returned (.int .i64 r1)∧Kd.R k135 135 w' w0.heap.size (fun k_=>(Z k_∨w.heap.size≤k_)) A0 r2∧Below w0.heap.size w0 w'∧Kept w w' (fun k_=>Z k_):=by
 have BU:=aK (show Kd.R k135 135 w w0.heap.size (fun k_=>(Z k_∨w.heap.size≤k_)) A0 l0 from rM BT (fun k_ hk=>(.inl hk)));have HK:=aK (Kept.refl w (fun k_=>Z k_));have HW0:=aK hB.size;have HB:=aK hB;clear hB;have H:=h;unfold laws_markMoveS.f at H;clear h;have H':=aK H;clear H
 go_enter Tryz.func66,Tryz.ntmps66
 go_wp2
 go_loopg [1,5] k (fun kq v1 v5 w'=>∃(J:List (S135)) (Y:Int) (D:Int),v1 = .int .i64 Y∧v5 = .int .i64 D∧Aside0 (laws_markMoveS.l0 kq J Y D=some (r1,r2))∧Aside0 (kq≤k)∧Aside0 (Kd.R k135 135 w' w0.heap.size (fun k_=>(Z k_∨w.heap.size≤k_)) A0 J)∧Aside0 (Kept w w' (fun k_=>Z k_))∧Aside0 (Below w0.heap.size w0 w'))
 case atStart=>exact⟨(l0),(a1),(0),fa,fa,H',⟨Nat.le_refl _⟩,⟨rpR BU.o⟩,⟨by repeat (first|(with_reducible first|exact HK.o|apply Kept.alloc|apply Kept.drewN|apply Kept.drew)|exact HK.o)⟩,⟨bl⟩⟩
 case round=>
  clear H';obtain⟨J,Y,D,rfl,rfl,HA,AM,U,HK,HB⟩:=hrel;cases gk with
  |zero=>exact absurd HA.o (by simp[laws_markMoveS.l0])
  |succ k1=>
   have H:=HA.o;clear HA;simp only[laws_markMoveS.l0]at H;by_cases c3:D<(J.length:Int)
   ·rw[if_pos c3]at H;have Au:=dt c3;clear c3;by_cases c4:0≤D
    ·rw[if_pos c4]at H;have Bx:=dt c4;clear c4;obtain⟨A3,Br⟩:=yy (J.set (D:Int).toNat (⟨Y,(rd_T135 J D).f1,(rd_T135 J D).f2,(rd_T135 J D).f3⟩:S135));rw[←Br]at H;(try rw[obs]at H)
     have Da:=aK Br;clear Br;obtain⟨AJ,A6,H⟩:=bd H;obtain⟨Aa,Bs⟩:=yy (A3.set (D:Int).toNat (⟨(rd_T135 A3 D).f0,AJ,(rd_T135 A3 D).f2,(rd_T135 A3 D).f3⟩:S135));rw[←Bs]at H;(try rw[obs]at H)
     have Db:=aK Bs;clear Bs;obtain⟨AK,A8,H⟩:=bd H;obtain⟨Ab,Bt⟩:=yy (Aa.set (D:Int).toNat (⟨(rd_T135 Aa D).f0,(rd_T135 Aa D).f1,AK,(rd_T135 Aa D).f3⟩:S135));rw[←Bt]at H;(try rw[obs]at H)
     have Dc:=aK Bt;clear Bt;obtain⟨CG,Bu⟩:=yy (Ab.set (D:Int).toNat (⟨(rd_T135 Ab D).f0,(rd_T135 Ab D).f1,(rd_T135 Ab D).f2,wrap64 ((wrap64 ((wrap64 (Y+1))+1))+1)⟩:S135));rw[←Bu]at H;(try rw[obs]at H)
     have Dd:=aK Bu;clear Bu;have H':=aK H;clear H;obtain⟨B7,A1,Am⟩:=rs U;subst Am;have AN:0≤(D:Int):=dT am;have AO:(D:Int)<((J.length:Int):Int):=dT am;obtain⟨X,CB,AF,AG,D2,DI,BV⟩:=Kd.R_form U.o (by omega);(first|cases AF|(injection AF with ea_ en_ ec_;(first|subst ea_|(injection ea_ with ea_;subst ea_));subst ec_;clear en_));have B8:=aK AG;have DJ:=aK BV;clear AG D2 BV;have D3:=aK (show(Z X∨w.heap.size≤X)from(U.out.1 _ rfl));obtain⟨DK,BW,BX,Ap,Aq⟩:=Kd.R_elem U.o z135 (D:Int) AN AO;obtain rfl:=k135_openM BX;have By:wr.cell? ⟨X,(D:Int).toNat*4,none⟩=some (.int .i64 ((rd_T135 J D).f0)):=Ap 0 _ rfl;have Bz:wr.cell? ⟨X,(D:Int).toNat*4+1,none⟩=some (.string ((rd_T135 J D).f1)):=Ap 1 _ rfl;have Cb:wr.cell? ⟨X,(D:Int).toNat*4+2,none⟩=some (.string ((rd_T135 J D).f2)):=Ap 2 _ rfl;have Dv:wr.cell? ⟨X,(D:Int).toNat*4+3,none⟩=some (.int .i64 ((rd_T135 J D).f3)):=Ap 3 _ rfl;have D4:wr.frozen? ⟨X,(D:Int).toNat*4,none⟩=false:=Aq 0;have D5:wr.frozen? ⟨X,(D:Int).toNat*4+1,none⟩=false:=Aq 1;have D6:wr.frozen? ⟨X,(D:Int).toNat*4+2,none⟩=false:=Aq 2;have DS:wr.frozen? ⟨X,(D:Int).toNat*4+3,none⟩=false:=Aq 3
     clear BW Ap Aq BX;replace AN:=eq_true AN;replace AO:=eq_true AO;have Be:=aK (show Kd.R k135 135 wr w0.heap.size (fun k_=>(Z k_∨w.heap.size≤k_)) (.slice (some ⟨X,0,none⟩) J.length A1) J from(rpR U.o));obtain⟨Ds,AV,Bf,At,AW⟩:=Kd.R_elem Be.o z135 (D:Int) (dT am) (by have h_:(D:Int)<((J.length:Int):Int):=dT am;first|exact h_|(have e_:=(Kd.R_reads' U.o).1;omega)|simpa using h_);obtain rfl:=k135_openM Bf;have AX:=Kd.R_seg Be.o (D:Int) (dT am) (by have h_:(D:Int)<((J.length:Int):Int):=dT am;first|exact h_|(have e_:=(Kd.R_reads' U.o).1;omega)|simpa using h_) (seg:=[.int .i64 Y]) (j:=0) AV At (show 1≤4 from by decide) (x':=(⟨Y,(rd_T135 J D).f1,(rd_T135 J D).f2,(rd_T135 J D).f3⟩:S135)) (k135_mkM _ _ _ (⟨Y,(rd_T135 J D).f1,(rd_T135 J D).f2,(rd_T135 J D).f3⟩:S135)) (fun _ hk=>hk);have Av:=At 0 _ rfl;(try simp only[show(k135).sz=4 from rfl,Nat.mul_one,Nat.add_zero]at Av);have Cj:=AW 0;(try simp only[show(k135).sz=4 from rfl,Nat.mul_one,Nat.add_zero]at Cj);clear AV At AW Bf
     go_wp2_with (first|((with_reducible refine gate_store (t:=3) (p:=16) rfl ?_);refine store_event (t:=3) (p:=16) (v:=?vo_w13) (w1:=(wr.setCell ⟨X,(D:Int).toNat*4,none⟩ (.int .i64 Y))) ?hg ?ho ?hn ?hr ?_;(case ho=>rfl);(case hg=>rfl);(case hn=>rfl);(case hr=>first|(go_simp;done)|(go_simp;rfl));intro B5 hw;have hg:wr.grownBy B5 (some X):=(by rw[hw];exact AX.2);have hp_:Kd.R k135 135 B5 w0.heap.size (fun k_=>(Z k_∨w.heap.size≤k_)) (.slice (some ⟨X,0,none⟩) J.length A1) A3:=(by rw[hw,Da.o];exact AX.1);clear AX;replace HB:=aK ((by rw[hw];exact below_set (HB.o) B8.o:Below w0.heap.size w0 B5));replace HK:=aK (Kept.of_grown (S:=(fun k_=>Z k_)) hg (by repeat (first|(with_reducible first|exact HK.o|apply Kept.alloc|apply Kept.drewN|apply Kept.drew)|exact HK.o)) (fun k_ e_=>(U.out.1 k_ e_)));replace U:=aK (hp_);clear hg hw hp_)|((with_reducible refine gc 81 ?_);refine goesY (some 22) rfl Tryz.func81 ?_;(with_reducible refine mo (laws_markText.calls k1 (wrap64 (Y+1)) AJ _ A6.o) ?_);intro A2 hb;replace U:=rb U hb;replace HK:=aK (Kept.below (S:=(fun k_=>Z k_)) (by repeat (first|(with_reducible first|exact HK.o|apply Kept.alloc|apply Kept.drewN|apply Kept.drew)|exact HK.o)) hb);replace HB:=bs (w:=w0) hb;have AQ:0≤(D:Int):=dT am;have AR:(D:Int)<((J.length:Int):Int):=dT am;obtain⟨Dk,Ba,Bb,Ah,Ai⟩:=Kd.R_elem U.o z135 (D:Int) AQ AR;obtain rfl:=k135_openM Bb;have B_:A2.cell? ⟨X,(D:Int).toNat*4,none⟩=some (.int .i64 ((rd_T135 A3 D).f0)):=Ah 0 _ rfl;have BA:A2.cell? ⟨X,(D:Int).toNat*4+1,none⟩=some (.string ((rd_T135 A3 D).f1)):=Ah 1 _ rfl;have Cc:A2.cell? ⟨X,(D:Int).toNat*4+2,none⟩=some (.string ((rd_T135 A3 D).f2)):=Ah 2 _ rfl;have Dw:A2.cell? ⟨X,(D:Int).toNat*4+3,none⟩=some (.int .i64 ((rd_T135 A3 D).f3)):=Ah 3 _ rfl;have BY:A2.frozen? ⟨X,(D:Int).toNat*4,none⟩=false:=Ai 0;have BZ:A2.frozen? ⟨X,(D:Int).toNat*4+1,none⟩=false:=Ai 1;have D7:A2.frozen? ⟨X,(D:Int).toNat*4+2,none⟩=false:=Ai 2;have DT:A2.frozen? ⟨X,(D:Int).toNat*4+3,none⟩=false:=Ai 3;clear Ba Ah Ai Bb;replace AQ:=eq_true AQ;replace AR:=eq_true AR;have Bc:=aK (show Kd.R k135 135 A2 w0.heap.size (fun k_=>(Z k_∨w.heap.size≤k_)) (.slice (some ⟨X,0,none⟩) J.length A1) A3 from(rpR U.o));obtain⟨Dn,AS,Bd,As,AT⟩:=Kd.R_elem Bc.o z135 (D:Int) (dT am) (by have h_:(D:Int)<((J.length:Int):Int):=dT am;first|exact h_|(have e_:=(Kd.R_reads' U.o).1;omega)|simpa using h_);obtain rfl:=k135_openM Bd;have AU:=Kd.R_seg Bc.o (D:Int) (dT am) (by have h_:(D:Int)<((J.length:Int):Int):=dT am;first|exact h_|(have e_:=(Kd.R_reads' U.o).1;omega)|simpa using h_) (seg:=[.string AJ]) (j:=1) AS As (show 2≤4 from by decide) (x':=(⟨(rd_T135 A3 D).f0,AJ,(rd_T135 A3 D).f2,(rd_T135 A3 D).f3⟩:S135)) (k135_mkM _ _ _ (⟨(rd_T135 A3 D).f0,AJ,(rd_T135 A3 D).f2,(rd_T135 A3 D).f3⟩:S135)) (fun _ hk=>hk);have Aw:=As 1 _ rfl;(try simp only[show(k135).sz=4 from rfl,Nat.mul_one,Nat.add_zero]at Aw);have Ck:=AT 1;(try simp only[show(k135).sz=4 from rfl,Nat.mul_one,Nat.add_zero]at Ck);clear AS As AT Bd)|((with_reducible refine gate_store (t:=9) (p:=24) rfl ?_);refine store_event (t:=9) (p:=24) (v:=?vo_w16) (w1:=(A2.setCell ⟨X,(D:Int).toNat*4+1,none⟩ (.string AJ))) ?hg ?ho ?hn ?hr ?_;(case ho=>rfl);(case hg=>rfl);(case hn=>rfl);(case hr=>first|(go_simp;done)|(go_simp;rfl));intro Aj hw;have hg:A2.grownBy Aj (some X):=(by rw[hw];exact AU.2);have hp_:Kd.R k135 135 Aj w0.heap.size (fun k_=>(Z k_∨w.heap.size≤k_)) (.slice (some ⟨X,0,none⟩) J.length A1) Aa:=(by rw[hw,Db.o];exact AU.1);clear AU;replace HB:=aK ((by rw[hw];exact below_set (HB.o) B8.o:Below w0.heap.size w0 Aj));replace HK:=aK (Kept.of_grown (S:=(fun k_=>Z k_)) hg (by repeat (first|(with_reducible first|exact HK.o|apply Kept.alloc|apply Kept.drewN|apply Kept.drew)|exact HK.o)) (fun k_ e_=>(U.out.1 k_ e_)));replace U:=aK (hp_);clear hg hw hp_)|((with_reducible refine gc 81 ?_);refine goesY (some 30) rfl Tryz.func81 ?_;(with_reducible refine mo (laws_markText.calls k1 (wrap64 ((wrap64 (Y+1))+1)) AK _ A8.o) ?_);intro Ao hb;replace U:=rb U hb;replace HK:=aK (Kept.below (S:=(fun k_=>Z k_)) (by repeat (first|(with_reducible first|exact HK.o|apply Kept.alloc|apply Kept.drewN|apply Kept.drew)|exact HK.o)) hb);replace HB:=bs (w:=w0) hb;have Bn:0≤(D:Int):=dT am;have Bo:(D:Int)<((J.length:Int):Int):=dT am;obtain⟨Ee,Dt,Du,Bg,Bh⟩:=Kd.R_elem U.o z135 (D:Int) Bn Bo;obtain rfl:=k135_openM Du;have Ce:Ao.cell? ⟨X,(D:Int).toNat*4,none⟩=some (.int .i64 ((rd_T135 Aa D).f0)):=Bg 0 _ rfl;have Cf:Ao.cell? ⟨X,(D:Int).toNat*4+1,none⟩=some (.string ((rd_T135 Aa D).f1)):=Bg 1 _ rfl;have Cg:Ao.cell? ⟨X,(D:Int).toNat*4+2,none⟩=some (.string ((rd_T135 Aa D).f2)):=Bg 2 _ rfl;have Dx:Ao.cell? ⟨X,(D:Int).toNat*4+3,none⟩=some (.int .i64 ((rd_T135 Aa D).f3)):=Bg 3 _ rfl;have DU:Ao.frozen? ⟨X,(D:Int).toNat*4,none⟩=false:=Bh 0;have DV:Ao.frozen? ⟨X,(D:Int).toNat*4+1,none⟩=false:=Bh 1;have DW:Ao.frozen? ⟨X,(D:Int).toNat*4+2,none⟩=false:=Bh 2;have DX:Ao.frozen? ⟨X,(D:Int).toNat*4+3,none⟩=false:=Bh 3;clear Dt Bg Bh Du;replace Bn:=eq_true Bn;replace Bo:=eq_true Bo;have CH:=aK (show Kd.R k135 135 Ao w0.heap.size (fun k_=>(Z k_∨w.heap.size≤k_)) (.slice (some ⟨X,0,none⟩) J.length A1) Aa from(rpR U.o));obtain⟨E6,C5,CI,Bv,C6⟩:=Kd.R_elem CH.o z135 (D:Int) (dT am) (by have h_:(D:Int)<((J.length:Int):Int):=dT am;first|exact h_|(have e_:=(Kd.R_reads' U.o).1;omega)|simpa using h_);obtain rfl:=k135_openM CI;have C7:=Kd.R_seg CH.o (D:Int) (dT am) (by have h_:(D:Int)<((J.length:Int):Int):=dT am;first|exact h_|(have e_:=(Kd.R_reads' U.o).1;omega)|simpa using h_) (seg:=[.string AK]) (j:=2) C5 Bv (show 3≤4 from by decide) (x':=(⟨(rd_T135 Aa D).f0,(rd_T135 Aa D).f1,AK,(rd_T135 Aa D).f3⟩:S135)) (k135_mkM _ _ _ (⟨(rd_T135 Aa D).f0,(rd_T135 Aa D).f1,AK,(rd_T135 Aa D).f3⟩:S135)) (fun _ hk=>hk);have AZ:=Bv 2 _ rfl;(try simp only[show(k135).sz=4 from rfl,Nat.mul_one,Nat.add_zero]at AZ);have Cl:=C6 2;(try simp only[show(k135).sz=4 from rfl,Nat.mul_one,Nat.add_zero]at Cl);clear C5 Bv C6 CI)|((with_reducible refine gate_store (t:=9) (p:=32) rfl ?_);refine store_event (t:=9) (p:=32) (v:=?vo_w19) (w1:=(Ao.setCell ⟨X,(D:Int).toNat*4+2,none⟩ (.string AK))) ?hg ?ho ?hn ?hr ?_;(case ho=>rfl);(case hg=>rfl);(case hn=>rfl);(case hr=>first|(go_simp;done)|(go_simp;rfl));intro Ax hw;have hg:Ao.grownBy Ax (some X):=(by rw[hw];exact C7.2);have hp_:Kd.R k135 135 Ax w0.heap.size (fun k_=>(Z k_∨w.heap.size≤k_)) (.slice (some ⟨X,0,none⟩) J.length A1) Ab:=(by rw[hw,Dc.o];exact C7.1);clear C7;replace HB:=aK ((by rw[hw];exact below_set (HB.o) B8.o:Below w0.heap.size w0 Ax));replace HK:=aK (Kept.of_grown (S:=(fun k_=>Z k_)) hg (by repeat (first|(with_reducible first|exact HK.o|apply Kept.alloc|apply Kept.drewN|apply Kept.drew)|exact HK.o)) (fun k_ e_=>(U.out.1 k_ e_)));replace U:=aK (hp_);clear hg hw hp_;have De:0≤(D:Int):=dT am;have Df:(D:Int)<((J.length:Int):Int):=dT am;obtain⟨CC,Ar,AH,Ad,Ag⟩:=Kd.R_elem U.o z135 (D:Int) De Df;obtain rfl:=k135_openM AH;have Dy:Ax.cell? ⟨X,(D:Int).toNat*4,none⟩=some (.int .i64 ((rd_T135 Ab D).f0)):=Ad 0 _ rfl;have Dz:Ax.cell? ⟨X,(D:Int).toNat*4+1,none⟩=some (.string ((rd_T135 Ab D).f1)):=Ad 1 _ rfl;have D_:Ax.cell? ⟨X,(D:Int).toNat*4+2,none⟩=some (.string ((rd_T135 Ab D).f2)):=Ad 2 _ rfl;have DA:Ax.cell? ⟨X,(D:Int).toNat*4+3,none⟩=some (.int .i64 ((rd_T135 Ab D).f3)):=Ad 3 _ rfl;have AL:Ax.frozen? ⟨X,(D:Int).toNat*4,none⟩=false:=Ag 0;have DB:Ax.frozen? ⟨X,(D:Int).toNat*4+1,none⟩=false:=Ag 1;have DC:Ax.frozen? ⟨X,(D:Int).toNat*4+2,none⟩=false:=Ag 2;have DD:Ax.frozen? ⟨X,(D:Int).toNat*4+3,none⟩=false:=Ag 3;clear Ar Ad Ag AH;replace De:=eq_true De;replace Df:=eq_true Df;have CJ:=aK (show Kd.R k135 135 Ax w0.heap.size (fun k_=>(Z k_∨w.heap.size≤k_)) (.slice (some ⟨X,0,none⟩) J.length A1) Ab from(rpR U.o));obtain⟨E7,C8,CK,Bw,C9⟩:=Kd.R_elem CJ.o z135 (D:Int) (dT am) (by have h_:(D:Int)<((J.length:Int):Int):=dT am;first|exact h_|(have e_:=(Kd.R_reads' U.o).1;omega)|simpa using h_);obtain rfl:=k135_openM CK;have Ca:=Kd.R_seg CJ.o (D:Int) (dT am) (by have h_:(D:Int)<((J.length:Int):Int):=dT am;first|exact h_|(have e_:=(Kd.R_reads' U.o).1;omega)|simpa using h_) (seg:=[.int .i64 (wrap64 ((wrap64 ((wrap64 (Y+1))+1))+1))]) (j:=3) C8 Bw (show 4≤4 from by decide) (x':=(⟨(rd_T135 Ab D).f0,(rd_T135 Ab D).f1,(rd_T135 Ab D).f2,wrap64 ((wrap64 ((wrap64 (Y+1))+1))+1)⟩:S135)) (k135_mkM _ _ _ (⟨(rd_T135 Ab D).f0,(rd_T135 Ab D).f1,(rd_T135 Ab D).f2,wrap64 ((wrap64 ((wrap64 (Y+1))+1))+1)⟩:S135)) (fun _ hk=>hk);have Cm:=Bw 3 _ rfl;(try simp only[show(k135).sz=4 from rfl,Nat.mul_one,Nat.add_zero]at Cm);have Cn:=C9 3;(try simp only[show(k135).sz=4 from rfl,Nat.mul_one,Nat.add_zero]at Cn);clear C8 Bw C9 CK)|((with_reducible refine gate_store (t:=3) (p:=39) rfl ?_);refine store_event (t:=3) (p:=39) (v:=?vo_w21) (w1:=(Ax.setCell ⟨X,(D:Int).toNat*4+3,none⟩ (.int .i64 (wrap64 ((wrap64 ((wrap64 (Y+1))+1))+1))))) ?hg ?ho ?hn ?hr ?_;(case ho=>rfl);(case hg=>rfl);(case hn=>rfl);(case hr=>first|(go_simp;done)|(go_simp;rfl));intro Dg hw;have hg:Ax.grownBy Dg (some X):=(by rw[hw];exact Ca.2);have hp_:Kd.R k135 135 Dg w0.heap.size (fun k_=>(Z k_∨w.heap.size≤k_)) (.slice (some ⟨X,0,none⟩) J.length A1) CG:=(by rw[hw,Dd.o];exact Ca.1);clear Ca;replace HB:=aK ((by rw[hw];exact below_set (HB.o) B8.o:Below w0.heap.size w0 Dg));replace HK:=aK (Kept.of_grown (S:=(fun k_=>Z k_)) hg (by repeat (first|(with_reducible first|exact HK.o|apply Kept.alloc|apply Kept.drewN|apply Kept.drew)|exact HK.o)) (fun k_ e_=>(U.out.1 k_ e_)));replace U:=aK (hp_);clear hg hw hp_))
     go_roundg k1
     case measure=>have:=AM.o;omega
     case rel=>exact⟨(CG),(wrap64 ((wrap64 ((wrap64 ((wrap64 (Y+1))+1))+1))+1)),(wrap64 (D+1)),fa,fa,H',⟨by have:=AM.o;omega⟩,⟨rpR U.o⟩,⟨by repeat (first|(with_reducible first|exact HK.o|apply Kept.alloc|apply Kept.drewN|apply Kept.drew)|exact HK.o)⟩,⟨bl⟩⟩
    ·exact no c4 H
   ·rw[if_neg c3]at H;have Au:=df c3;clear c3;obtain⟨rfl,rfl⟩:=t2 H;obtain⟨B7,A1,Am⟩:=rs U;subst Am;go_wp2
    go_ret
    exact⟨fe,rpR U.o,bl,by repeat (first|(with_reducible first|exact HK.o|apply Kept.alloc|apply Kept.drewN|apply Kept.drew)|exact HK.o)⟩
end Go.Proofs.YtndbmllnkjngnaaGreat.PDs
