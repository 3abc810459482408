/- Functions of the program, each with its contract, written by a program out of the translation. -/
import Derived.Test.YtndbmllnkjngnaaGreatPDsx0
import Derived.Test.YtndbmllnkjngnaaGreatPDsx12
import Derived.Test.YtndbmllnkjngnaaGreatPDsx16
import Derived.Test.YtndbmllnkjngnaaGreatZip
namespace Go.Proofs.YtndbmllnkjngnaaGreat.PDs
open Go.RowKit Go.Proofs.YtndbmllnkjngnaaGreatW.PrintWords Go.Proofs.YtndbmllnkjngnaaGreatW.PrintLast Go.Proofs.YtndbmllnkjngnaaGreatW.PrintMore Go.Proofs.YtndbmllnkjngnaaGreat.Zip
attribute [local go_sem] max2_int min2_int max_two min_two max_three min_three max_four min_four
set_option linter.unusedVariables false
set_option linter.unusedSimpArgs false
set_option maxHeartbeats 8000000
set_option maxRecDepth 100000
def impl_names.l0:Nat→List (S133)→List (S135)→Int→Int→Option ((List (S133)))
 | 0,_,_,_,_=>none
 |k+1,x0,x9,Bg,AF=>if AF<Bg then(if 0≤AF then(if AF<(x9.length:Int)then((impl_applied.f k x0 ((rd_T135 x9 AF).f0) ((rd_T135 x9 AF).f1) ((rd_T135 x9 AF).f2) ((rd_T135 x9 AF).f3)).bind fun B6=>(impl_names.l0 k B6.1 x9 Bg (wrap64 (AF+1))))else(none))else(none))else(some x0)
def impl_names.f (k:Nat) (l0:List (S133)) (l1:List (S135)):Option ((List (S133))):=(impl_Link_125.f l0).bind fun AM=>(impl_names.l0 k AM l1 (l1.length:Int) 0)
theorem impl_names.calls (k:Nat) (A0:Option Addr) (c0:Nat) (l0:List (S133)) (A1:Option Addr) (c1:Nat) (l1:List (S135)) (r:List (S133)) (w:World) (Ak:Kd.C k133 w A0 l0.length l0) (AC:l0.length≤c0) (Bh:Kd.C k135 w A1 l1.length l1) (Bi:l1.length≤c1) (h:impl_names.f k l0 l1=some r) :
 Calls Tryz.prog 118 #[.slice A0 l0.length c0,.slice A1 l1.length c1] w fun e w'=>∃AD:Value,e = .returned (AD)∧Kd.R k133 133 w' w.heap.size (fun _=>True) AD r∧Below w.heap.size w w':=by
 have BA:=Tryz.underlying135;have AR:=aK Ak;have BB:=aK AC;clear Ak AC;have BC:=aK Bh;have BL:=aK Bi;clear Bh Bi;have HB:=aK (Below.refl w.heap.size w);have H:=h;unfold impl_names.f at H;clear h;obtain⟨AM,A3,H⟩:=bd H;have H':=aK H;clear H
 go_enter Tryz.func118,Tryz.ntmps118
 go_wp2_with (first|((with_reducible refine gc 125 ?_);refine goesW Tryz.func125 ?_;(with_reducible refine(impl_Link_125.calls _ _ l0 AM _ ?_ ?_ A3.o).mono ?_);exact ca AR.o;exact BB.o;rintro e w4 ⟨BH,rfl,Ac,hb⟩;refine⟨_,rfl,?_⟩;have B7:=rl HB Ac;replace HB:=bS HB hb))
 go_loopg [0,11] k (fun kq v0 BD w'=>∃(AN:List (S133)) (U:Int),BD = .int .i64 U∧Aside0 (impl_names.l0 kq AN l1 (l1.length:Int) U=some r)∧Aside0 (kq≤k)∧Aside0 (Kd.R k133 133 w' w.heap.size (fun _=>True) v0 AN)∧Aside0 (Below w.heap.size w w'))
 case atStart=>exact⟨(AM),(0),fa,H',⟨Nat.le_refl _⟩,⟨rpR B7.o⟩,⟨bl⟩⟩
 case round=>
  clear H';obtain⟨AN,U,rfl,HA,Bj,Ad,HB⟩:=hrel;cases gk with
  |zero=>exact absurd HA.o (by simp[impl_names.l0])
  |succ k1=>
   have H:=HA.o;clear HA;simp only[impl_names.l0]at H;by_cases c5:U<(l1.length:Int)
   ·rw[if_pos c5]at H;have Bk:=dt c5;clear c5;by_cases c6:0≤U
    ·rw[if_pos c6]at H;have Bl:=dt c6;clear c6;by_cases c7:U<(l1.length:Int)
     ·rw[if_pos c7]at H;have Bm:=dt c7;clear c7;replace H:=oB H;obtain⟨⟨B0,Bn⟩,Bo,H⟩:=H;dsimp only at H;have A8:=aK Bo;clear Bo;have H':=aK H;clear H;have AJ:0≤(U:Int):=dT am;have AK:U<(l1.length:Int):=dT am;obtain⟨AO,B8,Ae,Af,AP,AQ⟩:=at_T135 BC.o U AJ AK;cases B8;replace Ae:=cz HB Ae;replace Af:=cz HB Af;replace AP:=cz HB AP;replace AQ:=cz HB AQ;replace AJ:=eq_true AJ;replace AK:=eq_true AK
      go_wp2_with (first|((with_reducible refine gd 6 ?_);refine boxW ?_;intro Bp hg Bq hbox hb;replace Ad:=rb Ad hb;have AG:=aK hbox;have BI:=gW HB hg;replace HB:=bS HB hb;clear hb hbox hg;have:=cf4 AG;obtain⟨B1,B2,rfl⟩:=rs Ad)|((with_reducible refine gc 123 ?_);refine goesW Tryz.func123 ?_;(with_reducible refine(impl_applied.calls k1 _ _ AN ((rd_T135 l1 U).f0) ((rd_T135 l1 U).f1) ((rd_T135 l1 U).f2) ((rd_T135 l1 U).f3) B0 Bn _ ?_ ?_ A8.o).mono ?_);exact cR (rpR (f4 Ad AG));exact cl Ad;rintro e Br ⟨BM,rfl,Ac,hb⟩;refine⟨_,rfl,?_⟩;have Bs:=rl HB (Kd.R_new' Ac (Kd.R_lt (rpR (f4 Ad AG))));replace Ad:=re (f4 Ad AG) Ac hb;replace AG:=aK (blk_below (g:=Bp) (o:=.cells #[.int .i64 ((rd_T135 l1 U).f0),.string ((rd_T135 l1 U).f1),.string ((rd_T135 l1 U).f2),.int .i64 ((rd_T135 l1 U).f3)] 135 (0,0)) bkk hb);replace HB:=bS HB hb))
      go_roundg k1
      case measure=>have:=Bj.o;omega
      case rel=>exact⟨(B0),(wrap64 (U+1)),fa,H',⟨by have:=Bj.o;omega⟩,⟨rpR (rM Bs.o (fun _ hk=>trivial))⟩,⟨bl⟩⟩
     ·exact no c7 H
    ·exact no c6 H
   ·rw[if_neg c5]at H;have Bk:=df c5;clear c5;obtain rfl:=oj H;go_wp2
    go_ret
    exact⟨_,fe,rpR Ad.o,bl⟩
def impl_find.f (k:Nat) (A6:Int) (A7:Int) (A5:List (S130)) (Z:List (S133)) (X:List (S135)) (a1:ByteArray):Option (Int):=(impl_names.f k Z X).bind fun A9=>((impl_linkAt.f A9 a1).bind fun AB=>(if AB.2=true then(if 0≤AB.1 then(if AB.1<(A9.length:Int)then((impl_inodeAt.f A6 A7 A5 Z X ((rd_T133 A9 AB.1).f1)).bind fun AX=>(some AX))else(none))else(none))else(some (-1))))
def impl_find.T5:Bool×List (List Nat×List Nat):=(true,[([],[]),([],[]),([],[]),([1,2],[1,2]),([3],[3]),([4],[4]),([0,5],[0,5]),([6,6,0,1,2,3,4,5,6],[6])])
def impl_find.B5:List Nat:=[0,0,0,6,14,30,63,127]
theorem impl_find.tab5:rtab .any (opsOf Tryz.f92 5)=impl_find.T5:=by kernel_rfl
theorem impl_find.bits5:waitsOk impl_find.T5.2 impl_find.B5=true:=by kernel_rfl
theorem impl_find.calls (k:Nat) (A6:Int) (A7:Int) (Az:Option Addr) (A_:Nat) (A5:List (S130)) (Al:Option Addr) (Am:Nat) (Z:List (S133)) (Ai:Option Addr) (Aj:Nat) (X:List (S135)) (a1:ByteArray) (r:Int) (w:World) (An:Kd.C k130 w Az A5.length A5) (Ap:A5.length≤A_) (Aq:Kd.C k133 w Al Z.length Z) (Ar:Z.length≤Am) (As:Kd.C k135 w Ai X.length X) (At:X.length≤Aj) (h:impl_find.f k A6 A7 A5 Z X a1=some r) :
 Calls Tryz.prog 92 #[.agg #[.int .i64 A6,.int .i64 A7,.slice Az A5.length A_,.slice Al Z.length Am,.slice Ai X.length Aj],.string a1] w fun e w'=>e = .returned (.int .i64 r)∧Below w.heap.size w w':=by
 have Bd:=Tryz.underlying35;have AH:=aK An;have AI:=aK Ap;clear An Ap;have Au:=aK Aq;have Av:=aK Ar;clear Aq Ar;have Aw:=aK As;have Ax:=aK At;clear As At;have HB:=aK (Below.refl w.heap.size w);have H:=h;unfold impl_find.f at H;clear h;obtain⟨A9,A3,H⟩:=bd H;replace H:=oB H;obtain⟨⟨Aa,Bt⟩,Bu,H⟩:=H;dsimp only at H;have A4:=aK Bu;clear Bu;by_cases c5:Bt=true
 ·subst c5;replace H:=iT H;by_cases c6:0≤Aa
  ·rw[if_pos c6]at H;have Bl:=dt c6;clear c6;by_cases c7:Aa<(A9.length:Int)
   ·rw[if_pos c7]at H;have Bm:=dt c7;clear c7;obtain⟨AX,A8,H⟩:=bd H;obtain rfl:=oj H
    go_enter Tryz.func92,Tryz.ntmps92
    (try go_wp2_with (first|((with_reducible refine gd 2 ?_);refine boxQ HB ?_;clear HB;intro Ah hg Bq D B9 HB hb;clear hb hg;have:=cf5 D)|((with_reducible refine gc 118 ?_);refine goesW Tryz.func118 ?_;(with_reducible refine(impl_names.calls k _ _ Z _ _ X A9 _ ?_ ?_ ?_ ?_ A3.o).mono ?_);exact cB Au HB;exact Av.o;exact cB Aw HB;exact Ax.o;rintro e Br ⟨Bv,rfl,Ac,hb⟩;refine⟨_,rfl,?_⟩;have Y:=rl HB Ac;replace D:=bv D hb;replace HB:=bS HB hb;obtain⟨B1,B2,rfl⟩:=rs Y)|((with_reducible refine gc 157 ?_);refine goesW Tryz.func157 ?_;(with_reducible refine mo (impl_linkAt.calls _ _ A9 a1 Aa _ _ ?_ ?_ A4.o) ?_);exact ca (cR Y.o);exact cl Y;intro Bw hb;replace Y:=rb Y hb;replace D:=bv D hb;replace HB:=bS HB hb)));replace Y:=dR Y;replace D:=dB D;replace HB:=dW HB;have AJ:0≤(Aa:Int):=dT am;have AK:Aa<(A9.length:Int):=dT am
    obtain⟨AO,B8,Ae,Af⟩:=at_T133 (Kd.R_reads' Y.o).2.2 Aa AJ AK;cases B8;replace AJ:=eq_true AJ;replace AK:=eq_true AK;refine start_ (n:=8) (S:=fun w'=>w'.cell? ⟨Ah,0,none⟩=some (.int .i64 A6)∧w'.cell? ⟨Ah,1,none⟩=some (.int .i64 A7)∧w'.cell? ⟨Ah,2,none⟩=some (.slice Az A5.length A_)∧w'.cell? ⟨Ah,3,none⟩=some (.slice Al Z.length Am)∧w'.cell? ⟨Ah,4,none⟩=some (.slice Ai X.length Aj)∧w'.cell? (AO.add ((Aa).toNat*2))=some (.string ((rd_T133 A9 Aa).f0))∧w'.cell? ⟨(AO.add ((Aa).toNat*2)).block,(AO.add ((Aa).toNat*2)).off+1,none⟩=some (.int .i64 ((rd_T133 A9 Aa).f1))) (ds:=[]) (bo 8 0) (by kernel_rfl) rfl rfl ⟨cb 0 D,cb 1 D,cb 2 D,cb 3 D,cb 4 D,Ae,Af⟩ (fun hHeld=>?_);refine with_tabW impl_find.tab5 impl_find.bits5 (fun HT_ HW_=>?_);generalize Bw.drew=BN at Y D HB Ae Af hHeld ⊢;refine pv 1 ?_;refine pv 2 ?_;refine pv 3 ?_;refine pv 4 ?_;refine tv 0 ?_;refine tv 5 ?_;refine oo 6 (fun K hK=>?_);refine goesV Tryz.func121 ?_
    (with_reducible refine(impl_inodeAt.calls A6 A7 _ _ A5 _ _ Z _ _ X ((rd_T133 A9 Aa).f1) AX _ ?_ ?_ ?_ ?_ ?_ ?_ A8.o).mono ?_);exact cB AH HB;exact AI.o;exact cB Au HB;exact Av.o;exact cB Aw HB;exact Ax.o;rintro e BO ⟨rfl,hb⟩;have Bx:=(hb.cell (bL _ _ (hHeld.2.2.2.2.2.1))).trans (hHeld.2.2.2.2.2.1);have By:=(hb.cell (bL _ _ (hHeld.2.2.2.2.2.2))).trans (hHeld.2.2.2.2.2.2);refine⟨_,rfl,?_⟩;replace Y:=rb Y hb;replace D:=bv D hb;replace HB:=bS HB hb;refine hK.out _ _ ⟨cb 0 D,cb 1 D,cb 2 D,cb 3 D,cb 4 D,Bx,By⟩ (fun hHeld=>?_);clear hK K;refine nm 27 ?_;refine pv 7 ?_;refine done_ (done_of HT_.o (by kernel_rfl)) ?_;(try go_wp2)
    go_ret
    exact⟨fe,bl⟩
   ·exact no c7 H
  ·exact no c6 H
 ·replace c5:=bF c5;subst c5;replace H:=iF H;obtain rfl:=oj H
  go_enter Tryz.func92,Tryz.ntmps92
  go_wp2_with (first|((with_reducible refine gd 2 ?_);refine boxQ HB ?_;clear HB;intro Ah hg Bq D B9 HB hb;clear hb hg;have:=cf5 D)|((with_reducible refine gc 118 ?_);refine goesW Tryz.func118 ?_;(with_reducible refine(impl_names.calls k _ _ Z _ _ X A9 _ ?_ ?_ ?_ ?_ A3.o).mono ?_);exact cB Au HB;exact Av.o;exact cB Aw HB;exact Ax.o;rintro e Br ⟨Bv,rfl,Ac,hb⟩;refine⟨_,rfl,?_⟩;have Y:=rl HB Ac;replace D:=bv D hb;replace HB:=bS HB hb;obtain⟨B1,B2,rfl⟩:=rs Y)|((with_reducible refine gc 157 ?_);refine goesW Tryz.func157 ?_;(with_reducible refine mo (impl_linkAt.calls _ _ A9 a1 Aa _ _ ?_ ?_ A4.o) ?_);exact ca (cR Y.o);exact cl Y;intro Bw hb;replace Y:=rb Y hb;replace D:=bv D hb;replace HB:=bS HB hb))
  go_ret
  exact⟨fe,bl⟩
def impl_isVote.f (X:Int):Option (Bool):=(impl_from.f X (-1) 4).bind fun Bc=>(some Bc)
theorem impl_isVote.calls (X:Int) (r:Bool) (w:World) (h:impl_isVote.f X=some r) :
 Calls Tryz.prog 135 #[.int .i64 X] w fun e w'=>e = .returned (.bool r)∧Drawn0 w w':=by
 have H:=h;unfold impl_isVote.f at H;clear h;obtain⟨Bc,A2,H⟩:=bd H;obtain rfl:=oj H
 go_enter Tryz.func135,Tryz.ntmps135
 go_wp2_with (first|((with_reducible refine gc 119 ?_);refine goesW Tryz.func119 ?_;(with_reducible refine mo (impl_from.calls X (-1) 4 Bc _ A2.o) ?_);rintro _ ⟨nd,rfl⟩))
 go_ret
 exact⟨fa,fd⟩
def impl_isTerm.f (X:Int):Option (Bool):=(impl_from.f X 1 100000).bind fun Bd=>(some Bd)
theorem impl_isTerm.calls (X:Int) (r:Bool) (w:World) (h:impl_isTerm.f X=some r) :
 Calls Tryz.prog 143 #[.int .i64 X] w fun e w'=>e = .returned (.bool r)∧Drawn0 w w':=by
 have H:=h;unfold impl_isTerm.f at H;clear h;obtain⟨Bd,A2,H⟩:=bd H;obtain rfl:=oj H
 go_enter Tryz.func143,Tryz.ntmps143
 go_wp2_with (first|((with_reducible refine gc 119 ?_);refine goesW Tryz.func119 ?_;(with_reducible refine mo (impl_from.calls X 1 100000 Bd _ A2.o) ?_);rintro _ ⟨nd,rfl⟩))
 go_ret
 exact⟨fa,fd⟩
def impl_isPlace.f (X:Int) (D:Int):Option (Bool):=if X=0 then(if D=0 then(some true)else((impl_from.f X 1 100000).bind fun Be=>(if Be=true then((impl_isTerm.f D).bind fun Bf=>(some Bf))else(some false))))else((impl_from.f X 1 100000).bind fun Bg=>(if Bg=true then((impl_isTerm.f D).bind fun Bh=>(some Bh))else(some false)))
theorem impl_isPlace.z1 {p:Prop} (h:p:=by
 go_enter Tryz.func136,Tryz.ntmps136
 go_wp2_with (first|(go_at_call 119;(with_reducible refine(impl_from.calls X 1 100000 _ _ A5.o).mono ?_);rintro e w' ⟨rfl,⟨nd,rfl⟩⟩)|(go_at_call 143;(with_reducible refine(impl_isTerm.calls D Bf _ A7.o).mono ?_);rintro e w' ⟨rfl,⟨nd,rfl⟩⟩)|(go_at_call 119;(with_reducible refine(impl_from.calls X 1 100000 _ _ A8.o).mono ?_);rintro e w' ⟨rfl,⟨nd,rfl⟩⟩)|(go_at_call 143;(with_reducible refine(impl_isTerm.calls D Bh _ Bi.o).mono ?_);rintro e w' ⟨rfl,⟨nd,rfl⟩⟩))
 go_ret
 exact⟨fa,fd⟩):p:=h
theorem impl_isPlace.calls (X:Int) (D:Int) (r:Bool) (w:World) (h:impl_isPlace.f X D=some r) :
 Calls Tryz.prog 136 #[.int .i64 X,.int .i64 D] w fun e w'=>e = .returned (.bool r)∧Drawn0 w w':=by
 have H:=h;unfold impl_isPlace.f at H;clear h;by_cases c3:X=0
 ·rw[if_pos c3]at H;have BL:=bT c3;have C5:=bE c3;clear c3;by_cases c4:D=0
  ·rw[if_pos c4]at H;have B4:=bT c4;have C6:=bE c4;clear c4;obtain rfl:=oj H
   go_enter Tryz.func136,Tryz.ntmps136
   go_wp2
   go_ret
   exact⟨fa,fd⟩
  ·rw[if_neg c4]at H;have B4:=bN c4;have C6:=bQ c4;obtain⟨Be,A5,H⟩:=bd H;by_cases c6:Be=true
   ·subst c6;replace H:=iT H;obtain⟨Bf,A7,H⟩:=bd H;obtain rfl:=oj H
    exact impl_isPlace.z1
   ·replace c6:=bF c6;subst c6;replace H:=iF H;obtain rfl:=oj H
    exact impl_isPlace.z1
 ·rw[if_neg c3]at H;have BL:=bN c3;have C5:=bQ c3;obtain⟨Bg,A8,H⟩:=bd H;by_cases c9:Bg=true
  ·subst c9;replace H:=iT H;obtain⟨Bh,Bi,H⟩:=bd H;obtain rfl:=oj H
   exact impl_isPlace.z1
  ·replace c9:=bF c9;subst c9;replace H:=iF H;obtain rfl:=oj H
   exact impl_isPlace.z1
def impl_termsOk.l0:Nat→Int→Int→List (S115)→Int→Int→Option (Bool)
 | 0,_,_,_,_,_=>none
 |k+1,x1,x2,x9,C7,AL=>if AL<C7 then(if 0≤AL then(if AL<(x9.length:Int)then(if((rd_T115 x9 AL).f0)<1 then(some false)else((impl_from.f ((rd_T115 x9 AL).f0) x1 x2).bind fun Bj=>(if Bj=true then(if(((rd_T115 x9 AL).f1).size:Int)>900 then(some false)else(impl_termsOk.l0 k ((rd_T115 x9 AL).f0) x2 x9 C7 (wrap64 (AL+1))))else(some false))))else(none))else(none))else(some true)
def impl_termsOk.f (k:Nat) (l0:List (S115)) (D:Int) (a2:Int):Option (Bool):=impl_termsOk.l0 k D a2 l0 (l0.length:Int) 0
theorem impl_termsOk.z1 {p:Prop} (h:p:=by
 go_wp2_with (first|((with_reducible refine gd 8 ?_);(try (refine gate_guard rfl ?_;dsimp only));refine boxQ HB ?_;clear HB;intro Cr hg Bk BP Cs HB hb;clear hb hg;have:=cf2 BP)|(go_at_call 119;(with_reducible refine(impl_from.calls ((rd_T115 l0 Y).f0) B5 a2 _ _ Bi.o).mono ?_);rintro e w' ⟨rfl,⟨nd,rfl⟩⟩))
 (first|(have _:=BQ;go_ret;exact⟨fe,bl⟩)|(have _:=Ct;(go_roundg k1);(case measure=>have:=AB.o;omega);(case rel=>exact⟨((rd_T115 l0 Y).f0),(wrap64 (Y+1)),fa,fa,H',⟨by have:=AB.o;omega⟩,⟨bl⟩⟩)))):p:=h
theorem impl_termsOk.calls (k:Nat) (A0:Option Addr) (c0:Nat) (l0:List (S115)) (D:Int) (a2:Int) (r:Bool) (w:World) (C8:Kd.C k115 w A0 l0.length l0) (C9:l0.length≤c0) (h:impl_termsOk.f k l0 D a2=some r) :
 Calls Tryz.prog 137 #[.slice A0 l0.length c0,.int .i64 D,.int .i64 a2] w fun e w'=>e = .returned (.bool r)∧Below w.heap.size w w':=by
 have Cu:=Tryz.underlying115;have Cv:=aK C8;have CW:=aK C9;clear C8 C9;have HB:=aK (Below.refl w.heap.size w);have H:=h;unfold impl_termsOk.f at H;clear h;have H':=aK H;clear H
 go_enter Tryz.func137,Tryz.ntmps137
 go_wp2
 go_loopg [1,11] k (fun kq v1 Cw w'=>∃(B5:Int) (Y:Int),v1 = .int .i64 B5∧Cw = .int .i64 Y∧Aside0 (impl_termsOk.l0 kq B5 a2 l0 (l0.length:Int) Y=some r)∧Aside0 (kq≤k)∧Aside0 (Below w.heap.size w w'))
 case atStart=>exact⟨(D),(0),fa,fa,H',⟨Nat.le_refl _⟩,⟨bl⟩⟩
 case round=>
  clear H';obtain⟨B5,Y,rfl,rfl,HA,AB,HB⟩:=hrel;cases gk with
  |zero=>exact absurd HA.o (by simp[impl_termsOk.l0])
  |succ k1=>
   have H:=HA.o;clear HA;simp only[impl_termsOk.l0]at H;by_cases c4:Y<(l0.length:Int)
   ·rw[if_pos c4]at H;have B4:=dt c4;clear c4;by_cases c5:0≤Y
    ·rw[if_pos c5]at H;have Ca:=dt c5;clear c5;by_cases c6:Y<(l0.length:Int)
     ·rw[if_pos c6]at H;have Ah:=dt c6;clear c6;have Hq_:=aK H;clear H;have Bl:0≤(Y:Int):=dT am;have Bm:Y<(l0.length:Int):=dT am;obtain⟨Cx,Cb,AM,AN⟩:=at_T115 Cv.o Y Bl Bm;cases Cb;replace AM:=cz HB AM;replace AN:=cz HB AN;replace Bl:=eq_true Bl;replace Bm:=eq_true Bm;have H:=Hq_.o;clear Hq_;by_cases c7:((rd_T115 l0 Y).f0)<1
      ·rw[if_pos c7]at H;have AO:=dt c7;(try rw[AO]);clear c7;obtain rfl:=oj H;have BQ:=trivial;exact impl_termsOk.z1
      ·rw[if_neg c7]at H;have AO:=df c7;(try rw[AO]);clear c7;obtain⟨Bj,Bi,H⟩:=bd H;by_cases AC:Bj=true
       ·subst AC;replace H:=iT H;by_cases B9:(((rd_T115 l0 Y).f1).size:Int)>900
        ·rw[if_pos B9]at H;have AU:=dt B9;(try rw[AU]);have AV:decide (900<((rd_T115 l0 Y).f1).size)=true:=dt (by omega);(try rw[AV]);clear B9;obtain rfl:=oj H;have BQ:=trivial;exact impl_termsOk.z1
        ·rw[if_neg B9]at H;have AU:=df B9;(try rw[AU]);have AV:decide (900<((rd_T115 l0 Y).f1).size)=false:=df (by omega);(try rw[AV]);clear B9;have H':=aK H;clear H;have Ct:=trivial;exact impl_termsOk.z1
       ·replace AC:=bF AC;subst AC;replace H:=iF H;obtain rfl:=oj H;have BQ:=trivial;exact impl_termsOk.z1
     ·exact no c6 H
    ·exact no c5 H
   ·rw[if_neg c4]at H;have B4:=df c4;clear c4;obtain rfl:=oj H;go_wp2
    go_ret
    exact⟨fe,bl⟩
def impl_WalOk.f (k:Nat) (Z:Int) (A9:Int) (Ay:Int) (Ak:Int) (U:List (S115)):Option (Bool):=(impl_from.f Z 0 100000).bind fun Bn=>(if Bn=true then((impl_isVote.f A9).bind fun Bo=>(if Bo=true then((impl_isPlace.f Ay Ak).bind fun Bp=>(if Bp=true then(if Ak≤Z then(if(U.length:Int)≤60 then((impl_termsOk.f k U Ak Z).bind fun Bq=>(if Bq=true then(some (decide ((wrap64 (Ay+(U.length:Int)))≤100000)))else(some false)))else(some false))else(some false))else(some false)))else(some false)))else(some false))
theorem impl_WalOk.z1 {p:Prop} (h:p:=by
 go_enter Tryz.func75,Tryz.ntmps75
 go_wp2_with (first|((with_reducible refine gd 1 ?_);(try (refine gate_guard rfl ?_;dsimp only));refine boxQ HB ?_;clear HB;intro Cy hg Bk AD Cz HB hb;clear hb hg;have:=cf5 AD)|((with_reducible refine gc 119 ?_);refine goesW Tryz.func119 ?_;(with_reducible refine mo (impl_from.calls Z 0 100000 _ _ A2.o) ?_);rintro _ ⟨nd,rfl⟩)|(go_at_call 135;(with_reducible refine(impl_isVote.calls A9 _ _ A4.o).mono ?_);rintro e w' ⟨rfl,⟨nd,rfl⟩⟩)|(go_at_call 136;(with_reducible refine(impl_isPlace.calls Ay Ak _ _ A6.o).mono ?_);rintro e w' ⟨rfl,⟨nd,rfl⟩⟩)|(go_at_call 137;(with_reducible refine(impl_termsOk.calls k _ _ U Ak Z _ _ ?_ ?_ Bi.o).mono ?_);exact ca (Kd.C_below AE.o bl);exact AF.o;rintro e BR ⟨rfl,hb⟩;replace AD:=bv AD hb;replace HB:=bS HB hb;have:=cf5 AD))
 go_ret
 exact⟨fe,bl⟩):p:=h
theorem impl_WalOk.calls (k:Nat) (Z:Int) (A9:Int) (Ay:Int) (Ak:Int) (Ao:Option Addr) (Ap:Nat) (U:List (S115)) (r:Bool) (w:World) (Aq:Kd.C k115 w Ao U.length U) (Ar:U.length≤Ap) (h:impl_WalOk.f k Z A9 Ay Ak U=some r) :
 Calls Tryz.prog 75 #[.agg #[.int .i64 Z,.int .i64 A9,.int .i64 Ay,.int .i64 Ak,.slice Ao U.length Ap]] w fun e w'=>e = .returned (.bool r)∧Below w.heap.size w w':=by
 have CM:=Tryz.underlying52;have AE:=aK Aq;have AF:=aK Ar;clear Aq Ar;have HB:=aK (Below.refl w.heap.size w);have H:=h;unfold impl_WalOk.f at H;clear h;obtain⟨Bn,A2,H⟩:=bd H;by_cases c3:Bn=true
 ·subst c3;replace H:=iT H;obtain⟨Bo,A4,H⟩:=bd H;by_cases c5:Bo=true
  ·subst c5;replace H:=iT H;obtain⟨Bp,A6,H⟩:=bd H;by_cases c7:Bp=true
   ·subst c7;replace H:=iT H;by_cases c8:Ak≤Z
    ·rw[if_pos c8]at H;have Br:=dt c8;clear c8;by_cases c9:(U.length:Int)≤60
     ·rw[if_pos c9]at H;have BM:=dt c9;have BN:decide (U.length≤60)=true:=dt (by omega);clear c9;obtain⟨Bq,Bi,H⟩:=bd H;by_cases AC:Bq=true
      ·subst AC;replace H:=iT H;obtain rfl:=oj H
       exact impl_WalOk.z1
      ·replace AC:=bF AC;subst AC;replace H:=iF H;obtain rfl:=oj H
       exact impl_WalOk.z1
     ·rw[if_neg c9]at H;have BM:=df c9;have BN:decide (U.length≤60)=false:=df (by omega);clear c9;obtain rfl:=oj H
      exact impl_WalOk.z1
    ·rw[if_neg c8]at H;have Br:=df c8;clear c8;obtain rfl:=oj H
     exact impl_WalOk.z1
   ·replace c7:=bF c7;subst c7;replace H:=iF H;obtain rfl:=oj H
    exact impl_WalOk.z1
  ·replace c5:=bF c5;subst c5;replace H:=iF H;obtain rfl:=oj H
   exact impl_WalOk.z1
 ·replace c3:=bF c3;subst c3;replace H:=iF H;obtain rfl:=oj H
  exact impl_WalOk.z1
mutual
def impl_Fixed.j0:Nat→Int→Int→Bool→Option (ByteArray)
 | 0,_,_,_=>none
 |k+1,x0,x1,CD=>if CD=true then(some (⟨#[]⟩:ByteArray))else(impl_Fixed.l0 k x0 (([]:List Int)) (wrap64 (x1-1)))
def impl_Fixed.l0:Nat→Int→List Int→Int→Option (ByteArray)
 | 0,_,_,_=>none
 |k+1,x0,x5,x6=>if x6≥0 then(if 0≤(wrap64 (8*x6))then(if x5.length<140737488355328 then(impl_Fixed.l0 k x0 (x5 ++ [(shr .i64 x0 (wrap64 (8*x6)))%256]) (wrap64 (x6-1)))else(none))else(none))else(some (strOfNums x5))
end
def impl_Fixed.f (k:Nat) (X:Int) (D:Int):Option (ByteArray):=(impl_from.f D 1 7).bind fun BE=>(if BE=true then(if X<0 then(impl_Fixed.j0 k X D true)else(if 0≤(wrap64 (8*D))then(impl_Fixed.j0 k X D ((shr .i64 X (wrap64 (8*D))) != 0))else(none)))else(impl_Fixed.j0 k X D true))
theorem impl_Fixed.z1 {p:Prop} (h:p:=by
 go_wp2_with (first|((with_reducible refine gc 119 ?_);refine goesW Tryz.func119 ?_;(with_reducible refine mo (impl_from.calls D 1 7 _ _ A4.o) ?_);rintro _ ⟨nd,rfl⟩))
 go_meet
 case rel=>exact⟨_,(true),fa,H',⟨by first|omega|exact Nat.le_refl _⟩,⟨bl⟩⟩):p:=h
theorem impl_Fixed.calls (k:Nat) (X:Int) (D:Int) (r:ByteArray) (w:World) (h:impl_Fixed.f k X D=some r) :
 Calls Tryz.prog 145 #[.int .i64 X,.int .i64 D] w fun e w'=>e = .returned (.string r)∧Below w.heap.size w w':=by
 have HB:=aK (Below.refl w.heap.size w);have H:=h;unfold impl_Fixed.f at H;clear h;have BY:=aK H;clear H
 go_enter Tryz.func145,Tryz.ntmps145
 go_upto_region 1 with(fail)
 go_cut [20] (fun CE wc=>∃(kq:Nat) (AI:Bool),CE = .bool AI∧Aside0 (impl_Fixed.j0 kq X D AI=some r)∧Aside0 (kq≤k)∧Aside0 (Below w.heap.size w wc))
 case first=>
  have H:=BY.o;clear BY;obtain⟨BE,A4,H⟩:=bd H;by_cases c5:BE=true
  ·subst c5;replace H:=iT H;by_cases c6:X<0
   ·rw[if_pos c6]at H;have Ah:=dt c6;clear c6;(first|rw[Ah]|(simp only[i64_w,i32_w];rw[Ah])|skip);have H':=aK H;clear H;exact impl_Fixed.z1
   ·rw[if_neg c6]at H;have Ah:=df c6;clear c6;(first|rw[Ah]|(simp only[i64_w,i32_w];rw[Ah])|skip);obtain⟨Ba,B6⟩:∃j_:Int,(wrap64 (8*D))=j_:=⟨_,rfl⟩;(first|rw[B6]at H|simp only[B6]at H)
    (try rw[B6]at A4);have CF:(IntKind.i64.wrap (8*D))=Ba:=(i64_w _).trans B6;by_cases c8:0≤(Ba)
    ·rw[if_pos c8]at H;have Br:=eq_true c8;have Cg:=dt c8;clear c8;obtain⟨BZ,Az⟩:∃j_:Int,(shr .i64 X (Ba))=j_:=⟨_,rfl⟩;(first|rw[Az]at H|simp only[Az]at H)
     (try rw[Az]at A4);have CG:(X/2 ^ min (Ba).toNat 64)=BZ:=Az;have CH:(Ba)≤64→(X/2 ^ (Ba).toNat)=BZ:=shr_small Az;have H':=aK H;clear H;go_wp2_with (first|((with_reducible refine gc 119 ?_);refine goesW Tryz.func119 ?_;(with_reducible refine mo (impl_from.calls D 1 7 _ _ A4.o) ?_);rintro _ ⟨nd,rfl⟩))
     go_meet
     case rel=>exact⟨_,(((BZ) != 0)),(by first|rfl|(simp;done)|(simp only[←Az]<;>(first|rfl|simp))|(simp[*];done)),H',⟨by first|omega|exact Nat.le_refl _⟩,⟨bl⟩⟩
    ·exact no c8 H
  ·replace c5:=bF c5;subst c5;replace H:=iF H;have H':=aK H;clear H;exact impl_Fixed.z1
 case rest=>
  clear BY;obtain⟨kq,AI,rfl,HA,Ch,HB⟩:=hcut;cases kq with
  |zero=>exact absurd HA.o (by simp[impl_Fixed.j0])
  |succ C0=>
   have H:=HA.o;clear HA;simp only[impl_Fixed.j0]at H;by_cases c10:AI=true
   ·subst c10;replace H:=iT H;obtain rfl:=oj H;go_wp2
    go_ret
    exact⟨fe,bl⟩
   ·replace c10:=bF c10;subst c10;replace H:=iF H;obtain⟨BO,Av⟩:∃y_:List Int,y_=(([]:List Int)):=⟨_,rfl⟩;replace H:(impl_Fixed.l0 C0 X BO (wrap64 (D-1)))=some r:=by first|(rw[Av];with_reducible exact H)|(have AW:=(Option.bind_some _ _).symm.trans H;rw[Av];with_reducible exact AW)|(have AW:=(Option.bind_some _ _).symm.trans H;with_reducible exact AW)|with_reducible exact H|(rw[Av];exact H)|exact H
    have BF:=aK Av;clear Av;have H':=aK H;clear H;go_wp2_with (first|((with_reducible refine gd 21 ?_);refine Kd.R_lit (Kd.int .u8) _ 5 ?hg (N:=21) ?hd (xs:=([]:List Int)) (inner:=[]) (ok:=fun _=>True) (okp:=fun _=>True) ?hr ?hp (fun _ hk=>hk) trivial (Below.refl _ _) (Nat.le_refl _) (by simp) ?_;(case hd=>rfl);(case hg=>rfl);(case hr=>first|(go_simp;done)|(go_simp;rfl));(case hp=>exact(Reps.none _ _));intro BV Bk A3 hb hg_ hnew_;clear hg_ hnew_;(first|rw[←BF.o]at A3|(simp only[Int.reduceToNat]at A3;rw[←BF.o]at A3));have Ab:=rl HB A3;replace HB:=bS HB hb;clear hb A3))
    go_loopg [5,6] C0 (fun kq v5 v6 w'=>∃(A_:List Int) (Aw:Int),v6 = .int .i64 Aw∧Aside0 (impl_Fixed.l0 kq X A_ Aw=some r)∧Aside0 (kq≤C0)∧Aside0 (Kd.R (Kd.int .u8) 5 w' w.heap.size (fun _=>True) v5 A_)∧Aside0 (Below w.heap.size w w'))
    case atStart=>exact⟨(BO),(wrap64 (D-1)),fa,H',⟨Nat.le_refl _⟩,⟨rpR Ab.o⟩,⟨bl⟩⟩
    case round=>
     clear H';obtain⟨A_,Aw,rfl,HA,AJ,BG,HB⟩:=hrel;cases gk with
     |zero=>exact absurd HA.o (by simp[impl_Fixed.l0])
     |succ k2=>
      have H:=HA.o;clear HA;simp only[impl_Fixed.l0]at H;by_cases Bb:Aw≥0
      ·rw[if_pos Bb]at H;have C1:=dt Bb;clear Bb;obtain⟨AA,B2⟩:∃j_:Int,(wrap64 (8*Aw))=j_:=⟨_,rfl⟩;(first|rw[B2]at H|simp only[B2]at H)
       have Co:(IntKind.i64.wrap (8*Aw))=AA:=(i64_w _).trans B2;by_cases BH:0≤(AA)
       ·rw[if_pos BH]at H;have CI:=eq_true BH;have CJ:=dt BH;clear BH;obtain⟨AT,AK⟩:∃j_:Int,(shr .i64 X (AA))=j_:=⟨_,rfl⟩;(first|rw[AK]at H|simp only[AK]at H)
        have Cp:(X/2 ^ min (AA).toNat 64)=AT:=AK;have Cq:(AA)≤64→(X/2 ^ (AA).toNat)=AT:=shr_small AK;by_cases BK:A_.length<140737488355328
        ·rw[if_pos BK]at H;have C2:=aK BK;clear BK;obtain⟨Ci,B3⟩:=yy (A_ ++ [(AT)%256]);rw[←B3]at H;(try rw[obs]at H)
         have C3:=aK B3;clear B3;have H':=aK H;clear H;go_wp2_with (first|((with_reducible refine gate_builtin (b:=.append) (xs:=#[.tmp 28,.tmp 34]) rfl ?_);at_builtin;refine Kd.R_append (Kd.int .u8) (w0:=w) w.heap.size rfl (.tmp 28) (.tmp 34) 169 5 (.int .u8 0) 1 rfl Tryz.underlying169 info5 rfl (by decide) (by omega) u5 A_ ((AT)%256) [.int .u8 ((AT)%256)] (fun _=>True) (fun _=>False) rfl rfl ?aP (fun _ hk=>hk.elim) ?aF ?aO ?aB ?aS ?aL ?_;(case aP=>exact rfl);(case aB=>exact bl);(case aF=>exact(fun _ _=>trivial));(case aO=>exact(rpR BG.o));(case aS=>exact(below_size bl));(case aL=>have:=C2.o;omega);intro CZ D0 ho hb hg hat;rw[←C3.o]at ho;replace HB:=aK (hb);have Cj:=aK (ho);clear BG;clear ho hb hg hat))
         go_roundg k2
         case measure=>have:=Ch.o;have:=AJ.o;omega
         case rel=>exact⟨(Ci),(wrap64 (Aw-1)),fa,H',⟨by have:=Ch.o;have:=AJ.o;omega⟩,⟨rpR Cj.o⟩,⟨bl⟩⟩
        ·exact no BK H
       ·exact no BH H
      ·rw[if_neg Bb]at H;have C1:=df Bb;clear Bb;obtain rfl:=oj H;have CK:=own_string (P:=Tryz.prog) Tryz.underlying169 Tryz.underlying5 Tryz.underlying9 (Kd.own_of_R BG.o);go_wp2
       go_ret
       exact⟨fe,bl⟩
mutual
def impl_Crc.l0:Nat→ByteArray→Int→Int→Int→Option (Int)
 | 0,_,_,_,_=>none
 |k+1,x0,x3,x7,x8=>if x8<x7 then(if 0≤x8 then(if x8<(x0.size:Int)then(impl_Crc.l1 k x0 (Go.bits .xor .u32 x3 ((bt x0 x8)%4294967296)) x7 x8 0)else(none))else(none))else(some (wrap64 (Go.bits .xor .u32 4294967295 x3)))
def impl_Crc.l1:Nat→ByteArray→Int→Int→Int→Int→Option (Int)
 | 0,_,_,_,_,_=>none
 |k+1,x0,x3,x7,x8,C4=>if C4<8 then(if(Go.bits .and .u32 x3 1)=1 then(impl_Crc.l1 k x0 (Go.bits .xor .u32 (x3/2) 2197175160) x7 x8 (wrap64 (C4+1)))else(impl_Crc.l1 k x0 (x3/2) x7 x8 (wrap64 (C4+1))))else(impl_Crc.l0 k x0 x3 x7 (wrap64 (x8+1)))
end
def impl_Crc.f (k:Nat) (X:ByteArray):Option (Int):=impl_Crc.l0 k X 4294967295 (X.size:Int) 0
theorem impl_Crc.calls (k:Nat) (X:ByteArray) (r:Int) (w:World) (h:impl_Crc.f k X=some r) :
 Calls Tryz.prog 146 #[.string X] w fun e w'=>e = .returned (.int .i64 r)∧Drawn0 w w':=by
 have H:=h;unfold impl_Crc.f at H;clear h;have H':=aK H;clear H
 go_enter Tryz.func146,Tryz.ntmps146
 go_wp2
 go_loopg [3,8] k (fun kq v3 v8 w'=>∃(B7:Int) (Ag:Int),v3 = .int .u32 B7∧v8 = .int .i64 Ag∧Aside0 (impl_Crc.l0 kq X B7 (X.size:Int) Ag=some r)∧Aside0 (kq≤k)∧Drawn0 w w')
 case atStart=>exact⟨(4294967295),(0),fa,fa,H',⟨Nat.le_refl _⟩,fd⟩
 case round=>
  clear H';obtain⟨B7,Ag,rfl,rfl,HA,AB,⟨m1,rfl⟩⟩:=hrel;cases gk with
  |zero=>exact absurd HA.o (by simp[impl_Crc.l0])
  |succ k1=>
   have H:=HA.o;clear HA;simp only[impl_Crc.l0]at H;by_cases c2:Ag<(X.size:Int)
   ·rw[if_pos c2]at H;have Ck:=dt c2;clear c2;by_cases c3:0≤Ag
    ·rw[if_pos c3]at H;have BL:=dt c3;clear c3;by_cases c4:Ag<(X.size:Int)
     ·rw[if_pos c4]at H;have B4:=dt c4;clear c4;have H':=aK H;clear H;have Cl:0≤(Ag:Int):=dT am;have Cm:Ag<(X.size:Int):=dT am;have CR:=bt_at X Ag;replace Cl:=eq_true Cl;replace Cm:=eq_true Cm;go_wp2
      go_loopg [3,17] k1 (fun kq v3 CL w'=>∃(Ax:Int) (An:Int),v3 = .int .u32 Ax∧CL = .int .i64 An∧Aside0 (impl_Crc.l1 kq X Ax (X.size:Int) Ag An=some r)∧Aside0 (kq≤k1)∧Drawn0 w w')
      case atStart=>exact⟨(Go.bits .xor .u32 B7 ((bt X Ag)%4294967296)),(0),fa,fa,H',⟨Nat.le_refl _⟩,fd⟩
      case round=>
       clear H';obtain⟨Ax,An,rfl,rfl,HA,AJ,⟨m2,rfl⟩⟩:=hrel;cases gk with
       |zero=>exact absurd HA.o (by simp[impl_Crc.l1])
       |succ k2=>
        have H:=HA.o;clear HA;simp only[impl_Crc.l1]at H;by_cases c6:An<8
        ·rw[if_pos c6]at H;have Ah:=dt c6;clear c6;by_cases c7:(Go.bits .and .u32 Ax 1)=1
         ·rw[if_pos c7]at H;have AO:=bT c7;have Cn:=bE c7;clear c7;have H':=aK H;clear H;go_wp2
          go_roundg k2
          case measure=>have:=AB.o;have:=AJ.o;omega
          case rel=>exact⟨(Go.bits .xor .u32 (Ax/2) 2197175160),(wrap64 (An+1)),fa,fa,H',⟨by have:=AB.o;have:=AJ.o;omega⟩,fd⟩
         ·rw[if_neg c7]at H;have AO:=bN c7;have Cn:=bQ c7;have H':=aK H;clear H;go_wp2
          go_roundg k2
          case measure=>have:=AB.o;have:=AJ.o;omega
          case rel=>exact⟨(Ax/2),(wrap64 (An+1)),fa,fa,H',⟨by have:=AB.o;have:=AJ.o;omega⟩,fd⟩
        ·rw[if_neg c6]at H;have Ah:=df c6;clear c6;have H':=aK H;clear H;go_wp2
         go_roundg k2
         case measure=>have:=AB.o;have:=AJ.o;omega
         case rel=>exact⟨(Ax),(wrap64 (Ag+1)),fa,fa,H',⟨by have:=AB.o;have:=AJ.o;omega⟩,fd⟩
     ·exact no c4 H
    ·exact no c3 H
   ·rw[if_neg c2]at H;have Ck:=df c2;clear c2;obtain rfl:=oj H;go_wp2
    go_ret
    exact⟨fa,fd⟩
def impl_Frame.f (k:Nat) (X:ByteArray):Option (ByteArray):=(impl_from.f (X.size:Int) 1 2000).bind fun BI=>(if BI=true then((impl_Fixed.f k (X.size:Int) 4).bind fun Ac=>(if Ac.size+X.size≤9223372036854775807 then((impl_Crc.f k (Ac++X)).bind fun B8=>((impl_Fixed.f k B8 4).bind fun Am=>(if Ac.size+Am.size≤9223372036854775807 then(if(Ac.size+Am.size)+X.size≤9223372036854775807 then(some ((Ac++Am)++X))else(none))else(none))))else(none)))else(some (⟨#[]⟩:ByteArray)))
theorem impl_Frame.z1 {p:Prop} (h:p:=by
 go_enter Tryz.func144,Tryz.ntmps144
 go_wp2_with (first|((with_reducible refine gc 119 ?_);refine goesW Tryz.func119 ?_;(with_reducible refine mo (impl_from.calls (X.size:Int) 1 2000 _ _ A2.o) ?_);rintro _ ⟨nd,rfl⟩)|((with_reducible refine gc 145 ?_);refine goesY (some 10) rfl Tryz.func145 ?_;(with_reducible refine mo (impl_Fixed.calls k (X.size:Int) 4 Ac _ A4.o) ?_);intro Bk hb;replace HB:=bS HB hb)|((with_reducible refine gc 146 ?_);refine goesW Tryz.func146 ?_;(with_reducible refine mo (impl_Crc.calls k (Ac++X) B8 _ A6.o) ?_);rintro _ ⟨nd,rfl⟩)|((with_reducible refine gc 145 ?_);refine goesY (some 16) rfl Tryz.func145 ?_;(with_reducible refine mo (impl_Fixed.calls k B8 4 Am _ A7.o) ?_);intro BR hb;replace HB:=bS HB hb))
 go_ret
 exact⟨fe,bl⟩):p:=h
theorem impl_Frame.calls (k:Nat) (X:ByteArray) (r:ByteArray) (w:World) (h:impl_Frame.f k X=some r) :
 Calls Tryz.prog 144 #[.string X] w fun e w'=>e = .returned (.string r)∧Below w.heap.size w w':=by
 have HB:=aK (Below.refl w.heap.size w);have H:=h;unfold impl_Frame.f at H;clear h;obtain⟨BI,A2,H⟩:=bd H;by_cases c3:BI=true
 ·subst c3;replace H:=iT H;obtain⟨Ac,A4,H⟩:=bd H;by_cases c5:Ac.size+X.size≤9223372036854775807
  ·rw[if_pos c5]at H;have Ca:=eq_true c5;have CS:=dt c5;(try have CT:(9223372036854775807<Ac.size+X.size)=False:=eq_false (Nat.not_lt.2 c5));obtain⟨B8,A6,H⟩:=bd H;obtain⟨Am,A7,H⟩:=bd H;by_cases c8:Ac.size+Am.size≤9223372036854775807
   ·rw[if_pos c8]at H;have Br:=eq_true c8;have Cg:=dt c8;(try have CU:(9223372036854775807<Ac.size+Am.size)=False:=eq_false (Nat.not_lt.2 c8));by_cases c9:(Ac.size+Am.size)+X.size≤9223372036854775807
    ·rw[if_pos c9]at H;have BM:=eq_true c9;have BN:=dt c9;(try have CV:(9223372036854775807<(Ac.size+Am.size)+X.size)=False:=eq_false (Nat.not_lt.2 c9));obtain rfl:=oj H
     exact impl_Frame.z1
    ·exact no c9 H
   ·exact no c8 H
  ·exact no c5 H
 ·replace c3:=bF c3;subst c3;replace H:=iF H;obtain rfl:=oj H
  exact impl_Frame.z1
end Go.Proofs.YtndbmllnkjngnaaGreat.PDs
