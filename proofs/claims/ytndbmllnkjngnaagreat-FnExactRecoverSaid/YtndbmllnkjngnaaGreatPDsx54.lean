/- Functions of the program, each with its contract, written by a program out of the translation. -/
import Derived.Test.YtndbmllnkjngnaaGreatPDsx0
import Derived.Test.YtndbmllnkjngnaaGreatPDsx29
import Derived.Test.YtndbmllnkjngnaaGreatZip
namespace Go.Proofs.YtndbmllnkjngnaaGreat.PDs
open Go.RowKit Go.Proofs.YtndbmllnkjngnaaGreatW.PrintWords Go.Proofs.YtndbmllnkjngnaaGreatW.PrintLast Go.Proofs.YtndbmllnkjngnaaGreatW.PrintMore Go.Proofs.YtndbmllnkjngnaaGreat.Zip
attribute [local go_sem] max2_int min2_int max_two min_two max_three min_three max_four min_four
set_option linter.unusedVariables false
set_option linter.unusedSimpArgs false
set_option maxHeartbeats 8000000
set_option maxRecDepth 100000
def laws_eqEntry.f (Z:Int) (A2:ByteArray) (A8:Int) (A9:ByteArray):Option (Bool):=if Z=A8 then(if A2.toList=A9.toList then(some true)else(some false))else(some false)
theorem laws_eqEntry.z1 {p:Prop} (h:p:=by
 go_enter Tryz.func140,Tryz.ntmps140
 go_wp2_with (first|((with_reducible refine gd 2 ?_);refine boxQ HB ?_;clear HB;intro C6 hg C7 An C8 HB hb;clear hb hg)|((with_reducible refine gd 3 ?_);refine boxQ HB ?_;clear HB;intro C9 hg AG Bk Ca HB hb;have Bl:=nL An hg;have Bm:=nR An hg;replace An:=bv An hb;clear hb hg;have:=cf2 An;have:=cf2 Bk))
 go_ret
 exact⟨fe,bl⟩):p:=h
theorem laws_eqEntry.calls (Z:Int) (A2:ByteArray) (A8:Int) (A9:ByteArray) (r:Bool) (w:World) (h:laws_eqEntry.f Z A2 A8 A9=some r) :
 Calls Tryz.prog 140 #[.agg #[.int .i64 Z,.string A2],.agg #[.int .i64 A8,.string A9]] w fun e w'=>e = .returned (.bool r)∧Below w.heap.size w w':=by
 have Bn:=Tryz.underlying115;have HB:=aK (Below.refl w.heap.size w);have H:=h;unfold laws_eqEntry.f at H;clear h;by_cases c3:Z=A8
 ·rw[if_pos c3]at H;have Ao:=bT c3;have Ar:=bE c3;clear c3;by_cases c4:A2.toList=A9.toList
  ·rw[if_pos c4]at H;have Ap:=bT c4;have AH:=bE c4;clear c4;obtain rfl:=oj H
   exact laws_eqEntry.z1
  ·rw[if_neg c4]at H;have Ap:=bN c4;have AH:=bQ c4;obtain rfl:=oj H
   exact laws_eqEntry.z1
 ·rw[if_neg c3]at H;have Ao:=bN c3;have Ar:=bQ c3;obtain rfl:=oj H
  exact laws_eqEntry.z1
def laws_eqEntryS.l0:Nat→List (S115)→List (S115)→Int→Option (Bool)
 | 0,_,_,_=>none
 |k+1,x0,x1,x5=>if x5<(x0.length:Int)then(if 0≤x5 then(if x5<(x1.length:Int)then((laws_eqEntry.f ((rd_T115 x0 x5).f0) ((rd_T115 x0 x5).f1) ((rd_T115 x1 x5).f0) ((rd_T115 x1 x5).f1)).bind fun AI=>(if AI=true then(laws_eqEntryS.l0 k x0 x1 (wrap64 (x5+1)))else(some false)))else(none))else(none))else(some true)
def laws_eqEntryS.f (k:Nat) (l0:List (S115)) (l1:List (S115)):Option (Bool):=if(l0.length:Int)=(l1.length:Int)then(laws_eqEntryS.l0 k l0 l1 0)else(some false)
def laws_eqEntryS.T6:Bool×List (List Nat×List Nat):=(true,[([],[]),([],[]),([0,1],[0,1]),([2],[2]),([],[]),([],[]),([4,5],[4,5]),([6],[6]),([3,7],[3,7]),([8],[8])])
def laws_eqEntryS.B6:List Nat:=[0,0,3,7,0,0,48,112,255,511]
theorem laws_eqEntryS.tab6:rtab .any (opsOf Tryz.f79 6)=laws_eqEntryS.T6:=by kernel_rfl
theorem laws_eqEntryS.bits6:waitsOk laws_eqEntryS.T6.2 laws_eqEntryS.B6=true:=by kernel_rfl
theorem laws_eqEntryS.calls (k:Nat) (A0:Option Addr) (c0:Nat) (l0:List (S115)) (A1:Option Addr) (c1:Nat) (l1:List (S115)) (r:Bool) (w:World) (BE:Kd.C k115 w A0 l0.length l0) (BF:l0.length≤c0) (BG:Kd.C k115 w A1 l1.length l1) (BH:l1.length≤c1) (h:laws_eqEntryS.f k l0 l1=some r) :
 Calls Tryz.prog 79 #[.slice A0 l0.length c0,.slice A1 l1.length c1] w fun e w'=>e = .returned (.bool r)∧Below w.heap.size w w':=by
 have Bn:=Tryz.underlying115;have Cb:=aK BE;have Ct:=aK BF;clear BE BF;have Cc:=aK BG;have Cu:=aK BH;clear BG BH;have HB:=aK (Below.refl w.heap.size w);have H:=h;unfold laws_eqEntryS.f at H;clear h;by_cases c3:(l0.length:Int)=(l1.length:Int)
 ·rw[if_pos c3]at H;have Ao:=bT c3;have Ar:=bE c3;have BI:(l0.length==l1.length)=true:=by first|simpa using c3|(simp at c3 ⊢;omega)
  clear c3;have H':=aK H;clear H
  go_enter Tryz.func79,Tryz.ntmps79
  go_wp2
  go_loopg [5] k (fun kq v5 w'=>∃(D:Int),v5 = .int .i64 D∧Aside0 (laws_eqEntryS.l0 kq l0 l1 D=some r)∧Aside0 (kq≤k)∧Aside0 (Below w.heap.size w w'))
  case atStart=>exact⟨(0),fa,H',⟨Nat.le_refl _⟩,⟨bl⟩⟩
  case round=>
   clear H';obtain⟨D,rfl,HA,AJ,HB⟩:=hrel;cases gk with
   |zero=>exact absurd HA.o (by simp[laws_eqEntryS.l0])
   |succ k1=>
    have H:=HA.o;clear HA;simp only[laws_eqEntryS.l0]at H;by_cases c4:D<(l0.length:Int)
    ·rw[if_pos c4]at H;have Ap:=dt c4;clear c4;by_cases c5:0≤D
     ·rw[if_pos c5]at H;have B8:=dt c5;clear c5;have Hq_:=aK H;clear H;(try go_wp2);replace HB:=dW HB;have AK:0≤(D:Int):=dT am;have AL:D<(l0.length:Int):=dT am;obtain⟨A_,BJ,Af,Ag⟩:=at_T115 Cb.o D AK AL;have As:=Ag;have At:=Af;cases BJ;replace Af:=cz HB Af;replace Ag:=cz HB Ag;replace AK:=eq_true AK;replace AL:=eq_true AL;have AM:0≤(D:Int):=dT am;have H:=Hq_.o;clear Hq_;by_cases c6:D<(l1.length:Int)
      ·rw[if_pos c6]at H;have AN:=dt c6;(try rw[AN]);clear c6;obtain⟨AI,A7,H⟩:=bd H;have Hq_:=aK H;clear H;have AO:D<(l1.length:Int):=dT am;obtain⟨AA,BK,Ah,Ai⟩:=at_T115 Cc.o D AM AO;have Au:=Ai;have Av:=Ah;cases BK;replace Ah:=cz HB Ah;replace Ai:=cz HB Ai;replace AM:=eq_true AM;replace AO:=eq_true AO;refine start_ (n:=10) (S:=fun w'=>w'.cell? (A_.add ((D).toNat*2))=some (.int .i64 ((rd_T115 l0 D).f0))∧w'.cell? ⟨(A_.add ((D).toNat*2)).block,(A_.add ((D).toNat*2)).off+1,none⟩=some (.string ((rd_T115 l0 D).f1))∧w'.cell? (AA.add ((D).toNat*2))=some (.int .i64 ((rd_T115 l1 D).f0))∧w'.cell? ⟨(AA.add ((D).toNat*2)).block,(AA.add ((D).toNat*2)).off+1,none⟩=some (.string ((rd_T115 l1 D).f1))) (ds:=[]) (bo 10 0) (by kernel_rfl) rfl rfl ⟨(cy HB At),(cy HB As),(cy HB Av),(cy HB Au)⟩ (fun hHeld=>?_);refine with_tabW laws_eqEntryS.tab6 laws_eqEntryS.bits6 (fun HT_ HW_=>?_);generalize wr.drew=Cv at HB Af Ag Ah Ai hHeld ⊢;refine pv 0 ?_;refine pv 1 ?_;refine pv 2 ?_;refine pv 4 ?_;refine pv 5 ?_;refine pv 6 ?_;refine tv 3 ?_;refine tv 7 ?_
       refine oo 8 (fun K hK=>?_);refine goesV Tryz.func140 ?_;(with_reducible refine mo (laws_eqEntry.calls ((rd_T115 l0 D).f0) ((rd_T115 l0 D).f1) ((rd_T115 l1 D).f0) ((rd_T115 l1 D).f1) _ _ A7.o) ?_);intro Cw hb;replace HB:=bS HB hb;refine hK.out _ _ ⟨(cy HB At),(cy HB As),(cy HB Av),(cy HB Au)⟩ (fun hHeld=>?_);clear hK K;refine nm 25 ?_;refine pv 9 ?_;have H:=Hq_.o;clear Hq_;by_cases c8:AI=true
       ·subst c8;replace H:=iT H;have H':=aK H;clear H;refine done_ (done_of HT_.o (by kernel_rfl)) ?_;(try go_wp2)
        go_roundg k1
        case measure=>have:=AJ.o;omega
        case rel=>exact⟨(wrap64 (D+1)),fa,H',⟨by have:=AJ.o;omega⟩,⟨bl⟩⟩
       ·replace c8:=bF c8;subst c8;replace H:=iF H;obtain rfl:=oj H;refine done_ (done_of HT_.o (by kernel_rfl)) ?_;(try go_wp2)
        go_ret
        exact⟨fe,bl⟩
      ·exact no c6 H
     ·exact no c5 H
    ·rw[if_neg c4]at H;have Ap:=df c4;clear c4;obtain rfl:=oj H;go_wp2
     go_ret
     exact⟨fe,bl⟩
 ·rw[if_neg c3]at H;have Ao:=bN c3;have Ar:=bQ c3;have BI:(l0.length==l1.length)=false:=by first|simpa using c3|(simp at c3 ⊢;omega)
  obtain rfl:=oj H
  go_enter Tryz.func79,Tryz.ntmps79
  go_wp2
  go_ret
  exact⟨fe,bl⟩
def laws_eqWal.f (k:Nat) (Z:Int) (A2:Int) (Aj:Int) (Ak:Int) (Y:List (S115)) (A8:Int) (A9:Int) (Aw:Int) (Ax:Int) (Al:List (S115)):Option (Bool):=if Z=A8 then(if A2=A9 then(if Aj=Aw then(if Ak=Ax then((laws_eqEntryS.f k Y Al).bind fun AP=>(if AP=true then(some true)else(some false)))else(some false))else(some false))else(some false))else(some false)
theorem laws_eqWal.z1 {p:Prop} (h:p:=by
 go_enter Tryz.func22,Tryz.ntmps22
 go_wp2_with (first|((with_reducible refine gd 2 ?_);refine boxQ HB ?_;clear HB;intro Cd hg C7 Ad Ce HB hb;clear hb hg)|((with_reducible refine gd 3 ?_);refine boxQ HB ?_;clear HB;intro Cf hg AG AB Cg HB hb;have Bo:=nL Ad hg;have Bp:=nR Ad hg;replace Ad:=bv Ad hb;clear hb hg;have:=cf5 Ad;have:=cf5 AB)|((with_reducible refine gc 79 ?_);refine goesW Tryz.func79 ?_;(with_reducible refine mo (laws_eqEntryS.calls k _ _ Y _ _ Al _ _ ?_ ?_ ?_ ?_ A7.o) ?_);exact cB Bq HB;exact Br.o;exact cB Bs HB;exact Bt.o;intro Ay hb;replace Ad:=bv Ad hb;replace AB:=bv AB hb;replace HB:=bS HB hb))
 go_ret
 exact⟨fe,bl⟩):p:=h
theorem laws_eqWal.calls (k:Nat) (Z:Int) (A2:Int) (Aj:Int) (Ak:Int) (B9:Option Addr) (Ba:Nat) (Y:List (S115)) (A8:Int) (A9:Int) (Aw:Int) (Ax:Int) (Bb:Option Addr) (Bc:Nat) (Al:List (S115)) (r:Bool) (w:World) (AQ:Kd.C k115 w B9 Y.length Y) (AR:Y.length≤Ba) (AS:Kd.C k115 w Bb Al.length Al) (AT:Al.length≤Bc) (h:laws_eqWal.f k Z A2 Aj Ak Y A8 A9 Aw Ax Al=some r) :
 Calls Tryz.prog 22 #[.agg #[.int .i64 Z,.int .i64 A2,.int .i64 Aj,.int .i64 Ak,.slice B9 Y.length Ba],.agg #[.int .i64 A8,.int .i64 A9,.int .i64 Aw,.int .i64 Ax,.slice Bb Al.length Bc]] w fun e w'=>e = .returned (.bool r)∧Below w.heap.size w w':=by
 have BL:=Tryz.underlying52;have Bq:=aK AQ;have Br:=aK AR;clear AQ AR;have Bs:=aK AS;have Bt:=aK AT;clear AS AT;have HB:=aK (Below.refl w.heap.size w);have H:=h;unfold laws_eqWal.f at H;clear h;by_cases c3:Z=A8
 ·rw[if_pos c3]at H;have Ao:=bT c3;have Ar:=bE c3;clear c3;by_cases c4:A2=A9
  ·rw[if_pos c4]at H;have Ap:=bT c4;have AH:=bE c4;clear c4;by_cases c5:Aj=Aw
   ·rw[if_pos c5]at H;have B8:=bT c5;have BM:=bE c5;clear c5;by_cases c6:Ak=Ax
    ·rw[if_pos c6]at H;have AN:=bT c6;have BN:=bE c6;clear c6;obtain⟨AP,A7,H⟩:=bd H;by_cases c8:AP=true
     ·subst c8;replace H:=iT H;obtain rfl:=oj H
      exact laws_eqWal.z1
     ·replace c8:=bF c8;subst c8;replace H:=iF H;obtain rfl:=oj H
      exact laws_eqWal.z1
    ·rw[if_neg c6]at H;have AN:=bN c6;have BN:=bQ c6;obtain rfl:=oj H
     exact laws_eqWal.z1
   ·rw[if_neg c5]at H;have B8:=bN c5;have BM:=bQ c5;obtain rfl:=oj H
    exact laws_eqWal.z1
  ·rw[if_neg c4]at H;have Ap:=bN c4;have AH:=bQ c4;obtain rfl:=oj H
   exact laws_eqWal.z1
 ·rw[if_neg c3]at H;have Ao:=bN c3;have Ar:=bQ c3;obtain rfl:=oj H
  exact laws_eqWal.z1
def laws_markEntryS.l0:Nat→List (S115)→Int→Int→Option (Int×(List (S115)))
 | 0,_,_,_=>none
 |k+1,x0,x1,x5=>if x5<(x0.length:Int)then(if 0≤x5 then((some (x0.set (x5:Int).toNat (⟨x1,(rd_T115 x0 x5).f1⟩:S115):List (S115))).bind fun Aa=>((laws_markText.f k (wrap64 (x1+1))).bind fun Am=>(laws_markEntryS.l0 k (Aa.set (x5:Int).toNat (⟨(rd_T115 Aa x5).f0,Am⟩:S115)) (wrap64 ((wrap64 (x1+1))+1)) (wrap64 (x5+1)))))else(none))else(some (x1,x0))
def laws_markEntryS.f (k:Nat) (l0:List (S115)) (a1:Int):Option (Int×(List (S115))):=laws_markEntryS.l0 k l0 a1 0
theorem laws_markEntryS.calls (k:Nat) (Ae:Nat→Prop) (X:Value) (l0:List (S115)) (a1:Int) (r1:Int) (r2:List (S115)) (w0 w:World) (hB:Below w0.heap.size w0 w) (Ch:Kd.R k115 115 w w0.heap.size Ae X l0) (h:laws_markEntryS.f k l0 a1=some (r1,r2)) :
 Calls Tryz.prog 80 #[X,.int .i64 a1] w fun e w'=>e = .returned (.int .i64 r1)∧Kd.R k115 115 w' w0.heap.size (fun k_=>(Ae k_∨w.heap.size≤k_)) X r2∧Below w0.heap.size w0 w'∧Kept w w' (fun k_=>Ae k_):=by
 have Ci:=aK (show Kd.R k115 115 w w0.heap.size (fun k_=>(Ae k_∨w.heap.size≤k_)) X l0 from rM Ch (fun k_ hk=>(.inl hk)));have HK:=aK (Kept.refl w (fun k_=>Ae k_));have HW0:=aK hB.size;have HB:=aK hB;clear hB;have H:=h;unfold laws_markEntryS.f at H;clear h;have H':=aK H;clear H
 go_enter Tryz.func80,Tryz.ntmps80
 go_wp2
 go_loopg [1,5] k (fun kq v1 v5 w'=>∃(J:List (S115)) (Ac:Int) (D:Int),v1 = .int .i64 Ac∧v5 = .int .i64 D∧Aside0 (laws_markEntryS.l0 kq J Ac D=some (r1,r2))∧Aside0 (kq≤k)∧Aside0 (Kd.R k115 115 w' w0.heap.size (fun k_=>(Ae k_∨w.heap.size≤k_)) X J)∧Aside0 (Kept w w' (fun k_=>Ae k_))∧Aside0 (Below w0.heap.size w0 w'))
 case atStart=>exact⟨(l0),(a1),(0),fa,fa,H',⟨Nat.le_refl _⟩,⟨rpR Ci.o⟩,⟨by repeat (first|(with_reducible first|exact HK.o|apply Kept.alloc|apply Kept.drewN|apply Kept.drew)|exact HK.o)⟩,⟨bl⟩⟩
 case round=>
  clear H';obtain⟨J,Ac,D,rfl,rfl,HA,AJ,U,HK,HB⟩:=hrel;cases gk with
  |zero=>exact absurd HA.o (by simp[laws_markEntryS.l0])
  |succ k1=>
   have H:=HA.o;clear HA;simp only[laws_markEntryS.l0]at H;by_cases c3:D<(J.length:Int)
   ·rw[if_pos c3]at H;have Ao:=dt c3;clear c3;by_cases c4:0≤D
    ·rw[if_pos c4]at H;have Ap:=dt c4;clear c4;obtain⟨Aa,AC⟩:=yy (J.set (D:Int).toNat (⟨Ac,(rd_T115 J D).f1⟩:S115));rw[←AC]at H;(try rw[obs]at H)
     have Bu:=aK AC;clear AC;obtain⟨Am,A6,H⟩:=bd H;obtain⟨Bd,AD⟩:=yy (Aa.set (D:Int).toNat (⟨(rd_T115 Aa D).f0,Am⟩:S115));rw[←AD]at H;(try rw[obs]at H)
     have Bv:=aK AD;clear AD;have H':=aK H;clear H;obtain⟨BO,Az,AU⟩:=rs U;subst AU;have Bw:0≤(D:Int):=dT am;have Bx:(D:Int)<((J.length:Int):Int):=dT am;obtain⟨A5,Cr,Be,Bf,Cj,Cx,BP⟩:=Kd.R_form U.o (by omega);(first|cases Be|(injection Be with ea_ en_ ec_;(first|subst ea_|(injection ea_ with ea_;subst ea_));subst ec_;clear en_));have BQ:=aK Bf;have Cy:=aK BP;clear Bf Cj BP;have Ck:=aK (show(Ae A5∨w.heap.size≤A5)from(U.out.1 _ rfl));obtain⟨Cz,BR,BS,AV,AW⟩:=Kd.R_elem U.o z115 (D:Int) Bw Bx;obtain rfl:=k115_openM BS;have C2:wr.cell? ⟨A5,(D:Int).toNat*2,none⟩=some (.int .i64 ((rd_T115 J D).f0)):=AV 0 _ rfl;have C3:wr.cell? ⟨A5,(D:Int).toNat*2+1,none⟩=some (.string ((rd_T115 J D).f1)):=AV 1 _ rfl;have Cl:wr.frozen? ⟨A5,(D:Int).toNat*2,none⟩=false:=AW 0;have Cm:wr.frozen? ⟨A5,(D:Int).toNat*2+1,none⟩=false:=AW 1;clear BR AV AW BS;replace Bw:=eq_true Bw;replace Bx:=eq_true Bx;have BT:=aK (show Kd.R k115 115 wr w0.heap.size (fun k_=>(Ae k_∨w.heap.size≤k_)) (.slice (some ⟨A5,0,none⟩) J.length Az) J from(rpR U.o))
     obtain⟨C_,Bg,BU,AX,Bh⟩:=Kd.R_elem BT.o z115 (D:Int) (dT am) (by have h_:(D:Int)<((J.length:Int):Int):=dT am;first|exact h_|(have e_:=(Kd.R_reads' U.o).1;omega)|simpa using h_);obtain rfl:=k115_openM BU;have By:=Kd.R_seg BT.o (D:Int) (dT am) (by have h_:(D:Int)<((J.length:Int):Int):=dT am;first|exact h_|(have e_:=(Kd.R_reads' U.o).1;omega)|simpa using h_) (seg:=[.int .i64 Ac]) (j:=0) Bg AX (show 1≤2 from by decide) (x':=(⟨Ac,(rd_T115 J D).f1⟩:S115)) (k115_mkM _ _ _ (⟨Ac,(rd_T115 J D).f1⟩:S115)) (fun _ hk=>hk);have B4:=AX 0 _ rfl;(try simp only[show(k115).sz=2 from rfl,Nat.mul_one,Nat.add_zero]at B4);have Bz:=Bh 0;(try simp only[show(k115).sz=2 from rfl,Nat.mul_one,Nat.add_zero]at Bz);clear Bg AX Bh BU
     go_wp2_with (first|((with_reducible refine gate_store (t:=3) (p:=16) rfl ?_);refine store_event (t:=3) (p:=16) (v:=?vo_w10) (w1:=(wr.setCell ⟨A5,(D:Int).toNat*2,none⟩ (.int .i64 Ac))) ?hg ?ho ?hn ?hr ?_;(case ho=>rfl);(case hg=>rfl);(case hn=>rfl);(case hr=>first|(go_simp;done)|(go_simp;rfl));intro AG hw;have hg:wr.grownBy AG (some A5):=(by rw[hw];exact By.2);have hp_:Kd.R k115 115 AG w0.heap.size (fun k_=>(Ae k_∨w.heap.size≤k_)) (.slice (some ⟨A5,0,none⟩) J.length Az) Aa:=(by rw[hw,Bu.o];exact By.1);clear By;replace HB:=aK ((by rw[hw];exact below_set (HB.o) BQ.o:Below w0.heap.size w0 AG));replace HK:=aK (Kept.of_grown (S:=(fun k_=>Ae k_)) hg (by repeat (first|(with_reducible first|exact HK.o|apply Kept.alloc|apply Kept.drewN|apply Kept.drew)|exact HK.o)) (fun k_ e_=>(U.out.1 k_ e_)));replace U:=aK (hp_);clear hg hw hp_)|((with_reducible refine gc 81 ?_);refine goesW Tryz.func81 ?_;(with_reducible refine mo (laws_markText.calls k1 (wrap64 (Ac+1)) Am _ A6.o) ?_);intro Ay hb;replace U:=rb U hb;replace HK:=aK (Kept.below (S:=(fun k_=>Ae k_)) (by repeat (first|(with_reducible first|exact HK.o|apply Kept.alloc|apply Kept.drewN|apply Kept.drew)|exact HK.o)) hb);replace HB:=bs (w:=w0) hb;have B_:0≤(D:Int):=dT am;have BA:(D:Int)<((J.length:Int):Int):=dT am;obtain⟨CA,BV,BW,AY,AZ⟩:=Kd.R_elem U.o z115 (D:Int) B_ BA;obtain rfl:=k115_openM BW;have C4:Ay.cell? ⟨A5,(D:Int).toNat*2,none⟩=some (.int .i64 ((rd_T115 Aa D).f0)):=AY 0 _ rfl;have C5:Ay.cell? ⟨A5,(D:Int).toNat*2+1,none⟩=some (.string ((rd_T115 Aa D).f1)):=AY 1 _ rfl;have Cn:Ay.frozen? ⟨A5,(D:Int).toNat*2,none⟩=false:=AZ 0;have Co:Ay.frozen? ⟨A5,(D:Int).toNat*2+1,none⟩=false:=AZ 1;clear BV AY AZ BW;replace B_:=eq_true B_;replace BA:=eq_true BA;have Bi:=aK (show Kd.R k115 115 Ay w0.heap.size (fun k_=>(Ae k_∨w.heap.size≤k_)) (.slice (some ⟨A5,0,none⟩) J.length Az) Aa from(rpR U.o));obtain⟨Cs,B0,Bj,AE,B1⟩:=Kd.R_elem Bi.o z115 (D:Int) (dT am) (by have h_:(D:Int)<((J.length:Int):Int):=dT am;first|exact h_|(have e_:=(Kd.R_reads' U.o).1;omega)|simpa using h_);obtain rfl:=k115_openM Bj;have B2:=Kd.R_seg Bi.o (D:Int) (dT am) (by have h_:(D:Int)<((J.length:Int):Int):=dT am;first|exact h_|(have e_:=(Kd.R_reads' U.o).1;omega)|simpa using h_) (seg:=[.string Am]) (j:=1) B0 AE (show 2≤2 from by decide) (x':=(⟨(rd_T115 Aa D).f0,Am⟩:S115)) (k115_mkM _ _ _ (⟨(rd_T115 Aa D).f0,Am⟩:S115)) (fun _ hk=>hk);have B5:=AE 1 _ rfl;(try simp only[show(k115).sz=2 from rfl,Nat.mul_one,Nat.add_zero]at B5);have B7:=B1 1;(try simp only[show(k115).sz=2 from rfl,Nat.mul_one,Nat.add_zero]at B7);clear B0 AE B1 Bj)|((with_reducible refine gate_store (t:=9) (p:=24) rfl ?_);refine store_event (t:=9) (p:=24) (v:=?vo_w13) (w1:=(Ay.setCell ⟨A5,(D:Int).toNat*2+1,none⟩ (.string Am))) ?hg ?ho ?hn ?hr ?_;(case ho=>rfl);(case hg=>rfl);(case hn=>rfl);(case hr=>first|(go_simp;done)|(go_simp;rfl));intro BB hw;have hg:Ay.grownBy BB (some A5):=(by rw[hw];exact B2.2);have hp_:Kd.R k115 115 BB w0.heap.size (fun k_=>(Ae k_∨w.heap.size≤k_)) (.slice (some ⟨A5,0,none⟩) J.length Az) Bd:=(by rw[hw,Bv.o];exact B2.1);clear B2;replace HB:=aK ((by rw[hw];exact below_set (HB.o) BQ.o:Below w0.heap.size w0 BB));replace HK:=aK (Kept.of_grown (S:=(fun k_=>Ae k_)) hg (by repeat (first|(with_reducible first|exact HK.o|apply Kept.alloc|apply Kept.drewN|apply Kept.drew)|exact HK.o)) (fun k_ e_=>(U.out.1 k_ e_)));replace U:=aK (hp_);clear hg hw hp_))
     go_roundg k1
     case measure=>have:=AJ.o;omega
     case rel=>exact⟨(Bd),(wrap64 ((wrap64 (Ac+1))+1)),(wrap64 (D+1)),fa,fa,H',⟨by have:=AJ.o;omega⟩,⟨rpR U.o⟩,⟨by repeat (first|(with_reducible first|exact HK.o|apply Kept.alloc|apply Kept.drewN|apply Kept.drew)|exact HK.o)⟩,⟨bl⟩⟩
    ·exact no c4 H
   ·rw[if_neg c3]at H;have Ao:=df c3;clear c3;obtain⟨rfl,rfl⟩:=t2 H;obtain⟨BO,Az,AU⟩:=rs U;subst AU;go_wp2
    go_ret
    exact⟨fe,rpR U.o,bl,by repeat (first|(with_reducible first|exact HK.o|apply Kept.alloc|apply Kept.drewN|apply Kept.drew)|exact HK.o)⟩
def laws_markWal.f (k:Nat) (Z:Int) (A2:Int) (Aj:Int) (Ak:Int) (Y:List (S115)) (a1:Int):Option (Int×(List (S115))):=(laws_markEntryS.f k Y a1).bind fun B3=>(some (B3.1,B3.2))
theorem laws_markWal.calls (k:Nat) (Z:Int) (A2:Int) (Aj:Int) (Ak:Int) (Ab:Nat→Prop) (X:Value) (Y:List (S115)) (a1:Int) (r1:Int) (r2:List (S115)) (w0 w:World) (hB:Below w0.heap.size w0 w) (BC:Kd.R k115 115 w w0.heap.size Ab X Y) (h:laws_markWal.f k Z A2 Aj Ak Y a1=some (r1,r2)) :
 Calls Tryz.prog 23 #[.agg #[.int .i64 Z,.int .i64 A2,.int .i64 Aj,.int .i64 Ak,X],.int .i64 a1] w fun e w'=>e = .returned (.int .i64 r1)∧Kd.R k115 115 w' w0.heap.size (fun k_=>(Ab k_∨w.heap.size≤k_)) X r2∧Below w0.heap.size w0 w'∧Kept w w' (fun k_=>Ab k_):=by
 have BL:=Tryz.underlying52;have A4:=aK (show Kd.R k115 115 w w0.heap.size (fun k_=>(Ab k_∨w.heap.size≤k_)) X Y from rM BC (fun k_ hk=>(.inl hk)));have HK:=aK (Kept.refl w (fun k_=>Ab k_));have HW0:=aK hB.size;have HB:=aK hB;clear hB;have H:=h;unfold laws_markWal.f at H;clear h;replace H:=oB H;obtain⟨⟨BX,BY⟩,BZ,H⟩:=H;dsimp only at H;have A3:=aK BZ;clear BZ;obtain⟨rfl,rfl⟩:=t2 H;obtain⟨C0,C1,Cp⟩:=rs A4;subst Cp
 go_enter Tryz.func23,Tryz.ntmps23
 go_wp2_with (first|((with_reducible refine gd 2 ?_);refine boxW ?_;intro BD hg w5 hbox hb;replace A4:=rb A4 hb;have AF:=aK hbox;have Aq:=aK ((by rw[hg];exact(by first|exact HK.out.1|exact(show Kept w _ (fun k_=>Ab k_)from by repeat (first|(with_reducible first|exact HK.o|apply Kept.alloc|apply Kept.drewN|apply Kept.drew)|exact HK.o)).1):w.heap.size≤BD));replace HK:=aK (Kept.below (S:=(fun k_=>Ab k_)) (by repeat (first|(with_reducible first|exact HK.o|apply Kept.alloc|apply Kept.drewN|apply Kept.drew)|exact HK.o)) hb);have Aq:=gw (w:=w0) hg;replace HB:=bs (w:=w0) hb;clear hb hbox hg;have:=cf5 AF)|((with_reducible refine gc 80 ?_);refine goesW Tryz.func80 ?_;(with_reducible refine(laws_markEntryS.calls k (fun k_=>some k_=(.slice C0 Y.length C1:Value).ownBlock) (.slice C0 Y.length C1) Y a1 BX BY w0 _ ?_ ?_ A3.o).mono ?_);repeat (first|(with_reducible first|exact HB.o|apply below_alloc|apply pw_below_drewN|apply below_drew1|refine below_set ?_ Aq.o)|exact HB.o);exact Kd.R_tight rfl A4.o;rintro e w7 ⟨rfl,Cq,hb,hkp⟩;refine⟨_,rfl,?_⟩;replace AF:=aK (blk_kept bk hkp (fun hs_=>(fun e_=>(Kd.R_ne A4.o AF.o (by decide)) e_) hs_));replace HK:=aK (Kept.then_ (S:=(fun k_=>Ab k_)) (by repeat (first|(with_reducible first|exact HK.o|apply Kept.alloc|apply Kept.drewN|apply Kept.drew|refine Kept.setCell ?_ (.inr Aq.o) _)|exact HK.o)) hkp (fun k_ hs_=>(fun e_=>(A4.out.1 k_ e_.symm)) hs_));replace A4:=aK (Kd.R_reok rfl Cq (fun k_ e_=>A4.out.1 k_ e_));replace HB:=aK (hb)))
 go_ret
 exact⟨fe,rpR A4.o,bl,by repeat (first|(with_reducible first|exact HK.o|apply Kept.alloc|apply Kept.drewN|apply Kept.drew|refine Kept.setCell ?_ (.inr Aq.o) _)|exact HK.o)⟩
def laws_eqSnap.f (J:Int) (U:Int) (X:ByteArray) (A8:Int) (A9:Int) (Aa:ByteArray):Option (Bool):=if J=A8 then(if U=A9 then(if X.toList=Aa.toList then(some true)else(some false))else(some false))else(some false)
theorem laws_eqSnap.z1 {p:Prop} (h:p:=by
 go_enter Tryz.func94,Tryz.ntmps94
 go_wp2_with (first|((with_reducible refine gd 2 ?_);refine boxQ HB ?_;clear HB;intro Bq hg AX Ak Br HB hb;clear hb hg)|((with_reducible refine gd 3 ?_);refine boxQ HB ?_;clear HB;intro Bs hg AY AZ Bt HB hb;have B0:=nL Ak hg;have B1:=nR Ak hg;replace Ak:=bv Ak hb;clear hb hg;have:=cf3 Ak;have:=cf3 AZ))
 go_ret
 exact⟨fe,bl⟩):p:=h
theorem laws_eqSnap.calls (J:Int) (U:Int) (X:ByteArray) (A8:Int) (A9:Int) (Aa:ByteArray) (r:Bool) (w:World) (h:laws_eqSnap.f J U X A8 A9 Aa=some r) :
 Calls Tryz.prog 94 #[.agg #[.int .i64 J,.int .i64 U,.string X],.agg #[.int .i64 A8,.int .i64 A9,.string Aa]] w fun e w'=>e = .returned (.bool r)∧Below w.heap.size w w':=by
 have Ba:=Tryz.underlying69;have HB:=aK (Below.refl w.heap.size w);have H:=h;unfold laws_eqSnap.f at H;clear h;by_cases c3:J=A8
 ·rw[if_pos c3]at H;have AK:=bT c3;have Bb:=bE c3;clear c3;by_cases c4:U=A9
  ·rw[if_pos c4]at H;have AI:=bT c4;have Bc:=bE c4;clear c4;by_cases c5:X.toList=Aa.toList
   ·rw[if_pos c5]at H;have Aq:=bT c5;have Ar:=bE c5;clear c5;obtain rfl:=oj H
    exact laws_eqSnap.z1
   ·rw[if_neg c5]at H;have Aq:=bN c5;have Ar:=bQ c5;obtain rfl:=oj H
    exact laws_eqSnap.z1
  ·rw[if_neg c4]at H;have AI:=bN c4;have Bc:=bQ c4;obtain rfl:=oj H
   exact laws_eqSnap.z1
 ·rw[if_neg c3]at H;have AK:=bN c3;have Bb:=bQ c3;obtain rfl:=oj H
  exact laws_eqSnap.z1
def laws_eqKept.f (k:Nat) (J:Int) (U:Int) (X:Int) (A1:Int) (D:List (S115)) (Ad:Int) (Ae:Int) (Af:ByteArray) (Z:Bool) (A8:Int) (A9:Int) (Aa:Int) (As:Int) (Ai:List (S115)) (At:Int) (Au:Int) (Av:ByteArray) (A7:Bool):Option (Bool):=(laws_eqWal.f k J U X A1 D A8 A9 Aa As Ai).bind fun AL=>(if AL=true then((laws_eqSnap.f Ad Ae Af At Au Av).bind fun AM=>(if AM=true then(if(Z != A7)=true then(some false)else(some true))else(some false)))else(some false))
theorem laws_eqKept.z1 {p:Prop} (h:p:=by
 go_enter Tryz.func36,Tryz.ntmps36
 go_wp2_with (first|((with_reducible refine gd 2 ?_);refine boxQ HB ?_;clear HB;intro Bu hg AX A2 Bv HB hb;clear hb hg)|((with_reducible refine gd 3 ?_);refine boxQ HB ?_;clear HB;intro Bw hg AY Ac Bx HB hb;have B2:=nL A2 hg;have B3:=nR A2 hg;replace A2:=bv A2 hb;clear hb hg;have:=cf9 A2;have:=cf9 Ac)|((with_reducible refine gc 22 ?_);refine goesW Tryz.func22 ?_;(with_reducible refine mo (laws_eqWal.calls k J U X A1 _ _ D A8 A9 Aa As _ _ Ai _ _ ?_ ?_ ?_ ?_ A3.o) ?_);exact cB AE HB;exact AF.o;exact cB B4 HB;exact B5.o;intro BC hb;replace A2:=bv A2 hb;replace Ac:=bv Ac hb;replace HB:=bS HB hb;have:=cf9 A2;have:=cf9 Ac)|((with_reducible refine gc 94 ?_);refine goesW Tryz.func94 ?_;(with_reducible refine mo (laws_eqSnap.calls Ad Ae Af At Au Av _ _ A5.o) ?_);intro BD hb;replace A2:=bv A2 hb;replace Ac:=bv Ac hb;replace HB:=bS HB hb;have:=cf9 A2;have:=cf9 Ac))
 go_ret
 exact⟨fe,bl⟩):p:=h
theorem laws_eqKept.calls (k:Nat) (J:Int) (U:Int) (X:Int) (A1:Int) (Aw:Option Addr) (Ax:Nat) (D:List (S115)) (Ad:Int) (Ae:Int) (Af:ByteArray) (Z:Bool) (A8:Int) (A9:Int) (Aa:Int) (As:Int) (AU:Option Addr) (AV:Nat) (Ai:List (S115)) (At:Int) (Au:Int) (Av:ByteArray) (A7:Bool) (r:Bool) (w:World) (Al:Kd.C k115 w Aw D.length D) (Am:D.length≤Ax) (AN:Kd.C k115 w AU Ai.length Ai) (AO:Ai.length≤AV) (h:laws_eqKept.f k J U X A1 D Ad Ae Af Z A8 A9 Aa As Ai At Au Av A7=some r) :
 Calls Tryz.prog 36 #[.agg #[.int .i64 J,.int .i64 U,.int .i64 X,.int .i64 A1,.slice Aw D.length Ax,.int .i64 Ad,.int .i64 Ae,.string Af,.bool Z],.agg #[.int .i64 A8,.int .i64 A9,.int .i64 Aa,.int .i64 As,.slice AU Ai.length AV,.int .i64 At,.int .i64 Au,.string Av,.bool A7]] w fun e w'=>e = .returned (.bool r)∧Below w.heap.size w w':=by
 have Bd:=Tryz.underlying73;have AW:=Tryz.underlying52;have Ba:=Tryz.underlying69;have AE:=aK Al;have AF:=aK Am;clear Al Am;have B4:=aK AN;have B5:=aK AO;clear AN AO;have HB:=aK (Below.refl w.heap.size w);have H:=h;unfold laws_eqKept.f at H;clear h;obtain⟨AL,A3,H⟩:=bd H;by_cases c4:AL=true
 ·subst c4;replace H:=iT H;obtain⟨AM,A5,H⟩:=bd H;by_cases c6:AM=true
  ·subst c6;replace H:=iT H;by_cases c7:(Z != A7)=true
   ·rw[if_pos c7]at H;have Ay:(Z != A7)=true:=c7;(try (have Az:decide (Z=A7)=false:=by simpa using c7));(try (have Be:(Z==A7)=false:=by simpa using c7));(try (have BB:¬(Z=A7):=by simpa using c7));clear c7;obtain rfl:=oj H
    exact laws_eqKept.z1
   ·rw[if_neg c7]at H;have Ay:(Z != A7)=false:=by simpa using c7
    (try (have Az:decide (Z=A7)=true:=by simpa using c7));(try (have Be:(Z==A7)=true:=by simpa using c7));clear c7;obtain rfl:=oj H
    exact laws_eqKept.z1
  ·replace c6:=bF c6;subst c6;replace H:=iF H;obtain rfl:=oj H
   exact laws_eqKept.z1
 ·replace c4:=bF c4;subst c4;replace H:=iF H;obtain rfl:=oj H
  exact laws_eqKept.z1
def laws_markKept.f (k:Nat) (J:Int) (U:Int) (X:Int) (A1:Int) (D:List (S115)) (Ad:Int) (Ae:Int) (Af:ByteArray) (Z:Bool) (a1:Int):Option (Int×(List (S115))):=(laws_markWal.f k J U X A1 D a1).bind fun AP=>(some (AP.1,AP.2))
theorem laws_markKept.calls (k:Nat) (J:Int) (U:Int) (X:Int) (A1:Int) (Ab:Nat→Prop) (Aj:Value) (D:List (S115)) (Ad:Int) (Ae:Int) (Af:ByteArray) (Z:Bool) (a1:Int) (r1:Int) (r2:List (S115)) (w0 w:World) (hB:Below w0.heap.size w0 w) (B6:Kd.R k115 115 w w0.heap.size Ab Aj D) (h:laws_markKept.f k J U X A1 D Ad Ae Af Z a1=some (r1,r2)) :
 Calls Tryz.prog 37 #[.agg #[.int .i64 J,.int .i64 U,.int .i64 X,.int .i64 A1,Aj,.int .i64 Ad,.int .i64 Ae,.string Af,.bool Z],.int .i64 a1] w fun e w'=>e = .returned (.int .i64 r1)∧Kd.R k115 115 w' w0.heap.size (fun k_=>(Ab k_∨w.heap.size≤k_)) Aj r2∧Below w0.heap.size w0 w'∧Kept w w' (fun k_=>Ab k_):=by
 have Bd:=Tryz.underlying73;have AW:=Tryz.underlying52;have A4:=aK (show Kd.R k115 115 w w0.heap.size (fun k_=>(Ab k_∨w.heap.size≤k_)) Aj D from rM B6 (fun k_ hk=>(.inl hk)));have HK:=aK (Kept.refl w (fun k_=>Ab k_));have HW0:=aK hB.size;have HB:=aK hB;clear hB;have H:=h;unfold laws_markKept.f at H;clear h;replace H:=oB H;obtain⟨⟨Bf,Bg⟩,Bh,H⟩:=H;dsimp only at H;have A3:=aK Bh;clear Bh;obtain⟨rfl,rfl⟩:=t2 H;obtain⟨Bi,Bj,By⟩:=rs A4;subst By
 go_enter Tryz.func37,Tryz.ntmps37
 go_wp2_with (first|((with_reducible refine gd 2 ?_);refine boxW ?_;intro B8 hg w5 hbox hb;replace A4:=rb A4 hb;have AG:=aK hbox;have Ao:=aK ((by rw[hg];exact(by first|exact HK.out.1|exact(show Kept w _ (fun k_=>Ab k_)from by repeat (first|(with_reducible first|exact HK.o|apply Kept.alloc|apply Kept.drewN|apply Kept.drew)|exact HK.o)).1):w.heap.size≤B8));replace HK:=aK (Kept.below (S:=(fun k_=>Ab k_)) (by repeat (first|(with_reducible first|exact HK.o|apply Kept.alloc|apply Kept.drewN|apply Kept.drew)|exact HK.o)) hb);have Ao:=gw (w:=w0) hg;replace HB:=bs (w:=w0) hb;clear hb hbox hg;have:=cf9 AG)|((with_reducible refine gc 23 ?_);refine goesW Tryz.func23 ?_;(with_reducible refine(laws_markWal.calls k J U X A1 (fun k_=>some k_=(.slice Bi D.length Bj:Value).ownBlock) (.slice Bi D.length Bj) D a1 Bf Bg w0 _ ?_ ?_ A3.o).mono ?_);repeat (first|(with_reducible first|exact HB.o|apply below_alloc|apply pw_below_drewN|apply below_drew1|refine below_set ?_ Ao.o)|exact HB.o);exact Kd.R_tight rfl A4.o;rintro e w7 ⟨rfl,Bz,hb,hkp⟩;refine⟨_,rfl,?_⟩;replace AG:=aK (blk_kept bk hkp (fun hs_=>(fun e_=>(Kd.R_ne A4.o AG.o (by decide)) e_) hs_));replace HK:=aK (Kept.then_ (S:=(fun k_=>Ab k_)) (by repeat (first|(with_reducible first|exact HK.o|apply Kept.alloc|apply Kept.drewN|apply Kept.drew|refine Kept.setCell ?_ (.inr Ao.o) _)|exact HK.o)) hkp (fun k_ hs_=>(fun e_=>(A4.out.1 k_ e_.symm)) hs_));replace A4:=aK (Kd.R_reok rfl Bz (fun k_ e_=>A4.out.1 k_ e_));replace HB:=aK (hb)))
 go_ret
 exact⟨fe,rpR A4.o,bl,by repeat (first|(with_reducible first|exact HK.o|apply Kept.alloc|apply Kept.drewN|apply Kept.drew|refine Kept.setCell ?_ (.inr Ao.o) _)|exact HK.o)⟩
def laws_heldEntryS.l0:Nat→List (S115)→Int→Int→Option (Int)
 | 0,_,_,_=>none
 |k+1,x0,x1,x5=>if x5<(x0.length:Int)then(if 0≤x5 then(if((rd_T115 x0 x5).f0)=x1 then((laws_markText.f k (wrap64 (x1+1))).bind fun AJ=>(if((rd_T115 x0 x5).f1).toList=AJ.toList then(laws_heldEntryS.l0 k x0 (wrap64 ((wrap64 (x1+1))+1)) (wrap64 (x5+1)))else(some (-1))))else(some (-1)))else(none))else(some x1)
def laws_heldEntryS.f (k:Nat) (l0:List (S115)) (a1:Int):Option (Int):=laws_heldEntryS.l0 k l0 a1 0
def laws_heldEntryS.T7:Bool×List (List Nat×List Nat):=(true,[([],[]),([],[]),([0,1],[0,1]),([2],[2]),([3],[3]),([],[]),([5],[5]),([4,6],[4,6])])
def laws_heldEntryS.B7:List Nat:=[0,0,3,7,15,0,32,127]
theorem laws_heldEntryS.tab7:rtab .any (opsOf Tryz.f159 7)=laws_heldEntryS.T7:=by kernel_rfl
theorem laws_heldEntryS.bits7:waitsOk laws_heldEntryS.T7.2 laws_heldEntryS.B7=true:=by kernel_rfl
theorem laws_heldEntryS.calls (k:Nat) (A0:Option Addr) (c0:Nat) (l0:List (S115)) (a1:Int) (r:Int) (w:World) (Bk:Kd.C k115 w A0 l0.length l0) (Bl:l0.length≤c0) (h:laws_heldEntryS.f k l0 a1=some r) :
 Calls Tryz.prog 159 #[.slice A0 l0.length c0,.int .i64 a1] w fun e w'=>e = .returned (.int .i64 r)∧Below w.heap.size w w':=by
 have Bm:=aK Bk;have BE:=aK Bl;clear Bk Bl;have HB:=aK (Below.refl w.heap.size w);have H:=h;unfold laws_heldEntryS.f at H;clear h;have H':=aK H;clear H
 go_enter Tryz.func159,Tryz.ntmps159
 go_wp2
 go_loopg [1,5] k (fun kq v1 v5 w'=>∃(An:Int) (Y:Int),v1 = .int .i64 An∧v5 = .int .i64 Y∧Aside0 (laws_heldEntryS.l0 kq l0 An Y=some r)∧Aside0 (kq≤k)∧Aside0 (Below w.heap.size w w'))
 case atStart=>exact⟨(a1),(0),fa,fa,H',⟨Nat.le_refl _⟩,⟨bl⟩⟩
 case round=>
  clear H';obtain⟨An,Y,rfl,rfl,HA,Bn,HB⟩:=hrel;cases gk with
  |zero=>exact absurd HA.o (by simp[laws_heldEntryS.l0])
  |succ k1=>
   have H:=HA.o;clear HA;simp only[laws_heldEntryS.l0]at H;by_cases c3:Y<(l0.length:Int)
   ·rw[if_pos c3]at H;have AK:=dt c3;clear c3;by_cases c4:0≤Y
    ·rw[if_pos c4]at H;have AI:=dt c4;clear c4;have Hq_:=aK H;clear H;have AQ:0≤(Y:Int):=dT am;have AR:Y<(l0.length:Int):=dT am;obtain⟨Ap,Bo,A_,AA⟩:=at_T115 Bm.o Y AQ AR;cases Bo;replace A_:=cz HB A_;replace AA:=cz HB AA;replace AQ:=eq_true AQ;replace AR:=eq_true AR;have H:=Hq_.o;clear Hq_;by_cases c5:((rd_T115 l0 Y).f0)=An
     ·rw[if_pos c5]at H;have Aq:=bT c5;(try rw[Aq]);have Ar:=bE c5;(try rw[Ar]);clear c5;obtain⟨AJ,A6,H⟩:=bd H;have Hq_:=aK H;clear H;(try go_wp2);replace HB:=dW HB;have AS:0≤(Y:Int):=dT am;have AT:Y<(l0.length:Int):=dT am;obtain⟨B9,Bp,Ag,Ah⟩:=at_T115 Bm.o Y AS AT;have AB:=Ah;have AC:=Ag;obtain rfl:Ap=B9:=(by injection Bp);replace Ag:=cz HB Ag;replace Ah:=cz HB Ah;replace AS:=eq_true AS;replace AT:=eq_true AT;refine start_ (n:=8) (S:=fun w'=>w'.cell? (Ap.add ((Y).toNat*2))=some (.int .i64 ((rd_T115 l0 Y).f0))∧w'.cell? ⟨(Ap.add ((Y).toNat*2)).block,(Ap.add ((Y).toNat*2)).off+1,none⟩=some (.string ((rd_T115 l0 Y).f1))) (ds:=[]) (bo 8 0) (by kernel_rfl) rfl rfl ⟨(cy HB AC),(cy HB AB)⟩ (fun hHeld=>?_);refine with_tabW laws_heldEntryS.tab7 laws_heldEntryS.bits7 (fun HT_ HW_=>?_);generalize wr.drew=AX at HB Ag Ah hHeld ⊢;refine pv 0 ?_;refine pv 1 ?_;refine pv 2 ?_;refine pv 3 ?_;refine pv 5 ?_;refine tv 4 ?_;refine oo 6 (fun K hK=>?_)
      refine goesV Tryz.func81 ?_;(with_reducible refine mo (laws_markText.calls k1 (wrap64 (An+1)) AJ _ A6.o) ?_);intro AY hb;replace HB:=bS HB hb;refine hK.out _ _ ⟨(cy HB AC),(cy HB AB)⟩ (fun hHeld=>?_);clear hK K;refine nm 27 ?_;refine pv 7 ?_;have H:=Hq_.o;clear Hq_;by_cases c7:((rd_T115 l0 Y).f1).toList=AJ.toList
      ·rw[if_pos c7]at H;have Ay:=bT c7;(try rw[Ay]);have Az:=bE c7;(try rw[Az]);clear c7;have H':=aK H;clear H;refine done_ (done_of HT_.o (by kernel_rfl)) ?_;(try go_wp2)
       go_roundg k1
       case measure=>have:=Bn.o;omega
       case rel=>exact⟨(wrap64 ((wrap64 (An+1))+1)),(wrap64 (Y+1)),fa,fa,H',⟨by have:=Bn.o;omega⟩,⟨bl⟩⟩
      ·rw[if_neg c7]at H;have Ay:=bN c7;(try rw[Ay]);have Az:=bQ c7;(try rw[Az]);obtain rfl:=oj H;refine done_ (done_of HT_.o (by kernel_rfl)) ?_;(try go_wp2)
       go_ret
       exact⟨fe,bl⟩
     ·rw[if_neg c5]at H;have Aq:=bN c5;(try rw[Aq]);have Ar:=bQ c5;(try rw[Ar]);obtain rfl:=oj H;go_wp2
      go_ret
      exact⟨fe,bl⟩
    ·exact no c4 H
   ·rw[if_neg c3]at H;have AK:=df c3;clear c3;obtain rfl:=oj H;go_wp2
    go_ret
    exact⟨fe,bl⟩
def laws_heldWal.f (k:Nat) (J:Int) (U:Int) (X:Int) (A1:Int) (D:List (S115)) (a1:Int):Option (Int):=(laws_heldEntryS.f k D a1).bind fun AD=>(if AD<0 then(some (-1))else(some AD))
theorem laws_heldWal.z1 {p:Prop} (h:p:=by
 go_enter Tryz.func95,Tryz.ntmps95
 go_wp2_with (first|((with_reducible refine gd 2 ?_);refine boxQ HB ?_;clear HB;intro B_ hg AX AH BA HB hb;clear hb hg;have:=cf5 AH)|((with_reducible refine gc 159 ?_);refine goesW Tryz.func159 ?_;(with_reducible refine mo (laws_heldEntryS.calls k _ _ D a1 AD _ ?_ ?_ A3.o) ?_);exact cB AE HB;exact AF.o;intro AY hb;replace AH:=bv AH hb;replace HB:=bS HB hb))
 go_ret
 exact⟨fe,bl⟩):p:=h
theorem laws_heldWal.calls (k:Nat) (J:Int) (U:Int) (X:Int) (A1:Int) (Aw:Option Addr) (Ax:Nat) (D:List (S115)) (a1:Int) (r:Int) (w:World) (Al:Kd.C k115 w Aw D.length D) (Am:D.length≤Ax) (h:laws_heldWal.f k J U X A1 D a1=some r) :
 Calls Tryz.prog 95 #[.agg #[.int .i64 J,.int .i64 U,.int .i64 X,.int .i64 A1,.slice Aw D.length Ax],.int .i64 a1] w fun e w'=>e = .returned (.int .i64 r)∧Below w.heap.size w w':=by
 have AW:=Tryz.underlying52;have AE:=aK Al;have AF:=aK Am;clear Al Am;have HB:=aK (Below.refl w.heap.size w);have H:=h;unfold laws_heldWal.f at H;clear h;obtain⟨AD,A3,H⟩:=bd H;by_cases c4:AD<0
 ·rw[if_pos c4]at H;have AI:=dt c4;clear c4;obtain rfl:=oj H
  exact laws_heldWal.z1
 ·rw[if_neg c4]at H;have AI:=df c4;clear c4;obtain rfl:=oj H
  exact laws_heldWal.z1
def laws_heldKept.f (k:Nat) (Y:Int) (Z:Int) (A0:Int) (A1:Int) (X:List (S115)) (A4:Int) (A5:Int) (A6:ByteArray) (A7:Bool) (a1:Int):Option (Int):=(laws_heldWal.f k Y Z A0 A1 X a1).bind fun A2=>(if A2<0 then(some (-1))else(some A2))
theorem laws_heldKept.calls (k:Nat) (Y:Int) (Z:Int) (A0:Int) (A1:Int) (A8:Option Addr) (A9:Nat) (X:List (S115)) (A4:Int) (A5:Int) (A6:ByteArray) (A7:Bool) (a1:Int) (r:Int) (w:World) (Aa:Kd.C k115 w A8 X.length X) (Ab:X.length≤A9) (h:laws_heldKept.f k Y Z A0 A1 X A4 A5 A6 A7 a1=some r) :
 Calls Tryz.prog 38 #[.agg #[.int .i64 Y,.int .i64 Z,.int .i64 A0,.int .i64 A1,.slice A8 X.length A9,.int .i64 A4,.int .i64 A5,.string A6,.bool A7],.int .i64 a1] w fun e w'=>e = .returned (.int .i64 r)∧Below w.heap.size w w':=by
 have Ah:=Tryz.underlying73;have Ai:=Tryz.underlying52;have Ac:=aK Aa;have Ad:=aK Ab;clear Aa Ab;have HB:=aK (Below.refl w.heap.size w);have H:=h;unfold laws_heldKept.f at H;clear h;obtain⟨A2,A3,H⟩:=bd H;by_cases c4:A2<0
 ·rw[if_pos c4]at H;have Af:=dt c4;clear c4;obtain rfl:=oj H
  go_enter Tryz.func38,Tryz.ntmps38
  go_wp2_with (first|((with_reducible refine gd 2 ?_);refine boxQ HB ?_;clear HB;intro J hg U D Ae HB hb;clear hb hg;have Aj:U.cell? ⟨J,0,none⟩=some (.int .i64 Y):=cb 0 D;have Ak:U.cell? ⟨J,1,none⟩=some (.int .i64 Z):=cb 1 D;have Al:U.cell? ⟨J,2,none⟩=some (.int .i64 A0):=cb 2 D;have Am:U.cell? ⟨J,3,none⟩=some (.int .i64 A1):=cb 3 D;have An:U.cell? ⟨J,4,none⟩=some (.slice A8 X.length A9):=cb 4 D;have Ao:U.cell? ⟨J,5,none⟩=some (.int .i64 A4):=cb 5 D;have Ap:U.cell? ⟨J,6,none⟩=some (.int .i64 A5):=cb 6 D;have Aq:U.cell? ⟨J,7,none⟩=some (.string A6):=cb 7 D;have Ar:U.cell? ⟨J,8,none⟩=some (.bool A7):=cb 8 D;have As:=blk_frozen D.o 0;have At:=blk_frozen D.o 1;have Au:=blk_frozen D.o 2;have Av:=blk_frozen D.o 3;have Aw:=blk_frozen D.o 4;have Ax:=blk_frozen D.o 5;have Ay:=blk_frozen D.o 6;have Az:=blk_frozen D.o 7;have A_:=blk_frozen D.o 8)|((with_reducible refine gc 95 ?_);refine goesW Tryz.func95 ?_;(with_reducible refine mo (laws_heldWal.calls k Y Z A0 A1 _ _ X a1 A2 _ ?_ ?_ A3.o) ?_);exact cB Ac HB;exact Ad.o;intro Ag hb;replace D:=bv D hb;replace HB:=bS HB hb))
  go_ret
  exact⟨fe,bl⟩
 ·rw[if_neg c4]at H;have Af:=df c4;clear c4;obtain rfl:=oj H
  go_enter Tryz.func38,Tryz.ntmps38
  go_wp2_with (first|((with_reducible refine gd 2 ?_);refine boxQ HB ?_;clear HB;intro J hg U D Ae HB hb;clear hb hg;have AA:U.cell? ⟨J,0,none⟩=some (.int .i64 Y):=cb 0 D;have AB:U.cell? ⟨J,1,none⟩=some (.int .i64 Z):=cb 1 D;have AC:U.cell? ⟨J,2,none⟩=some (.int .i64 A0):=cb 2 D;have AD:U.cell? ⟨J,3,none⟩=some (.int .i64 A1):=cb 3 D;have AE:U.cell? ⟨J,4,none⟩=some (.slice A8 X.length A9):=cb 4 D;have AF:U.cell? ⟨J,5,none⟩=some (.int .i64 A4):=cb 5 D;have AG:U.cell? ⟨J,6,none⟩=some (.int .i64 A5):=cb 6 D;have AH:U.cell? ⟨J,7,none⟩=some (.string A6):=cb 7 D;have AI:U.cell? ⟨J,8,none⟩=some (.bool A7):=cb 8 D;have AJ:=blk_frozen D.o 0;have AK:=blk_frozen D.o 1;have AL:=blk_frozen D.o 2;have AM:=blk_frozen D.o 3;have AN:=blk_frozen D.o 4;have AO:=blk_frozen D.o 5;have AP:=blk_frozen D.o 6;have AQ:=blk_frozen D.o 7;have AR:=blk_frozen D.o 8)|((with_reducible refine gc 95 ?_);refine goesW Tryz.func95 ?_;(with_reducible refine mo (laws_heldWal.calls k Y Z A0 A1 _ _ X a1 A2 _ ?_ ?_ A3.o) ?_);exact cB Ac HB;exact Ad.o;intro Ag hb;replace D:=bv D hb;replace HB:=bS HB hb))
  go_ret
  exact⟨fe,bl⟩
end Go.Proofs.YtndbmllnkjngnaaGreat.PDs
