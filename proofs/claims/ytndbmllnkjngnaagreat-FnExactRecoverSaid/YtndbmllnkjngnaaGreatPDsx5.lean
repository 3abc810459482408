/- Functions of the program, each with its contract, written by a program out of the translation. -/
import Derived.Test.YtndbmllnkjngnaaGreatPDsx0
import Derived.Test.YtndbmllnkjngnaaGreatPDsx31
import Derived.Test.YtndbmllnkjngnaaGreatZip
namespace Go.Proofs.YtndbmllnkjngnaaGreat.PDs
open Go.RowKit Go.Proofs.YtndbmllnkjngnaaGreatW.PrintWords Go.Proofs.YtndbmllnkjngnaaGreatW.PrintLast Go.Proofs.YtndbmllnkjngnaaGreatW.PrintMore Go.Proofs.YtndbmllnkjngnaaGreat.Zip
attribute [local go_sem] max2_int min2_int max_two min_two max_three min_three max_four min_four
set_option linter.unusedVariables false
set_option linter.unusedSimpArgs false
set_option maxHeartbeats 8000000
set_option maxRecDepth 100000
def spec_l4Names.l0:Nat→Int→List (S133)→Int→Int→Int→List (S130)→List (S133)→List (S135)→Option ((List (S133)))
 | 0,_,_,_,_,_,_,_,_=>none
 |k+1,x1,x5,x6,B9,Ba,Bb,Bc,Af=>if x6<x1 then(if x6<(Af.length:Int)then(if 0≤x6 then((spec_l4Apply.f k x5 ((rd_T135 Af x6).f0) ((rd_T135 Af x6).f1) ((rd_T135 Af x6).f2) ((rd_T135 Af x6).f3)).bind fun Bt=>(spec_l4Names.l0 k x1 Bt.1 (wrap64 (x6+1)) B9 Ba Bb Bc Af))else(none))else(some x5))else(some x5)
def spec_l4Names.f (k:Nat) (Y:Int) (Z:Int) (U:List (S130)) (J:List (S133)) (D:List (S135)) (a1:Int):Option ((List (S133))):=(some (([]:List (S133)):List (S133))).bind fun Az=>(if Az.length+J.length<5864062014805 then(spec_l4Names.l0 k a1 (Az++J) 0 Y Z U J D)else(none))
theorem spec_l4Names.calls (k:Nat) (Y:Int) (Z:Int) (Ad:Option Addr) (Ae:Nat) (U:List (S130)) (A8:Option Addr) (A9:Nat) (J:List (S133)) (A5:Option Addr) (A6:Nat) (D:List (S135)) (a1:Int) (r:List (S133)) (w:World) (Ai:Kd.C k130 w Ad U.length U) (Aj:U.length≤Ae) (Ak:Kd.C k133 w A8 J.length J) (Al:J.length≤A9) (Am:Kd.C k135 w A5 D.length D) (An:D.length≤A6) (h:spec_l4Names.f k Y Z U J D a1=some r) :
 Calls Tryz.prog 110 #[.agg #[.int .i64 Y,.int .i64 Z,.slice Ad U.length Ae,.slice A8 J.length A9,.slice A5 D.length A6],.int .i64 a1] w fun e w'=>∃BM:Value,e = .returned (BM)∧Kd.R k133 133 w' w.heap.size (fun _=>True) BM r∧Below w.heap.size w w':=by
 have Bh:=Tryz.underlying35;have C5:=Tryz.underlying135;have At:=aK Ai;have A_:=aK Aj;clear Ai Aj;have Ap:=aK Ak;have AA:=aK Al;clear Ak Al;have Aq:=aK Am;have AB:=aK An;clear Am An;have HB:=aK (Below.refl w.heap.size w);have H:=h;unfold spec_l4Names.f at H;clear h;obtain⟨Az,AG⟩:∃y_:List (S133),y_=(([]:List (S133))):=⟨_,rfl⟩;replace H:(if Az.length+J.length<5864062014805 then(spec_l4Names.l0 k a1 (Az++J) 0 Y Z U J D)else(none))=some r:=by first|(rw[AG];with_reducible exact H)|(have Ar:=(Option.bind_some _ _).symm.trans H;rw[AG];with_reducible exact Ar)|(have Ar:=(Option.bind_some _ _).symm.trans H;with_reducible exact Ar)|with_reducible exact H|(rw[AG];exact H)|exact H
 have Bd:=aK AG;clear AG;by_cases c3:Az.length+J.length<5864062014805
 ·rw[if_pos c3]at H;have B4:=aK c3;clear c3;obtain⟨BN,AT⟩:=yy (Az++J);rw[←AT]at H;(try rw[obs]at H)
  have Bu:=aK AT;clear AT;have H':=aK H;clear H
  go_enter Tryz.func110,Tryz.ntmps110
  go_wp2_with (first|((with_reducible refine gd 2 ?_);(try (refine gate_guard rfl ?_;dsimp only));refine boxQ HB ?_;clear HB;intro Av hg Br X Bi HB hb;clear hb hg)|((with_reducible refine gd 7 ?_);(try (refine gate_guard rfl ?_;dsimp only));refine Kd.R_lit k133 _ 133 ?hg (N:=7) ?hd (xs:=([]:List (S133))) (inner:=[]) (ok:=fun _=>True) (okp:=fun _=>True) ?hr ?hp (fun _ hk=>hk) trivial (Below.refl _ _) (Nat.le_refl _) (by simp) ?_;(case hd=>rfl);(case hg=>rfl);(case hr=>first|(go_simp;done)|(go_simp;rfl));(case hp=>exact(Reps.none _ _));intro Bs AH Ao hb hg_ hnew_;clear hg_ hnew_;(first|rw[←Bd.o]at Ao|(simp only[Int.reduceToNat]at Ao;rw[←Bd.o]at Ao));have Aw:=rl HB Ao;replace X:=bv X hb;replace HB:=bS HB hb;clear hb Ao;have:=cf5 X)|((with_reducible refine gate_builtin (b:=.append) (xs:=#[.tmp 7,.tmp 9]) rfl ?_);(try (refine gate_guard rfl ?_;dsimp only));at_builtin;refine Kd.R_append_rows k133 (w0:=w) w.heap.size rfl (.tmp 7) (.tmp 9) 32 133 (.agg #[(.string ⟨#[]⟩),(.int .i64 0)]) 24 rfl Tryz.underlying32 info133 rfl (by decide) (by omega) Bs Az J _ _ _ (fun _=>True) (fun _=>False) rfl rfl ?aO ?aR (fun _ _ h=>h) (fun _ h=>h.elim) ?aF ?aB ?aS ?aL ?_;(case aR=>exact cB Ap HB);(case aB=>exact bl);(case aF=>exact(fun _ _=>trivial));(case aO=>exact(rpR Aw.o));(case aS=>exact(below_size bl));(case aL=>have:=B4.o;omega);intro C2 C6 ho hb hg hat;rw[←Bu.o]at ho;replace X:=aK (blk_grown (g:=Av) (o:=.cells #[.int .i64 Y,.int .i64 Z,.slice Ad U.length Ae,.slice A8 J.length A9,.slice A5 D.length A6] 35 (0,0)) bk hg (Kd.R_ne Aw.o X.o (by decide)));replace HB:=aK (hb);have Ag:=aK (ho);clear Aw;clear ho hb hg hat))
  go_loopg [5,6] k (fun kq v5 v6 w'=>∃(AK:List (S133)) (Ac:Int),v6 = .int .i64 Ac∧Aside0 (spec_l4Names.l0 kq a1 AK Ac Y Z U J D=some r)∧Aside0 (kq≤k)∧Aside0 (Kd.R k133 133 w' w.heap.size (fun _=>True) v5 AK)∧Aside0 (w'.heap[Av]? = some (.cells #[.int .i64 Y,.int .i64 Z,(.slice Ad U.length Ae),(.slice A8 J.length A9),(.slice A5 D.length A6)] 35 (0,0)))∧Aside0 (Below w.heap.size w w'))
  case atStart=>exact⟨(BN),(0),fa,H',⟨Nat.le_refl _⟩,⟨rpR Ag.o⟩,⟨bw X⟩,⟨bl⟩⟩
  case round=>
   clear H';obtain⟨AK,Ac,rfl,HA,BO,AL,X,HB⟩:=hrel;cases gk with
   |zero=>exact absurd HA.o (by simp[spec_l4Names.l0])
   |succ k1=>
    have H:=HA.o;clear HA;simp only[spec_l4Names.l0]at H;by_cases c9:Ac<a1
    ·rw[if_pos c9]at H;have BP:=dt c9;clear c9;by_cases c10:Ac<(D.length:Int)
     ·rw[if_pos c10]at H;have Be:=dt c10;clear c10;by_cases AM:0≤Ac
      ·rw[if_pos AM]at H;have Bv:=dt AM;clear AM;replace H:=oB H;obtain⟨⟨Bk,BQ⟩,Bl,H⟩:=H;dsimp only at H;have Bw:=aK Bl;clear Bl;have H':=aK H;clear H;have:=cf5 X;have Bx:0≤(Ac:Int):=dT am;have By:Ac<(D.length:Int):=dT am;obtain⟨Ca,C7,AW,AX,AY,AZ⟩:=at_T135 Aq.o Ac Bx By;cases C7;replace AW:=cz HB AW;replace AX:=cz HB AX;replace AY:=cz HB AY;replace AZ:=cz HB AZ;replace Bx:=eq_true Bx;replace By:=eq_true By;obtain⟨Bm,Bn,BR⟩:=rs AL;subst BR
       go_wp2_with (first|((with_reducible refine gc 105 ?_);refine goesW Tryz.func105 ?_;(with_reducible refine(spec_l4Apply.calls k1 (fun k_=>some k_=(.slice Bm AK.length Bn:Value).ownBlock) (.slice Bm AK.length Bn) AK ((rd_T135 D Ac).f0) ((rd_T135 D Ac).f1) ((rd_T135 D Ac).f2) ((rd_T135 D Ac).f3) Bk BQ w _ ?_ ?_ Bw.o).mono ?_);repeat (first|(with_reducible first|exact HB.o|apply below_alloc|apply pw_below_drewN|apply below_drew1|refine below_set ?_ Bi.o)|exact HB.o);exact Kd.R_tight rfl AL.o;rintro e Ci ⟨Cj,rfl,BS,hb,hkp⟩;refine⟨_,rfl,?_⟩;replace X:=aK (blk_kept bk hkp (fun hs_=>(fun e_=>(Kd.R_ne AL.o X.o (by decide)) e_) hs_));have BT:=aK (rM (ok':=fun k_=>True) BS (fun k_ hk_=>trivial));replace HB:=aK (hb);clear AL))
       go_roundg k1
       case measure=>have:=BO.o;omega
       case rel=>exact⟨(Bk),(wrap64 (Ac+1)),fa,H',⟨by have:=BO.o;omega⟩,⟨rpR BT.o⟩,⟨bw X⟩,⟨bl⟩⟩
      ·exact no AM H
     ·rw[if_neg c10]at H;have Be:=df c10;clear c10;obtain rfl:=oj H;have:=cf5 X;go_wp2
      go_ret
      exact⟨_,fe,rpR AL.o,bl⟩
    ·rw[if_neg c9]at H;have BP:=df c9;clear c9;obtain rfl:=oj H;go_wp2
     go_ret
     exact⟨_,fe,rpR AL.o,bl⟩
 ·exact no c3 H
def spec_l4Find.f (k:Nat) (Y:Int) (Z:Int) (U:List (S130)) (J:List (S133)) (D:List (S135)) (a1:ByteArray):Option (Int):=(spec_l4Names.f k Y Z U J D (D.length:Int)).bind fun Aa=>((spec_l4At.f k Aa a1).bind fun A2=>(if A2<0 then(some (-1))else(if 0≤A2 then(if A2<(Aa.length:Int)then((spec_l4Inode.f k Y Z U J D ((rd_T133 Aa A2).f1)).bind fun Bf=>(some Bf))else(none))else(none))))
def spec_l4Find.T5:Bool×List (List Nat×List Nat):=(true,[([],[]),([],[]),([],[]),([1,2],[1,2]),([3],[3]),([4],[4]),([0,5],[0,5]),([6,6,0,1,2,3,4,5,6],[6])])
def spec_l4Find.B5:List Nat:=[0,0,0,6,14,30,63,127]
theorem spec_l4Find.tab5:rtab .any (opsOf Tryz.f106 5)=spec_l4Find.T5:=by kernel_rfl
theorem spec_l4Find.bits5:waitsOk spec_l4Find.T5.2 spec_l4Find.B5=true:=by kernel_rfl
theorem spec_l4Find.calls (k:Nat) (Y:Int) (Z:Int) (Ad:Option Addr) (Ae:Nat) (U:List (S130)) (A8:Option Addr) (A9:Nat) (J:List (S133)) (A5:Option Addr) (A6:Nat) (D:List (S135)) (a1:ByteArray) (r:Int) (w:World) (Ai:Kd.C k130 w Ad U.length U) (Aj:U.length≤Ae) (Ak:Kd.C k133 w A8 J.length J) (Al:J.length≤A9) (Am:Kd.C k135 w A5 D.length D) (An:D.length≤A6) (h:spec_l4Find.f k Y Z U J D a1=some r) :
 Calls Tryz.prog 106 #[.agg #[.int .i64 Y,.int .i64 Z,.slice Ad U.length Ae,.slice A8 J.length A9,.slice A5 D.length A6],.string a1] w fun e w'=>e = .returned (.int .i64 r)∧Below w.heap.size w w':=by
 have Bh:=Tryz.underlying35;have At:=aK Ai;have A_:=aK Aj;clear Ai Aj;have Ap:=aK Ak;have AA:=aK Al;clear Ak Al;have Aq:=aK Am;have AB:=aK An;clear Am An;have HB:=aK (Below.refl w.heap.size w);have H:=h;unfold spec_l4Find.f at H;clear h;obtain⟨Aa,A3,H⟩:=bd H;obtain⟨A2,A4,H⟩:=bd H;by_cases c5:A2<0
 ·rw[if_pos c5]at H;have BU:=dt c5;clear c5;obtain rfl:=oj H
  go_enter Tryz.func106,Tryz.ntmps106
  go_wp2_with (first|((with_reducible refine gd 2 ?_);refine boxQ HB ?_;clear HB;intro As hg Br A0 Bz HB hb;clear hb hg;have:=cf5 A0)|((with_reducible refine gc 110 ?_);refine goesW Tryz.func110 ?_;(with_reducible refine(spec_l4Names.calls k Y Z _ _ U _ _ J _ _ D (D.length:Int) Aa _ ?_ ?_ ?_ ?_ ?_ ?_ A3.o).mono ?_);exact cB At HB;exact A_.o;exact cB Ap HB;exact AA.o;exact cB Aq HB;exact AB.o;rintro e AH ⟨BV,rfl,B_,hb⟩;refine⟨_,rfl,?_⟩;have A1:=rl HB B_;replace A0:=bv A0 hb;replace HB:=bS HB hb;obtain⟨Ax,Ay,rfl⟩:=rs A1)|((with_reducible refine gc 160 ?_);refine goesW Tryz.func160 ?_;(with_reducible refine mo (spec_l4At.calls k _ _ Aa a1 A2 _ ?_ ?_ A4.o) ?_);exact ca (cR A1.o);exact cl A1;rintro _ ⟨nd,rfl⟩))
  go_ret
  exact⟨fe,bl⟩
 ·rw[if_neg c5]at H;have BU:=df c5;clear c5;by_cases c10:0≤A2
  ·rw[if_pos c10]at H;have Be:=dt c10;clear c10;by_cases AM:A2<(Aa.length:Int)
   ·rw[if_pos AM]at H;have Bv:=dt AM;clear AM;obtain⟨Bf,Bw,H⟩:=bd H;obtain rfl:=oj H
    go_enter Tryz.func106,Tryz.ntmps106
    (try go_wp2_with (first|((with_reducible refine gd 2 ?_);refine boxQ HB ?_;clear HB;intro As hg Br A0 Bz HB hb;clear hb hg;have:=cf5 A0)|((with_reducible refine gc 110 ?_);refine goesW Tryz.func110 ?_;(with_reducible refine(spec_l4Names.calls k Y Z _ _ U _ _ J _ _ D (D.length:Int) Aa _ ?_ ?_ ?_ ?_ ?_ ?_ A3.o).mono ?_);exact cB At HB;exact A_.o;exact cB Ap HB;exact AA.o;exact cB Aq HB;exact AB.o;rintro e AH ⟨BV,rfl,B_,hb⟩;refine⟨_,rfl,?_⟩;have A1:=rl HB B_;replace A0:=bv A0 hb;replace HB:=bS HB hb;obtain⟨Ax,Ay,rfl⟩:=rs A1)|((with_reducible refine gc 160 ?_);refine goesW Tryz.func160 ?_;(with_reducible refine mo (spec_l4At.calls k _ _ Aa a1 A2 _ ?_ ?_ A4.o) ?_);exact ca (cR A1.o);exact cl A1;rintro _ ⟨nd,rfl⟩)))
    (try (rw[drewN_self AH];generalize hq_:World.drewN AH _=AH;have BW:Aside0 (Kd.R k133 133 AH w.heap.size (fun _=>True) (.slice Ax Aa.length Ay) Aa):=⟨by rw[←hq_];exact(rpR A1.o)⟩;have BX:Aside0 (AH.heap[As]? = some (.cells #[.int .i64 Y,.int .i64 Z,.slice Ad U.length Ae,.slice A8 J.length A9,.slice A5 D.length A6] 35 (0,0))):=⟨by rw[←hq_];exact bk⟩;have BY:Aside0 (Below w.heap.size w AH):=⟨by rw[←hq_];exact bl⟩;clear A1 A0 HB hq_;have A1:=BW;have A0:=BX;have HB:=BY;clear BW BX BY));replace A1:=dR A1;replace A0:=dB A0;replace HB:=dW HB;have BA:0≤(A2:Int):=dT am;have BB:A2<(Aa.length:Int):=dT am;obtain⟨Bg,C8,B0,B1⟩:=at_T133 (Kd.R_reads' A1.o).2.2 A2 BA BB;cases C8;replace BA:=eq_true BA;replace BB:=eq_true BB
    refine start_ (n:=8) (S:=fun w'=>w'.cell? ⟨As,0,none⟩=some (.int .i64 Y)∧w'.cell? ⟨As,1,none⟩=some (.int .i64 Z)∧w'.cell? ⟨As,2,none⟩=some (.slice Ad U.length Ae)∧w'.cell? ⟨As,3,none⟩=some (.slice A8 J.length A9)∧w'.cell? ⟨As,4,none⟩=some (.slice A5 D.length A6)∧w'.cell? (Bg.add ((A2).toNat*2))=some (.string ((rd_T133 Aa A2).f0))∧w'.cell? ⟨(Bg.add ((A2).toNat*2)).block,(Bg.add ((A2).toNat*2)).off+1,none⟩=some (.int .i64 ((rd_T133 Aa A2).f1))) (ds:=[]) (bo 8 0) (by kernel_rfl) rfl rfl ⟨cb 0 A0,cb 1 A0,cb 2 A0,cb 3 A0,cb 4 A0,B0,B1⟩ (fun hHeld=>?_);refine with_tabW spec_l4Find.tab5 spec_l4Find.bits5 (fun HT_ HW_=>?_);generalize AH.drew=C1 at A1 A0 HB B0 B1 hHeld ⊢;refine pv 1 ?_;refine pv 2 ?_;refine pv 3 ?_;refine pv 4 ?_;refine tv 0 ?_;refine tv 5 ?_;refine oo 6 (fun K hK=>?_);refine goesV Tryz.func104 ?_;(with_reducible refine(spec_l4Inode.calls k Y Z _ _ U _ _ J _ _ D ((rd_T133 Aa A2).f1) Bf _ ?_ ?_ ?_ ?_ ?_ ?_ Bw.o).mono ?_);exact cB At HB;exact A_.o;exact cB Ap HB
    exact AA.o;exact cB Aq HB;exact AB.o;rintro e C6 ⟨rfl,hb⟩;have BZ:=(hb.cell (bL _ _ (hHeld.2.2.2.2.2.1))).trans (hHeld.2.2.2.2.2.1);have C0:=(hb.cell (bL _ _ (hHeld.2.2.2.2.2.2))).trans (hHeld.2.2.2.2.2.2);refine⟨_,rfl,?_⟩;replace A1:=rb A1 hb;replace A0:=bv A0 hb;replace HB:=bS HB hb;refine hK.out _ _ ⟨cb 0 A0,cb 1 A0,cb 2 A0,cb 3 A0,cb 4 A0,BZ,C0⟩ (fun hHeld=>?_);clear hK K;refine nm 23 ?_;refine pv 7 ?_;refine done_ (done_of HT_.o (by kernel_rfl)) ?_;(try go_wp2)
    go_ret
    exact⟨fe,bl⟩
   ·exact no AM H
  ·exact no c10 H
end Go.Proofs.YtndbmllnkjngnaaGreat.PDs
