/- Functions of the program, each with its contract, written by a program out of the translation. -/
import Derived.Test.YtndbmllnkjngnaaGreatPDsx0
import Derived.Test.YtndbmllnkjngnaaGreatPDsxH
import Derived.Test.YtndbmllnkjngnaaGreatPDsx1
import Derived.Test.YtndbmllnkjngnaaGreatPDsx5
import Derived.Test.YtndbmllnkjngnaaGreatZup
namespace Go.Proofs.YtndbmllnkjngnaaGreat.PDs
open Go.RowKit Go.Proofs.YtndbmllnkjngnaaGreatW.PrintWords Go.Proofs.YtndbmllnkjngnaaGreatW.PrintLast Go.Proofs.YtndbmllnkjngnaaGreatW.PrintMore Go.Proofs.YtndbmllnkjngnaaGreat.Zip
attribute [local go_sem] max2_int min2_int max_two min_two max_three min_three max_four min_four
set_option linter.unusedVariables false
set_option linter.unusedSimpArgs false
set_option maxHeartbeats 8000000
set_option maxRecDepth 100000
def impl_Inode_124.f (l0:List (S130)):Option ((List (S130))):=if l0.length<4398046511104 then some l0 else none
theorem impl_Inode_124.calls (A0:Option Addr) (c0:Nat) (l0:List (S130)) (r:List (S130)) (w:World) (Ak:Kd.C k130 w A0 l0.length l0) (AC:l0.length≤c0) (h:impl_Inode_124.f l0=some r) :
 Calls Tryz.prog 124 #[.slice A0 l0.length c0] w fun e w'=>∃AD:Value,e = .returned (AD)∧Kd.R k130 130 w' w.heap.size (fun _=>True) AD r∧Below w.heap.size w w':=by
 have c1:l0.length<4398046511104:=by
  by_cases c:l0.length<4398046511104
  ·exact c
  ·simp[impl_Inode_124.f,c]at h
 obtain rfl:l0=r:=by simpa [impl_Inode_124.f,c1] using h
 have LMc:=aK c1;clear c1 h;have HB:=aK (Below.refl w.heap.size w);cases A0 with
 |none=>
  have hl:l0 = []:=by
   rcases Nat.eq_zero_or_pos l0.length with g|g
   ·exact List.length_eq_zero_iff.1 g
   ·obtain⟨ad,e,_⟩:=Ak.2.2 g;cases e
  subst hl;clear Ak AC;have hq:=fun(w:World) (n c:Nat)=>Lib.run_eql_slice_nil (P:=Tryz.prog) w 31 130 none n c 0 0 Tryz.underlying31
  simp only[Option.isNone_none]at hq
  go_enter Tryz.func124,Tryz.ntmps124
  go_wp2
  go_ret
  exact⟨_,rfl,Kd.R_nil _ _ _ _ _,bl⟩
 |some ad=>
  have AU:=aK Ak;clear Ak AC;have hq:=fun(w:World) (n c:Nat)=>Lib.run_eql_slice_nil (P:=Tryz.prog) w 31 130 (some ad) n c 0 0 Tryz.underlying31
  simp only[Option.isNone_some]at hq
  go_enter Tryz.func124,Tryz.ntmps124
  go_wp2_with (first|((with_reducible refine gD 5 rfl ?_);refine Kd.R_lit k130 _ 130 ?hg (N:=5) ?hd (xs:=([]:List (S130))) (inner:=[]) (ok:=fun _=>True) (okp:=fun _=>True) ?hr ?hp (fun _ hk=>hk) trivial (Below.refl _ _) (Nat.le_refl _) (by simp) ?_;(case hd=>rfl);(case hg=>rfl);(case hr=>first|(go_simp;done)|(go_simp;rfl));(case hp=>exact(Reps.none _ _));intro v1 w1 ho hb hg_ hnew_;clear hg_ hnew_;have HO:=rl HB ho;replace HB:=bS HB hb;clear hb ho)|((with_reducible refine gate_builtin (b:=.append) (xs:=#[.tmp 5,.tmp 6]) rfl ?_);at_builtin;refine Kd.R_append_rows k130 (w0:=w) w.heap.size rfl (.tmp 5) (.tmp 6) 31 130 (.agg #[(.int .i64 0),(.string ⟨#[]⟩),(.int .i64 0)]) 32 rfl Tryz.underlying31 info130 rfl (by decide) (by omega) v1 [] l0 _ _ _ (fun _=>True) (fun _=>False) rfl rfl ?aO ?aR (fun _ _ h=>h) (fun _ h=>h.elim) ?aF ?aB ?aS ?aL ?_;(case aR=>exact(Kd.C_below AU.o bl));(case aB=>exact bl);(case aF=>exact(fun _ _=>trivial));(case aO=>exact HO.o);(case aS=>exact(below_size bl));(case aL=>have:=LMc.o;simp;omega);intro v2 w2 ho hb hg hat;clear HO HB hg hat;have HO:=aK ho;have HB:=aK hb;clear ho hb;obtain⟨Ao,co,eo⟩:=rs HO;subst eo))
  go_ret
  exact⟨_,rfl,HO.o,bl⟩
def impl_Move.f (l0:List (S135)):Option ((List (S135))):=if l0.length<2932031007402 then some l0 else none
theorem impl_Move.calls (A0:Option Addr) (c0:Nat) (l0:List (S135)) (r:List (S135)) (w:World) (Ak:Kd.C k135 w A0 l0.length l0) (AC:l0.length≤c0) (h:impl_Move.f l0=some r) :
 Calls Tryz.prog 126 #[.slice A0 l0.length c0] w fun e w'=>∃AD:Value,e = .returned (AD)∧Kd.R k135 135 w' w.heap.size (fun _=>True) AD r∧Below w.heap.size w w':=by
 have c1:l0.length<2932031007402:=by
  by_cases c:l0.length<2932031007402
  ·exact c
  ·simp[impl_Move.f,c]at h
 obtain rfl:l0=r:=by simpa [impl_Move.f,c1] using h
 have LMc:=aK c1;clear c1 h;have HB:=aK (Below.refl w.heap.size w);cases A0 with
 |none=>
  have hl:l0 = []:=by
   rcases Nat.eq_zero_or_pos l0.length with g|g
   ·exact List.length_eq_zero_iff.1 g
   ·obtain⟨ad,e,_⟩:=Ak.2.2 g;cases e
  subst hl;clear Ak AC;have hq:=fun(w:World) (n c:Nat)=>Lib.run_eql_slice_nil (P:=Tryz.prog) w 33 135 none n c 0 0 Tryz.underlying33
  simp only[Option.isNone_none]at hq
  go_enter Tryz.func126,Tryz.ntmps126
  go_wp2
  go_ret
  exact⟨_,rfl,Kd.R_nil _ _ _ _ _,bl⟩
 |some ad=>
  have AU:=aK Ak;clear Ak AC;have hq:=fun(w:World) (n c:Nat)=>Lib.run_eql_slice_nil (P:=Tryz.prog) w 33 135 (some ad) n c 0 0 Tryz.underlying33
  simp only[Option.isNone_some]at hq
  go_enter Tryz.func126,Tryz.ntmps126
  go_wp2_with (first|((with_reducible refine gD 5 rfl ?_);refine Kd.R_lit k135 _ 135 ?hg (N:=5) ?hd (xs:=([]:List (S135))) (inner:=[]) (ok:=fun _=>True) (okp:=fun _=>True) ?hr ?hp (fun _ hk=>hk) trivial (Below.refl _ _) (Nat.le_refl _) (by simp) ?_;(case hd=>rfl);(case hg=>rfl);(case hr=>first|(go_simp;done)|(go_simp;rfl));(case hp=>exact(Reps.none _ _));intro v1 w1 ho hb hg_ hnew_;clear hg_ hnew_;have HO:=rl HB ho;replace HB:=bS HB hb;clear hb ho)|((with_reducible refine gate_builtin (b:=.append) (xs:=#[.tmp 5,.tmp 6]) rfl ?_);at_builtin;refine Kd.R_append_rows k135 (w0:=w) w.heap.size rfl (.tmp 5) (.tmp 6) 33 135 (.agg #[(.int .i64 0),(.string ⟨#[]⟩),(.string ⟨#[]⟩),(.int .i64 0)]) 48 rfl Tryz.underlying33 info135 rfl (by decide) (by omega) v1 [] l0 _ _ _ (fun _=>True) (fun _=>False) rfl rfl ?aO ?aR (fun _ _ h=>h) (fun _ h=>h.elim) ?aF ?aB ?aS ?aL ?_;(case aR=>exact(Kd.C_below AU.o bl));(case aB=>exact bl);(case aF=>exact(fun _ _=>trivial));(case aO=>exact HO.o);(case aS=>exact(below_size bl));(case aL=>have:=LMc.o;simp;omega);intro v2 w2 ho hb hg hat;clear HO HB hg hat;have HO:=aK ho;have HB:=aK hb;clear ho hb;obtain⟨Ao,co,eo⟩:=rs HO;subst eo))
  go_ret
  exact⟨_,rfl,HO.o,bl⟩
def impl_copyDisk.f (A6:Int) (A7:Int) (A5:List (S130)) (Z:List (S133)) (X:List (S135)):Option (Int×Int×(List (S130))×(List (S133))×(List (S135))):=(impl_Inode_124.f A5).bind fun Ay=>((impl_Link_125.f Z).bind fun AE=>((impl_Move.f X).bind fun AO=>(some (A6,A7,Ay,AE,AO))))
theorem impl_copyDisk.calls (A6:Int) (A7:Int) (Az:Option Addr) (A_:Nat) (A5:List (S130)) (Al:Option Addr) (Am:Nat) (Z:List (S133)) (Ai:Option Addr) (Aj:Nat) (X:List (S135)) (r1:Int) (r2:Int) (r3:List (S130)) (r4:List (S133)) (r5:List (S135)) (w:World) (An:Kd.C k130 w Az A5.length A5) (Ap:A5.length≤A_) (Aq:Kd.C k133 w Al Z.length Z) (Ar:Z.length≤Am) (As:Kd.C k135 w Ai X.length X) (At:X.length≤Aj) (h:impl_copyDisk.f A6 A7 A5 Z X=some (r1,r2,r3,r4,r5)) :
 Calls Tryz.prog 60 #[.agg #[.int .i64 A6,.int .i64 A7,.slice Az A5.length A_,.slice Al Z.length Am,.slice Ai X.length Aj]] w fun e w'=>∃Ba Bb Bc:Value,e = .returned (.agg #[.int .i64 r1,.int .i64 r2,Ba,Bb,Bc])∧Kd.R k130 130 w' w.heap.size (fun _=>True) Ba r3∧Kd.R k133 133 w' w.heap.size (fun _=>True) Bb r4∧Kd.R k135 135 w' w.heap.size (fun _=>True) Bc r5∧Below w.heap.size w w':=by
 have Bd:=Tryz.underlying35;have AH:=aK An;have AI:=aK Ap;clear An Ap;have Au:=aK Aq;have Av:=aK Ar;clear Aq Ar;have Aw:=aK As;have Ax:=aK At;clear As At;have HB:=aK (Below.refl w.heap.size w);have H:=h;unfold impl_copyDisk.f at H;clear h;obtain⟨Ay,A2,H⟩:=bd H;obtain⟨AE,A3,H⟩:=bd H;obtain⟨AO,A4,H⟩:=bd H;simp only[Option.some.injEq,Prod.mk.injEq]at H;obtain⟨rfl,rfl,rfl,rfl,rfl⟩:=H
 go_enter Tryz.func60,Tryz.ntmps60
 go_wp2_with (first|((with_reducible refine gD 1 rfl ?_);refine boxW ?_;intro AV hg w5 hbox hb;have J:=aK hbox;have Bz:=gW HB hg;replace HB:=bS HB hb;clear hb hbox hg)|((with_reducible refine gD 2 rfl ?_);refine boxW ?_;intro AJ hg w6 hbox hb;have Ac:=aK hbox;have B_:=gW HB hg;replace HB:=bS HB hb;have AK:=nl J hg;have AL:=nr J hg;replace J:=bv J hb;clear hb hbox hg;have BE:=AK.o;have BF:=AL.o;have:=cf5 J)|((with_reducible refine gC 124 rfl ?_);refine goesW Tryz.func124 ?_;(with_reducible refine(impl_Inode_124.calls _ _ A5 Ay _ ?_ ?_ A2.o).mono ?_);exact cB AH HB;exact AI.o;rintro e w9 ⟨BG,rfl,A9,hb⟩;refine⟨_,rfl,?_⟩;have Ag:=rl HB A9;replace J:=bv J hb;replace Ac:=bv Ac hb;replace HB:=bS HB hb;(try clear hb A9);obtain⟨AW,AX,rfl⟩:=rs Ag;have:=cf5 J)|((with_reducible refine gC 125 rfl ?_);refine goesW Tryz.func125 ?_;(with_reducible refine(impl_Link_125.calls _ _ Z AE _ ?_ ?_ A3.o).mono ?_);exact Kd.C_below Au.o bl;exact Av.o;rintro e BL ⟨BH,rfl,A9,hb⟩;refine⟨_,rfl,?_⟩;replace Ag:=rB (f1 Ag J) hb;have AA:=rl HB A9;replace J:=aK (blk_below (g:=AV) (o:=.cells #[.int .i64 A6,.int .i64 A7,.slice AW Ay.length AX,.slice Al Z.length Am,.slice Ai X.length Aj] 35 (0,0)) bkk hb);replace Ac:=aK (blk_below (g:=AJ) (o:=.cells #[.int .i64 0,.int .i64 0,.slice none 0 0,.slice none 0 0,.slice none 0 0] 35 (0,0)) bkk hb);replace HB:=bS HB hb;(try clear hb A9);obtain⟨B0,B1,rfl⟩:=rs AA;have:=cf5 J)|((with_reducible refine gC 126 rfl ?_);refine goesW Tryz.func126 ?_;(with_reducible refine(impl_Move.calls _ _ X AO _ ?_ ?_ A4.o).mono ?_);exact Kd.C_below Aw.o bl;exact Ax.o;rintro e BM ⟨BI,rfl,A9,hb⟩;refine⟨_,rfl,?_⟩;replace Ag:=rB (f1 Ag J) hb;replace AA:=rB (f1 AA J) hb;have AY:=rl HB A9;replace J:=aK (blk_below (g:=AV) (o:=.cells #[.int .i64 A6,.int .i64 A7,.slice AW Ay.length AX,.slice B0 AE.length B1,.slice Ai X.length Aj] 35 (0,0)) bkk hb);replace Ac:=aK (blk_below (g:=AJ) (o:=.cells #[.int .i64 0,.int .i64 0,.slice none 0 0,.slice none 0 0,.slice none 0 0] 35 (0,0)) bkk hb);replace HB:=bS HB hb;(try clear hb A9);obtain⟨Be,Bf,rfl⟩:=rs AY;have:=cf5 J;have:=cf5 Ac))
 refine bodyPost_ret (results_cell_row rfl _ _ AJ 35 #[.int .i64 A6,.int .i64 A7,.slice AW Ay.length AX,.slice B0 AE.length B1,.slice Be AO.length Bf] (0,0) _ rfl bkk Tryz.underlying35 rfl (by kernel_rfl)) rfl ?_;exact⟨_,_,_,fe,rpR (rM (mB (qb (qb (qb (qb (qb (qa (eB Ag J Ac)))))))) (fun _ hk=>trivial)),rpR (rM (mB (qb (qb (qb (qb (qb (qa (eB AA J Ac)))))))) (fun _ hk=>trivial)),rpR (rM (mB (qb (qb (qb (qb (qb (qa (eB AY J Ac)))))))) (fun _ hk=>trivial)),bl⟩
def impl_names.l0:Nat→List (S133)→List (S135)→Int→Int→Option ((List (S133)))
 | 0,_,_,_,_=>none
 |k+1,x0,x9,Bg,AF=>if AF<Bg then(if 0≤AF then(if AF<(x9.length:Int)then((impl_applied.f k x0 ((rd_T135 x9 AF).f0) ((rd_T135 x9 AF).f1) ((rd_T135 x9 AF).f2) ((rd_T135 x9 AF).f3)).bind fun B6=>(impl_names.l0 k B6.1 x9 Bg (wrap64 (AF+1))))else(none))else(none))else(some x0)
def impl_names.f (k:Nat) (l0:List (S133)) (l1:List (S135)):Option ((List (S133))):=(impl_Link_125.f l0).bind fun AP=>(impl_names.l0 k AP l1 (l1.length:Int) 0)
theorem impl_names.calls (k:Nat) (A0:Option Addr) (c0:Nat) (l0:List (S133)) (A1:Option Addr) (c1:Nat) (l1:List (S135)) (r:List (S133)) (w:World) (Ak:Kd.C k133 w A0 l0.length l0) (AC:l0.length≤c0) (Bh:Kd.C k135 w A1 l1.length l1) (Bi:l1.length≤c1) (h:impl_names.f k l0 l1=some r) :
 Calls Tryz.prog 118 #[.slice A0 l0.length c0,.slice A1 l1.length c1] w fun e w'=>∃AD:Value,e = .returned (AD)∧Kd.R k133 133 w' w.heap.size (fun _=>True) AD r∧Below w.heap.size w w':=by
 have BA:=Tryz.underlying135;have AU:=aK Ak;have BB:=aK AC;clear Ak AC;have BC:=aK Bh;have BN:=aK Bi;clear Bh Bi;have HB:=aK (Below.refl w.heap.size w);have H:=h;unfold impl_names.f at H;clear h;obtain⟨AP,A3,H⟩:=bd H;have H':=aK H;clear H
 go_enter Tryz.func118,Tryz.ntmps118
 go_wp2_with (first|((with_reducible refine gC 125 rfl ?_);refine goesW Tryz.func125 ?_;(with_reducible refine(impl_Link_125.calls _ _ l0 AP _ ?_ ?_ A3.o).mono ?_);exact ca AU.o;exact BB.o;rintro e w4 ⟨BJ,rfl,A9,hb⟩;refine⟨_,rfl,?_⟩;have B7:=rl HB A9;replace HB:=bS HB hb;(try clear hb A9)))
 go_loopg [0,11] k (fun kq v0 BD w'=>∃(AQ:List (S133)) (U:Int),BD = .int .i64 U∧Aside0 (impl_names.l0 kq AQ l1 (l1.length:Int) U=some r)∧Aside0 (kq≤k)∧Aside0 (Kd.R k133 133 w' w.heap.size (fun _=>True) v0 AQ)∧Aside0 (Below w.heap.size w w'))
 case atStart=>exact⟨(AP),(0),fa,H',⟨Nat.le_refl _⟩,⟨rpR B7.o⟩,⟨bl⟩⟩
 case round=>
  clear H';(try clear c1);(try clear p2);obtain⟨AQ,U,rfl,HA,Bj,Ad,HB⟩:=hrel;cases gk with
  |zero=>exact absurd HA.o (by simp[impl_names.l0])
  |succ k1=>
   have H:=HA.o;clear HA;simp only[impl_names.l0]at H;by_cases c5:U<(l1.length:Int)
   ·rw[if_pos c5]at H;have Bk:=dt c5;clear c5;by_cases c6:0≤U
    ·rw[if_pos c6]at H;have Bl:=dt c6;clear c6;by_cases c7:U<(l1.length:Int)
     ·rw[if_pos c7]at H;have Bm:=dt c7;clear c7;replace H:=oB H;obtain⟨⟨B2,Bn⟩,Bo,H⟩:=H;dsimp only at H;have A8:=aK Bo;clear Bo;have H':=aK H;clear H;have AM:0≤(U:Int):=dT am;have AN:U<(l1.length:Int):=dT am;obtain⟨AR,B8,Ae,Af,AS,AT⟩:=at_T135 BC.o U AM AN;cases B8;replace Ae:=cz HB Ae;replace Af:=cz HB Af;replace AS:=cz HB AS;replace AT:=cz HB AT;replace AM:=eq_true AM;replace AN:=eq_true AN
      go_wp2_with (first|((with_reducible refine gD 6 rfl ?_);refine boxW ?_;intro Bp hg Bq hbox hb;replace Ad:=rb Ad hb;have AG:=aK hbox;have BK:=gW HB hg;replace HB:=bS HB hb;clear hb hbox hg;have:=cf4 AG;obtain⟨B3,B4,rfl⟩:=rs Ad)|((with_reducible refine gC 123 rfl ?_);refine goesW Tryz.func123 ?_;(with_reducible refine(impl_applied.calls k1 _ _ AQ ((rd_T135 l1 U).f0) ((rd_T135 l1 U).f1) ((rd_T135 l1 U).f2) ((rd_T135 l1 U).f3) B2 Bn _ ?_ ?_ A8.o).mono ?_);exact cR (rpR (f4 Ad AG));exact cl Ad;rintro e Br ⟨BO,rfl,A9,hb⟩;refine⟨_,rfl,?_⟩;have Bs:=rl HB (Kd.R_new' A9 (Kd.R_lt (rpR (f4 Ad AG))));replace Ad:=re (f4 Ad AG) A9 hb;replace AG:=aK (blk_below (g:=Bp) (o:=.cells #[.int .i64 ((rd_T135 l1 U).f0),.string ((rd_T135 l1 U).f1),.string ((rd_T135 l1 U).f2),.int .i64 ((rd_T135 l1 U).f3)] 135 (0,0)) bkk hb);replace HB:=bS HB hb;(try clear hb A9)))
      go_roundg k1
      case measure=>have:=Bj.o;omega
      case rel=>exact⟨(B2),(wrap64 (U+1)),fa,H',⟨by have:=Bj.o;omega⟩,⟨rpR (rM Bs.o (fun _ hk=>trivial))⟩,⟨bl⟩⟩
     ·rw[if_neg c7]at H;exact absurd H (by simp)
    ·rw[if_neg c6]at H;exact absurd H (by simp)
   ·rw[if_neg c5]at H;have Bk:=df c5;clear c5;obtain rfl:=oj H;go_wp2
    go_ret
    exact⟨_,fe,rpR Ad.o,bl⟩
def impl_find.f (k:Nat) (A6:Int) (A7:Int) (A5:List (S130)) (Z:List (S133)) (X:List (S135)) (a1:ByteArray):Option (Int):=(impl_names.f k Z X).bind fun Aa=>((impl_linkAt.f Aa a1).bind fun AB=>(if AB.2=true then(if 0≤AB.1 then(if AB.1<(Aa.length:Int)then((impl_inodeAt.f A6 A7 A5 Z X ((rd_T133 Aa AB.1).f1)).bind fun AZ=>(some AZ))else(none))else(none))else(some (-1))))
def impl_find.T5:Bool×List (List Nat×List Nat):=(true,[([],[]),([],[]),([],[]),([1,2],[1,2]),([3],[3]),([4],[4]),([0,5],[0,5]),([6,6,0,1,2,3,4,5,6],[6])])
def impl_find.B5:List Nat:=[0,0,0,6,14,30,63,127]
theorem impl_find.tab5:rtab .any (opsOf Tryz.f92 5)=impl_find.T5:=by kernel_rfl
theorem impl_find.bits5:waitsOk impl_find.T5.2 impl_find.B5=true:=by kernel_rfl
theorem impl_find.calls (k:Nat) (A6:Int) (A7:Int) (Az:Option Addr) (A_:Nat) (A5:List (S130)) (Al:Option Addr) (Am:Nat) (Z:List (S133)) (Ai:Option Addr) (Aj:Nat) (X:List (S135)) (a1:ByteArray) (r:Int) (w:World) (An:Kd.C k130 w Az A5.length A5) (Ap:A5.length≤A_) (Aq:Kd.C k133 w Al Z.length Z) (Ar:Z.length≤Am) (As:Kd.C k135 w Ai X.length X) (At:X.length≤Aj) (h:impl_find.f k A6 A7 A5 Z X a1=some r) :
 Calls Tryz.prog 92 #[.agg #[.int .i64 A6,.int .i64 A7,.slice Az A5.length A_,.slice Al Z.length Am,.slice Ai X.length Aj],.string a1] w fun e w'=>e = .returned (.int .i64 r)∧Below w.heap.size w w':=by
 have Bd:=Tryz.underlying35;have AH:=aK An;have AI:=aK Ap;clear An Ap;have Au:=aK Aq;have Av:=aK Ar;clear Aq Ar;have Aw:=aK As;have Ax:=aK At;clear As At;have HB:=aK (Below.refl w.heap.size w);have H:=h;unfold impl_find.f at H;clear h;obtain⟨Aa,A3,H⟩:=bd H;replace H:=oB H;obtain⟨⟨Ab,Bt⟩,Bu,H⟩:=H;dsimp only at H;have A4:=aK Bu;clear Bu;by_cases c5:Bt=true
 ·subst c5;replace H:=iT H;by_cases c6:0≤Ab
  ·rw[if_pos c6]at H;have Bl:=dt c6;clear c6;by_cases c7:Ab<(Aa.length:Int)
   ·rw[if_pos c7]at H;have Bm:=dt c7;clear c7;obtain⟨AZ,A8,H⟩:=bd H;obtain rfl:=oj H
    go_enter Tryz.func92,Tryz.ntmps92
    (try go_wp2_with (first|((with_reducible refine gD 2 rfl ?_);refine boxW ?_;intro Ah hg Bq hbox hb;have D:=aK hbox;have B9:=gW HB hg;replace HB:=bS HB hb;clear hb hbox hg;have:=cf5 D)|((with_reducible refine gC 118 rfl ?_);refine goesW Tryz.func118 ?_;(with_reducible refine(impl_names.calls k _ _ Z _ _ X Aa _ ?_ ?_ ?_ ?_ A3.o).mono ?_);exact cB Au HB;exact Av.o;exact cB Aw HB;exact Ax.o;rintro e Br ⟨Bv,rfl,A9,hb⟩;refine⟨_,rfl,?_⟩;have Y:=rl HB A9;replace D:=bv D hb;replace HB:=bS HB hb;(try clear hb A9);obtain⟨B3,B4,rfl⟩:=rs Y)|((with_reducible refine gC 157 rfl ?_);refine goesW Tryz.func157 ?_;(with_reducible refine(impl_linkAt.calls _ _ Aa a1 Ab _ _ ?_ ?_ A4.o).mono ?_);exact ca (cR Y.o);exact cl Y;rintro e Bw ⟨rfl,hb⟩;refine⟨_,rfl,?_⟩;replace Y:=rb Y hb;replace D:=bv D hb;replace HB:=bS HB hb;(try clear hb))));replace Y:=dR Y;replace D:=dB D;replace HB:=dW HB;have AM:0≤(Ab:Int):=dT am;have AN:Ab<(Aa.length:Int):=dT am
    obtain⟨AR,B8,Ae,Af⟩:=at_T133 (Kd.R_reads' Y.o).2.2 Ab AM AN;cases B8;replace AM:=eq_true AM;replace AN:=eq_true AN;refine start_ (n:=8) (S:=fun w'=>w'.cell? ⟨Ah,0,none⟩=some (.int .i64 A6)∧w'.cell? ⟨Ah,1,none⟩=some (.int .i64 A7)∧w'.cell? ⟨Ah,2,none⟩=some (.slice Az A5.length A_)∧w'.cell? ⟨Ah,3,none⟩=some (.slice Al Z.length Am)∧w'.cell? ⟨Ah,4,none⟩=some (.slice Ai X.length Aj)∧w'.cell? (AR.add ((Ab).toNat*2))=some (.string ((rd_T133 Aa Ab).f0))∧w'.cell? ⟨(AR.add ((Ab).toNat*2)).block,(AR.add ((Ab).toNat*2)).off+1,none⟩=some (.int .i64 ((rd_T133 Aa Ab).f1))) (ds:=[]) (bo 8 0) (by kernel_rfl) rfl rfl ⟨cb 0 D,cb 1 D,cb 2 D,cb 3 D,cb 4 D,Ae,Af⟩ (fun hHeld=>?_);refine with_tabW impl_find.tab5 impl_find.bits5 (fun HT_ HW_=>?_);generalize Bw.drew=BP at Y D HB Ae Af hHeld ⊢;refine pV 1 22 (bo 8 2) ?_;refine pV 2 23 (bo 8 6) ?_;refine pV 3 24 (bo 8 14) ?_;refine pV 4 25 (bo 8 30) ?_;refine tV 0 21 (bo 8 31) ?_;refine tV 5 26 (bo 8 63) ?_;refine o1 6 27 (bo 8 127) (fun K hK=>?_);refine goesV Tryz.func121 ?_
    (with_reducible refine(impl_inodeAt.calls A6 A7 _ _ A5 _ _ Z _ _ X ((rd_T133 Aa Ab).f1) AZ _ ?_ ?_ ?_ ?_ ?_ ?_ A8.o).mono ?_);exact cB AH HB;exact AI.o;exact cB Au HB;exact Av.o;exact cB Aw HB;exact Ax.o;rintro e BQ ⟨rfl,hb⟩;have Bx:=(hb.cell (bL _ _ (hHeld.2.2.2.2.2.1))).trans (hHeld.2.2.2.2.2.1);have By:=(hb.cell (bL _ _ (hHeld.2.2.2.2.2.2))).trans (hHeld.2.2.2.2.2.2);refine⟨_,rfl,?_⟩;replace Y:=rb Y hb;replace D:=bv D hb;replace HB:=bS HB hb;(try clear hb BR hk hi);refine hK.out _ _ ⟨cb 0 D,cb 1 D,cb 2 D,cb 3 D,cb 4 D,Bx,By⟩ (fun hHeld=>?_);clear hK K;refine nm 27 ?_;refine pV 7 4 (bo 8 255) ?_;refine done_ (done_of HT_.o (by kernel_rfl)) ?_;(try go_wp2)
    go_ret
    exact⟨fe,bl⟩
   ·rw[if_neg c7]at H;exact absurd H (by simp)
  ·rw[if_neg c6]at H;exact absurd H (by simp)
 ·replace c5:=bF c5;subst c5;replace H:=iF H;obtain rfl:=oj H
  go_enter Tryz.func92,Tryz.ntmps92
  go_wp2_with (first|((with_reducible refine gD 2 rfl ?_);refine boxW ?_;intro Ah hg Bq hbox hb;have D:=aK hbox;have B9:=gW HB hg;replace HB:=bS HB hb;clear hb hbox hg;have:=cf5 D)|((with_reducible refine gC 118 rfl ?_);refine goesW Tryz.func118 ?_;(with_reducible refine(impl_names.calls k _ _ Z _ _ X Aa _ ?_ ?_ ?_ ?_ A3.o).mono ?_);exact cB Au HB;exact Av.o;exact cB Aw HB;exact Ax.o;rintro e Br ⟨Bv,rfl,A9,hb⟩;refine⟨_,rfl,?_⟩;have Y:=rl HB A9;replace D:=bv D hb;replace HB:=bS HB hb;(try clear hb A9);obtain⟨B3,B4,rfl⟩:=rs Y)|((with_reducible refine gC 157 rfl ?_);refine goesW Tryz.func157 ?_;(with_reducible refine(impl_linkAt.calls _ _ Aa a1 Ab _ _ ?_ ?_ A4.o).mono ?_);exact ca (cR Y.o);exact cl Y;rintro e Bw ⟨rfl,hb⟩;refine⟨_,rfl,?_⟩;replace Y:=rb Y hb;replace D:=bv D hb;replace HB:=bS HB hb;(try clear hb)))
  go_ret
  exact⟨fe,bl⟩
end Go.Proofs.YtndbmllnkjngnaaGreat.PDs
