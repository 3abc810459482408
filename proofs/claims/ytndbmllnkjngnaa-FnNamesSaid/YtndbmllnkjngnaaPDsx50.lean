/- Functions of the program, each with its contract, written by a program out of the translation. -/
import Derived.Test.YtndbmllnkjngnaaPDsx0
import Derived.Test.YtndbmllnkjngnaaPDsx22
import Derived.Test.YtndbmllnkjngnaaPDsx23
import Derived.Test.YtndbmllnkjngnaaZup
namespace Go.Proofs.Ytndbmllnkjngnaa.PDs
open Go.RowKit Go.Proofs.YtndbmllnkjngnaaW.PrintWords Go.Proofs.YtndbmllnkjngnaaW.PrintLast Go.Proofs.YtndbmllnkjngnaaW.PrintMore Go.Proofs.Ytndbmllnkjngnaa.Zip
attribute [local go_sem] max2_int min2_int max_two min_two max_three min_three max_four min_four
set_option linter.unusedVariables false
set_option linter.unusedSimpArgs false
set_option maxHeartbeats 8000000
set_option maxRecDepth 100000
def impl_List.l0:Nat→List ByteArray→List (S37)→Int→Int→Option (List ByteArray)
 | 0,_,_,_,_=>none
 |k+1,x3,AH,AP,Au=>if Au<AP then(if 0≤Au then(if Au<(AH.length:Int)then(if x3.length<8796093022208 then(impl_List.l0 k (x3 ++ [(rd_T37 AH Au).f0]) AH AP (wrap64 (Au+1)))else(none))else(none))else(none))else(some x3)
def impl_List.f (k:Nat) (A3:Int) (A5:Int) (A0:List (S35)) (X:List (S37)) (Y:List (S39)):Option (List ByteArray):=(some (([]:List ByteArray):List ByteArray)).bind fun A9=>((impl_DiskOk.f k A3 A5 A0 X Y).bind fun Ac=>(if Ac=true then((impl_names.f k X Y).bind fun U=>(impl_List.l0 k A9 U (U.length:Int) 0))else(some A9)))
theorem impl_List.calls (k:Nat) (A3:Int) (A5:Int) (Al:Option Addr) (Am:Nat) (A0:List (S35)) (An:Option Addr) (Ao:Nat) (X:List (S37)) (Ap:Option Addr) (Aq:Nat) (Y:List (S39)) (r:List ByteArray) (w:World) (Av:Kd.C k35 w Al A0.length A0) (Aw:A0.length≤Am) (Ax:Kd.C k37 w An X.length X) (Ay:X.length≤Ao) (Az:Kd.C k39 w Ap Y.length Y) (A_:Y.length≤Aq) (h:impl_List.f k A3 A5 A0 X Y=some r) :
 Calls Try.prog 11 #[.agg #[.int .i64 A3,.int .i64 A5,.slice Al A0.length Am,.slice An X.length Ao,.slice Ap Y.length Aq]] w fun e w'=>∃AQ:Value,e = .returned (AQ)∧Kd.R Kd.string 9 w' w.heap.size (fun _=>True) AQ r∧Below w.heap.size w w':=by
 have B8:=Try.underlying28;have B9:=Try.underlying37;have AA:=aK Av;have AB:=aK Aw;clear Av Aw;have Af:=aK Ax;have Ag:=aK Ay;clear Ax Ay;have Ah:=aK Az;have Ai:=aK A_;clear Az A_;have HB:=aK (Below.refl w.heap.size w);have H:=h;unfold impl_List.f at H;clear h;obtain⟨A9,A8⟩:∃y_:List ByteArray,y_=(([]:List ByteArray)):=⟨_,rfl⟩;replace H:((impl_DiskOk.f k A3 A5 A0 X Y).bind fun Ac=>(if Ac=true then((impl_names.f k X Y).bind fun U=>(impl_List.l0 k A9 U (U.length:Int) 0))else(some A9)))=some r:=by first|(rw[A8];with_reducible exact H)|(have AI:=(Option.bind_some _ _).symm.trans H;rw[A8];with_reducible exact AI)|(have AI:=(Option.bind_some _ _).symm.trans H;with_reducible exact AI)|with_reducible exact H|(rw[A8];exact H)|exact H
 have Ab:=aK A8;clear A8;obtain⟨Ac,A2,H⟩:=bd H;by_cases c3:Ac=true
 ·subst c3;replace H:=iT H;obtain⟨U,A4,H⟩:=bd H;have H':=aK H;clear H
  go_enter Try.func11,Try.ntmps11
  go_wp2_with (first|((with_reducible refine gD 1 rfl ?_);refine boxW ?_;intro Aj hg AZ hbox hb;have D:=aK hbox;have AJ:=gW HB hg;replace HB:=bS HB hb;clear hb hbox hg)|((with_reducible refine gD 6 rfl ?_);refine Kd.R_lit Kd.string _ 9 ?hg (N:=6) ?hd (xs:=([]:List ByteArray)) (inner:=[]) (ok:=fun _=>True) (okp:=fun _=>True) ?hr ?hp (fun _ hk=>hk) trivial (Below.refl _ _) (Nat.le_refl _) (by simp) ?_;(case hd=>rfl);(case hg=>rfl);(case hr=>first|(go_simp;done)|(go_simp;rfl));(case hp=>exact(Reps.none _ _));intro AR B0 A1 hb hg_ hnew_;clear hg_ hnew_;(first|rw[←Ab.o]at A1|(simp only[Int.reduceToNat]at A1;rw[←Ab.o]at A1));have Z:=rl HB A1;replace D:=bv D hb;replace HB:=bS HB hb;clear hb A1;have:=cf5 D)|((with_reducible refine gC 10 rfl ?_);refine goesW Try.func10 ?_;(with_reducible refine(impl_DiskOk.calls k A3 A5 _ _ A0 (fun k_=>k_<w.heap.size) _ _ X _ _ Y _ _ ?_ ?_ ?_ ?_ ?_ A2.o).mono ?_);exact cB AA HB;exact AB.o;exact Kd.V_mk Ag.o (Kd.F_below (Kd.C_F k37_heap Af.o) bl);exact cB Ah HB;exact Ai.o;rintro e B1 ⟨rfl,hb⟩;refine⟨_,rfl,?_⟩;replace Z:=rb Z hb;replace D:=bv D hb;replace HB:=bS HB hb;(try clear hb);have:=cf5 D)|((with_reducible refine gC 34 rfl ?_);refine goesW Try.func34 ?_;(with_reducible refine(impl_names.calls k _ _ X _ _ Y U _ ?_ ?_ ?_ ?_ A4.o).mono ?_);exact cB Af HB;exact Ag.o;exact cB Ah HB;exact Ai.o;rintro e Bc ⟨Bd,rfl,AF,hb⟩;refine⟨_,rfl,?_⟩;replace Z:=rb Z hb;have AG:=rl HB AF;replace D:=bv D hb;replace HB:=bS HB hb;(try clear hb AF);obtain⟨AS,AT,rfl⟩:=rs AG))
  go_loopg [3,17] k (fun kq v3 B2 w'=>∃(Aa:List ByteArray) (J:Int),B2 = .int .i64 J∧Aside0 (impl_List.l0 kq Aa U (U.length:Int) J=some r)∧Aside0 (kq≤k)∧Aside0 (Kd.R Kd.string 9 w' w.heap.size (fun _=>True) v3 Aa)∧Aside0 (Kd.R k37 37 w' w.heap.size (fun _=>True) (.slice AS U.length AT) U)∧Aside0 (w'.heap[Aj]? = some (.cells #[.int .i64 A3,.int .i64 A5,(.slice Al A0.length Am),(.slice An X.length Ao),(.slice Ap Y.length Aq)] 28 (0,0)))∧Aside0 (Below w.heap.size w w'))
  case atStart=>exact⟨(A9),(0),fa,H',⟨Nat.le_refl _⟩,⟨rpR Z.o⟩,⟨rpR AG.o⟩,⟨bw D⟩,⟨bl⟩⟩
  case round=>
   clear H';(try clear c1);(try clear p2);(try clear c3);(try clear c10);(try clear Be);obtain⟨Aa,J,rfl,HA,AU,A7,A6,D,HB⟩:=hrel;cases gk with
   |zero=>exact absurd HA.o (by simp[impl_List.l0])
   |succ k1=>
    have H:=HA.o;clear HA;simp only[impl_List.l0]at H;by_cases Ar:J<(U.length:Int)
    ·rw[if_pos Ar]at H;have AK:=dt Ar;clear Ar;by_cases AC:0≤J
     ·rw[if_pos AC]at H;have B3:=dt AC;clear AC;by_cases AD:J<(U.length:Int)
      ·rw[if_pos AD]at H;have B4:=dt AD;clear AD;by_cases AE:Aa.length<8796093022208
       ·rw[if_pos AE]at H;have AL:=aK AE;clear AE;obtain⟨AV,Ak⟩:=yy (Aa ++ [(rd_T37 U J).f0]);rw[←Ak]at H;(try rw[obs]at H)
        have AM:=aK Ak;clear Ak;have H':=aK H;clear H;have AN:0≤(J:Int):=dT am;have AO:J<(U.length:Int):=dT am;obtain⟨Ba,B5,AX,AY⟩:=at_T37 (Kd.R_reads' A6.o).2.2 J AN AO;cases B5;replace AN:=eq_true AN;replace AO:=eq_true AO
        go_wp2_with (first|((with_reducible refine gD 5 rfl ?_);refine boxW ?_;intro Ad hg Bf hbox hb;replace A7:=rb A7 hb;replace A6:=aK (Kd.R_below (Kd.R_elderB (rpR A6.o) Ad (Nat.le_of_eq hg.symm)) hb);have Ae:=aK hbox;have Bb:=gW HB hg;replace HB:=bS HB hb;have As:=nl D hg;have At:=nr D hg;replace D:=bv D hb;clear hb hbox hg;have B6:=At.o;have B7:=As.o;have:=cf2 Ae)|((with_reducible refine gate_builtin (b:=.append) (xs:=#[.tmp 21,.tmp 24]) rfl ?_);at_builtin;refine Kd.R_append Kd.string (w0:=w) w.heap.size rfl (.tmp 21) (.tmp 24) 40 9 (.string ⟨#[]⟩) 16 rfl Try.underlying40 info9 rfl (by decide) (by omega) u3 Aa ((rd_T37 U J).f0) [.string ((rd_T37 U J).f0)] (fun _=>True) (fun _=>False) rfl (by first|(go_simp;done)|(go_simp;rfl)) ?aP (fun _ hk=>hk.elim) ?aF ?aO ?aB ?aS ?aL ?_;(case aP=>exact rfl);(case aB=>exact bl);(case aF=>exact(fun _ _=>trivial));(case aO=>exact(rpR (rM (f2 A7 Ae) (fun _ hk=>trivial))));(case aS=>exact(below_size bl));(case aL=>have:=AL.o;omega);intro Bg Bh ho hb hg hat;rw[←AM.o]at ho;replace A6:=aK (Kd.R_over' (rpR (rM (Kd.R_far (p:=⟨Ad,1,none⟩) (Kd.R_far (p:=⟨Ad,0,none⟩) (rM A6.o (fun k_ hk=>(⟨hk,hk.2⟩:_∧k_≠Ad))) (fun _ hk=>hk.2) (.string ((rd_T37 U J).f0))) (fun _ hk=>hk.2) (.int .i64 ((rd_T37 U J).f1))) (fun _ h_=>h_.1))) (Kd.R_typed (rpR (f2 A7 Ae))) (by decide) hg);replace D:=aK (blk_grown (g:=Aj) (o:=.cells #[.int .i64 A3,.int .i64 A5,.slice Al A0.length Am,.slice An X.length Ao,.slice Ap Y.length Aq] 28 (0,0)) bkk hg (Kd.R_ne A7.o D.o (by decide)));replace Ae:=aK (blk_grown (g:=Ad) (o:=.cells #[.string ((rd_T37 U J).f0),.int .i64 ((rd_T37 U J).f1)] 37 (0,0)) bkk hg (Kd.R_ne A7.o Ae.o (by decide)));replace HB:=aK (hb);have AW:=aK (ho);clear A7;clear ho hb hg hat))
        go_roundg k1
        case measure=>have:=AU.o;omega
        case rel=>exact⟨(AV),(wrap64 (J+1)),fa,H',⟨by have:=AU.o;omega⟩,⟨rpR AW.o⟩,⟨rpR (rM A6.o (fun _ hk=>trivial))⟩,⟨bw D⟩,⟨bl⟩⟩
       ·rw[if_neg AE]at H;exact absurd H (by simp)
      ·rw[if_neg AD]at H;exact absurd H (by simp)
     ·rw[if_neg AC]at H;exact absurd H (by simp)
    ·rw[if_neg Ar]at H;have AK:=df Ar;clear Ar;obtain rfl:=oj H;go_wp2
     go_ret
     exact⟨_,fe,rpR A7.o,bl⟩
 ·replace c3:=bF c3;subst c3;replace H:=iF H;obtain rfl:=oj H
  go_enter Try.func11,Try.ntmps11
  go_wp2_with (first|((with_reducible refine gD 1 rfl ?_);refine boxW ?_;intro Aj hg AZ hbox hb;have D:=aK hbox;have AJ:=gW HB hg;replace HB:=bS HB hb;clear hb hbox hg)|((with_reducible refine gD 6 rfl ?_);refine Kd.R_lit Kd.string _ 9 ?hg (N:=6) ?hd (xs:=([]:List ByteArray)) (inner:=[]) (ok:=fun _=>True) (okp:=fun _=>True) ?hr ?hp (fun _ hk=>hk) trivial (Below.refl _ _) (Nat.le_refl _) (by simp) ?_;(case hd=>rfl);(case hg=>rfl);(case hr=>first|(go_simp;done)|(go_simp;rfl));(case hp=>exact(Reps.none _ _));intro AR B0 A1 hb hg_ hnew_;clear hg_ hnew_;(first|rw[←Ab.o]at A1|(simp only[Int.reduceToNat]at A1;rw[←Ab.o]at A1));have Z:=rl HB A1;replace D:=bv D hb;replace HB:=bS HB hb;clear hb A1;have:=cf5 D)|((with_reducible refine gC 10 rfl ?_);refine goesW Try.func10 ?_;(with_reducible refine(impl_DiskOk.calls k A3 A5 _ _ A0 (fun k_=>k_<w.heap.size) _ _ X _ _ Y _ _ ?_ ?_ ?_ ?_ ?_ A2.o).mono ?_);exact cB AA HB;exact AB.o;exact Kd.V_mk Ag.o (Kd.F_below (Kd.C_F k37_heap Af.o) bl);exact cB Ah HB;exact Ai.o;rintro e B1 ⟨rfl,hb⟩;refine⟨_,rfl,?_⟩;replace Z:=rb Z hb;replace D:=bv D hb;replace HB:=bS HB hb;(try clear hb)))
  go_ret
  exact⟨_,fe,rpR Z.o,bl⟩
end Go.Proofs.Ytndbmllnkjngnaa.PDs
