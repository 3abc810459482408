/- Functions of the program, each with its contract, written by a program out of the translation. -/
import Derived.Test.YtndbmllnkjngnaaPDsx0
import Derived.Test.YtndbmllnkjngnaaPDsx4
import Derived.Test.YtndbmllnkjngnaaPDsx23
import Derived.Test.YtndbmllnkjngnaaZup
namespace Go.Proofs.Ytndbmllnkjngnaa.PDs
open Go.RowKit Go.Proofs.YtndbmllnkjngnaaW.PrintWords Go.Proofs.YtndbmllnkjngnaaW.PrintLast Go.Proofs.YtndbmllnkjngnaaW.PrintMore Go.Proofs.Ytndbmllnkjngnaa.Zip
attribute [local go_sem] max2_int min2_int max_two min_two max_three min_three max_four min_four
set_option linter.unusedVariables false
set_option linter.unusedSimpArgs false
set_option maxHeartbeats 8000000
set_option maxRecDepth 100000
def spec_List.l0:Nat→List ByteArray→List (S37)→Int→Option (List ByteArray)
 | 0,_,_,_=>none
 |k+1,x3,x4,x5=>if x5<(x4.length:Int)then(if 0≤x5 then(if x3.length<8796093022208 then(spec_List.l0 k (x3 ++ [(rd_T37 x4 x5).f0]) x4 (wrap64 (x5+1)))else(none))else(none))else(some x3)
def spec_List.f (k:Nat) (Z:Int) (A0:Int) (U:List (S35)) (X:List (S37)) (J:List (S39)):Option (List ByteArray):=(some (([]:List ByteArray):List ByteArray)).bind fun A7=>((spec_DiskOk.f k Z A0 U X J).bind fun Ab=>(if Ab=true then((spec_l4Names.f k Z A0 U X J (J.length:Int)).bind fun A1=>(spec_List.l0 k A7 A1 0))else(some A7)))
theorem spec_List.calls (k:Nat) (Z:Int) (A0:Int) (Al:Option Addr) (Am:Nat) (U:List (S35)) (An:Option Addr) (Ao:Nat) (X:List (S37)) (Ap:Option Addr) (Aq:Nat) (J:List (S39)) (r:List ByteArray) (w:World) (As:Kd.C k35 w Al U.length U) (At:U.length≤Am) (Au:Kd.C k37 w An X.length X) (Av:X.length≤Ao) (Aw:Kd.C k39 w Ap J.length J) (Ax:J.length≤Aq) (h:spec_List.f k Z A0 U X J=some r) :
 Calls Try.prog 12 #[.agg #[.int .i64 Z,.int .i64 A0,.slice Al U.length Am,.slice An X.length Ao,.slice Ap J.length Aq]] w fun e w'=>∃AI:Value,e = .returned (AI)∧Kd.R Kd.string 9 w' w.heap.size (fun _=>True) AI r∧Below w.heap.size w w':=by
 have AY:=Try.underlying28;have Ad:=aK As;have Ae:=aK At;clear As At;have Af:=aK Au;have Ag:=aK Av;clear Au Av;have Ah:=aK Aw;have Ai:=aK Ax;clear Aw Ax;have HB:=aK (Below.refl w.heap.size w);have H:=h;unfold spec_List.f at H;clear h;obtain⟨A7,A6⟩:∃y_:List ByteArray,y_=(([]:List ByteArray)):=⟨_,rfl⟩;replace H:((spec_DiskOk.f k Z A0 U X J).bind fun Ab=>(if Ab=true then((spec_l4Names.f k Z A0 U X J (J.length:Int)).bind fun A1=>(spec_List.l0 k A7 A1 0))else(some A7)))=some r:=by first|(rw[A6];with_reducible exact H)|(have AB:=(Option.bind_some _ _).symm.trans H;rw[A6];with_reducible exact AB)|(have AB:=(Option.bind_some _ _).symm.trans H;with_reducible exact AB)|with_reducible exact H|(rw[A6];exact H)|exact H
 have Aa:=aK A6;clear A6;obtain⟨Ab,A2,H⟩:=bd H;by_cases c3:Ab=true
 ·subst c3;replace H:=iT H;obtain⟨A1,A4,H⟩:=bd H;have H':=aK H;clear H
  go_enter Try.func12,Try.ntmps12
  go_wp2_with (first|((with_reducible refine gD 1 rfl ?_);refine boxW ?_;intro Aj hg AS hbox hb;have D:=aK hbox;have AC:=gW HB hg;replace HB:=bS HB hb;clear hb hbox hg)|((with_reducible refine gD 6 rfl ?_);refine Kd.R_lit Kd.string _ 9 ?hg (N:=6) ?hd (xs:=([]:List ByteArray)) (inner:=[]) (ok:=fun _=>True) (okp:=fun _=>True) ?hr ?hp (fun _ hk=>hk) trivial (Below.refl _ _) (Nat.le_refl _) (by simp) ?_;(case hd=>rfl);(case hg=>rfl);(case hr=>first|(go_simp;done)|(go_simp;rfl));(case hp=>exact(Reps.none _ _));intro AJ AT A5 hb hg_ hnew_;clear hg_ hnew_;(first|rw[←Aa.o]at A5|(simp only[Int.reduceToNat]at A5;rw[←Aa.o]at A5));have Y:=rl HB A5;replace D:=bv D hb;replace HB:=bS HB hb;clear hb A5;have:=cf5 D)|((with_reducible refine gC 9 rfl ?_);refine goesW Try.func9 ?_;(with_reducible refine(spec_DiskOk.calls k Z A0 _ _ U _ _ X _ _ J _ _ ?_ ?_ ?_ ?_ ?_ ?_ A2.o).mono ?_);exact cB Ad HB;exact Ae.o;exact cB Af HB;exact Ag.o;exact cB Ah HB;exact Ai.o;rintro e AU ⟨rfl,hb⟩;refine⟨_,rfl,?_⟩;replace Y:=rb Y hb;replace D:=bv D hb;replace HB:=bS HB hb;(try clear hb);have:=cf5 D)|((with_reducible refine gC 48 rfl ?_);refine goesW Try.func48 ?_;(with_reducible refine(spec_l4Names.calls k Z A0 _ _ U _ _ X _ _ J (J.length:Int) A1 _ ?_ ?_ ?_ ?_ ?_ ?_ A4.o).mono ?_);exact cB Ad HB;exact Ae.o;exact cB Af HB;exact Ag.o;exact cB Ah HB;exact Ai.o;rintro e B0 ⟨AV,rfl,AA,hb⟩;refine⟨_,rfl,?_⟩;replace Y:=rb Y hb;have AK:=rl HB AA;replace D:=bv D hb;replace HB:=bS HB hb;(try clear hb AA)))
  go_loopg [3,5] k (fun kq v3 v5 w'=>∃(A8:List ByteArray) (A3:Int),v5 = .int .i64 A3∧Aside0 (spec_List.l0 kq A8 A1 A3=some r)∧Aside0 (kq≤k)∧Aside0 (Kd.R Kd.string 9 w' w.heap.size (fun _=>True) v3 A8)∧Aside0 (Kd.R k37 37 w' w.heap.size (fun _=>True) AV A1)∧Aside0 (w'.heap[Aj]? = some (.cells #[.int .i64 Z,.int .i64 A0,(.slice Al U.length Am),(.slice An X.length Ao),(.slice Ap J.length Aq)] 28 (0,0)))∧Aside0 (Below w.heap.size w w'))
  case atStart=>exact⟨(A7),(0),fa,H',⟨Nat.le_refl _⟩,⟨rpR Y.o⟩,⟨rpR AK.o⟩,⟨bw D⟩,⟨bl⟩⟩
  case round=>
   clear H';(try clear c1);(try clear p2);(try clear c3);(try clear c4);(try clear c9);obtain⟨A8,A3,rfl,HA,AL,Ac,A9,D,HB⟩:=hrel;cases gk with
   |zero=>exact absurd HA.o (by simp[spec_List.l0])
   |succ k1=>
    have H:=HA.o;clear HA;simp only[spec_List.l0]at H;by_cases Ar:A3<(A1.length:Int)
    ·rw[if_pos Ar]at H;have AD:=dt Ar;clear Ar;by_cases Az:0≤A3
     ·rw[if_pos Az]at H;have AW:=dt Az;clear Az;by_cases A_:A8.length<8796093022208
      ·rw[if_pos A_]at H;have AE:=aK A_;clear A_;obtain⟨AM,Ak⟩:=yy (A8 ++ [(rd_T37 A1 A3).f0]);rw[←Ak]at H;(try rw[obs]at H)
       have AF:=aK Ak;clear Ak;have H':=aK H;clear H;obtain⟨AN,AO,Ay⟩:=rs A9;subst Ay;have AG:0≤(A3:Int):=dT am;have AH:A3<(A1.length:Int):=dT am;obtain⟨AZ,AX,AQ,AR⟩:=at_T37 (Kd.R_reads' A9.o).2.2 A3 AG AH;cases AX;replace AG:=eq_true AG;replace AH:=eq_true AH;go_wp2_with (first|((with_reducible refine gate_builtin (b:=.append) (xs:=#[.tmp 22,.tmp 28]) rfl ?_);at_builtin;refine Kd.R_append Kd.string (w0:=w) w.heap.size rfl (.tmp 22) (.tmp 28) 40 9 (.string ⟨#[]⟩) 16 rfl Try.underlying40 info9 rfl (by decide) (by omega) u3 A8 ((rd_T37 A1 A3).f0) [.string ((rd_T37 A1 A3).f0)] (fun _=>True) (fun _=>False) rfl rfl ?aP (fun _ hk=>hk.elim) ?aF ?aO ?aB ?aS ?aL ?_;(case aP=>exact rfl);(case aB=>exact bl);(case aF=>exact(fun _ _=>trivial));(case aO=>exact(rpR Ac.o));(case aS=>exact(below_size bl));(case aL=>have:=AE.o;omega);intro B1 B2 ho hb hg hat;rw[←AF.o]at ho;replace A9:=aK (Kd.R_over' (rpR A9.o) (Kd.R_typed (rpR Ac.o)) (by decide) hg);replace D:=aK (blk_grown (g:=Aj) (o:=.cells #[.int .i64 Z,.int .i64 A0,.slice Al U.length Am,.slice An X.length Ao,.slice Ap J.length Aq] 28 (0,0)) bk hg (Kd.R_ne Ac.o D.o (by decide)));replace HB:=aK (hb);have AP:=aK (ho);clear Ac;clear ho hb hg hat))
       go_roundg k1
       case measure=>have:=AL.o;omega
       case rel=>exact⟨(AM),(wrap64 (A3+1)),fa,H',⟨by have:=AL.o;omega⟩,⟨rpR AP.o⟩,⟨rpR A9.o⟩,⟨bw D⟩,⟨bl⟩⟩
      ·rw[if_neg A_]at H;exact absurd H (by simp)
     ·rw[if_neg Az]at H;exact absurd H (by simp)
    ·rw[if_neg Ar]at H;have AD:=df Ar;clear Ar;obtain rfl:=oj H;obtain⟨AN,AO,Ay⟩:=rs A9;subst Ay;go_wp2
     go_ret
     exact⟨_,fe,rpR Ac.o,bl⟩
 ·replace c3:=bF c3;subst c3;replace H:=iF H;obtain rfl:=oj H
  go_enter Try.func12,Try.ntmps12
  go_wp2_with (first|((with_reducible refine gD 1 rfl ?_);refine boxW ?_;intro Aj hg AS hbox hb;have D:=aK hbox;have AC:=gW HB hg;replace HB:=bS HB hb;clear hb hbox hg)|((with_reducible refine gD 6 rfl ?_);refine Kd.R_lit Kd.string _ 9 ?hg (N:=6) ?hd (xs:=([]:List ByteArray)) (inner:=[]) (ok:=fun _=>True) (okp:=fun _=>True) ?hr ?hp (fun _ hk=>hk) trivial (Below.refl _ _) (Nat.le_refl _) (by simp) ?_;(case hd=>rfl);(case hg=>rfl);(case hr=>first|(go_simp;done)|(go_simp;rfl));(case hp=>exact(Reps.none _ _));intro AJ AT A5 hb hg_ hnew_;clear hg_ hnew_;(first|rw[←Aa.o]at A5|(simp only[Int.reduceToNat]at A5;rw[←Aa.o]at A5));have Y:=rl HB A5;replace D:=bv D hb;replace HB:=bS HB hb;clear hb A5;have:=cf5 D)|((with_reducible refine gC 9 rfl ?_);refine goesW Try.func9 ?_;(with_reducible refine(spec_DiskOk.calls k Z A0 _ _ U _ _ X _ _ J _ _ ?_ ?_ ?_ ?_ ?_ ?_ A2.o).mono ?_);exact cB Ad HB;exact Ae.o;exact cB Af HB;exact Ag.o;exact cB Ah HB;exact Ai.o;rintro e AU ⟨rfl,hb⟩;refine⟨_,rfl,?_⟩;replace Y:=rb Y hb;replace D:=bv D hb;replace HB:=bS HB hb;(try clear hb)))
  go_ret
  exact⟨_,fe,rpR Y.o,bl⟩
end Go.Proofs.Ytndbmllnkjngnaa.PDs
