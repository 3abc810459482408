/- Functions of the program, each with its contract, written by a program out of the translation. -/
import Derived.Test.YtndbmllnkjngnaaPDsx0
import Derived.Test.YtndbmllnkjngnaaZup
namespace Go.Proofs.Ytndbmllnkjngnaa.PDs
open Go.RowKit Go.Proofs.YtndbmllnkjngnaaW.PrintWords Go.Proofs.YtndbmllnkjngnaaW.PrintLast Go.Proofs.YtndbmllnkjngnaaW.PrintMore Go.Proofs.Ytndbmllnkjngnaa.Zip
attribute [local go_sem] max2_int min2_int max_two min_two max_three min_three max_four min_four
set_option linter.unusedVariables false
set_option linter.unusedSimpArgs false
set_option maxHeartbeats 8000000
set_option maxRecDepth 100000
mutual
def laws_sameDisk.j0:Nat→Bool→Int→Int→List (S35)→List (S37)→List (S39)→Int→Int→List (S35)→List (S37)→List (S39)→Option (Bool)
 | 0,_,_,_,_,_,_,_,_,_,_,_=>none
 |k+1,CE,Ai,Aj,A9,Ac,A5,Ak,Al,Aa,Ad,A6=>if CE=true then(some false)else(laws_sameDisk.l0 k 0 Ai Aj A9 Ac A5 Ak Al Aa Ad A6)
def laws_sameDisk.l0:Nat→Int→Int→Int→List (S35)→List (S37)→List (S39)→Int→Int→List (S35)→List (S37)→List (S39)→Option (Bool)
 | 0,_,_,_,_,_,_,_,_,_,_,_=>none
 |k+1,x5,Ai,Aj,A9,Ac,A5,Ak,Al,Aa,Ad,A6=>if x5<(A9.length:Int)then(if 0≤x5 then(if x5<(Aa.length:Int)then(if(!(((rd_T35 A9 x5).f0)==((rd_T35 Aa x5).f0))||(!((((rd_T35 A9 x5).f1).toList)==(((rd_T35 Aa x5).f1).toList))||(!(((rd_T35 A9 x5).f2)==((rd_T35 Aa x5).f2)))))=true then(some false)else(laws_sameDisk.l0 k (wrap64 (x5+1)) Ai Aj A9 Ac A5 Ak Al Aa Ad A6))else(none))else(none))else(laws_sameDisk.l1 k 0 Ai Aj A9 Ac A5 Ak Al Aa Ad A6)
def laws_sameDisk.l1:Nat→Int→Int→Int→List (S35)→List (S37)→List (S39)→Int→Int→List (S35)→List (S37)→List (S39)→Option (Bool)
 | 0,_,_,_,_,_,_,_,_,_,_,_=>none
 |k+1,x6,Ai,Aj,A9,Ac,A5,Ak,Al,Aa,Ad,A6=>if x6<(Ac.length:Int)then(if 0≤x6 then(if x6<(Ad.length:Int)then(if(!((((rd_T37 Ac x6).f0).toList)==(((rd_T37 Ad x6).f0).toList))||(!(((rd_T37 Ac x6).f1)==((rd_T37 Ad x6).f1))))=true then(some false)else(laws_sameDisk.l1 k (wrap64 (x6+1)) Ai Aj A9 Ac A5 Ak Al Aa Ad A6))else(none))else(none))else(laws_sameDisk.l2 k 0 Ai Aj A9 Ac A5 Ak Al Aa Ad A6)
def laws_sameDisk.l2:Nat→Int→Int→Int→List (S35)→List (S37)→List (S39)→Int→Int→List (S35)→List (S37)→List (S39)→Option (Bool)
 | 0,_,_,_,_,_,_,_,_,_,_,_=>none
 |k+1,x7,Ai,Aj,A9,Ac,A5,Ak,Al,Aa,Ad,A6=>if x7<(A5.length:Int)then(if 0≤x7 then(if x7<(A6.length:Int)then(if(!(((rd_T39 A5 x7).f0)==((rd_T39 A6 x7).f0))||(!((((rd_T39 A5 x7).f1).toList)==(((rd_T39 A6 x7).f1).toList))||(!((((rd_T39 A5 x7).f2).toList)==(((rd_T39 A6 x7).f2).toList))||(!(((rd_T39 A5 x7).f3)==((rd_T39 A6 x7).f3))))))=true then(some false)else(laws_sameDisk.l2 k (wrap64 (x7+1)) Ai Aj A9 Ac A5 Ak Al Aa Ad A6))else(none))else(none))else(some true)
end
def laws_sameDisk.f (k:Nat) (Af:Int) (Ag:Int) (Y:List (S35)) (A2:List (S37)) (U:List (S39)) (Am:Int) (An:Int) (A1:List (S35)) (A3:List (S37)) (X:List (S39)):Option (Bool):=if Af=Am then(if Ag=An then(if(Y.length:Int)=(A1.length:Int)then(if(A2.length:Int)=(A3.length:Int)then(laws_sameDisk.j0 k ((U.length:Int) != (X.length:Int)) Af Ag Y A2 U Am An A1 A3 X)else(laws_sameDisk.j0 k true Af Ag Y A2 U Am An A1 A3 X))else(laws_sameDisk.j0 k true Af Ag Y A2 U Am An A1 A3 X))else(laws_sameDisk.j0 k true Af Ag Y A2 U Am An A1 A3 X))else(laws_sameDisk.j0 k true Af Ag Y A2 U Am An A1 A3 X)
theorem laws_sameDisk.calls (k:Nat) (Af:Int) (Ag:Int) (Ao:Option Addr) (Ap:Nat) (Y:List (S35)) (Aq:Option Addr) (Ar:Nat) (A2:List (S37)) (As:Option Addr) (At:Nat) (U:List (S39)) (Am:Int) (An:Int) (AF:Option Addr) (AG:Nat) (A1:List (S35)) (AH:Option Addr) (AI:Nat) (A3:List (S37)) (AJ:Option Addr) (AK:Nat) (X:List (S39)) (r:Bool) (w:World) (Bv:Kd.C k35 w Ao Y.length Y) (Bw:Y.length≤Ap) (Bx:Kd.C k37 w Aq A2.length A2) (By:A2.length≤Ar) (Bz:Kd.C k39 w As U.length U) (B_:U.length≤At) (BA:Kd.C k35 w AF A1.length A1) (BB:A1.length≤AG) (BC:Kd.C k37 w AH A3.length A3) (BD:A3.length≤AI) (BE:Kd.C k39 w AJ X.length X) (BF:X.length≤AK) (h:laws_sameDisk.f k Af Ag Y A2 U Am An A1 A3 X=some r) :
 Calls Try.prog 26 #[.agg #[.int .i64 Af,.int .i64 Ag,.slice Ao Y.length Ap,.slice Aq A2.length Ar,.slice As U.length At],.agg #[.int .i64 Am,.int .i64 An,.slice AF A1.length AG,.slice AH A3.length AI,.slice AJ X.length AK]] w fun e w'=>e = .returned (.bool r)∧Below w.heap.size w w':=by
 have CW:=Try.underlying28;have CX:=Try.underlying35;have CY:=Try.underlying37;have CZ:=Try.underlying39;have BW:=aK Bv;have CF:=aK Bw;clear Bv Bw;have BX:=aK Bx;have CG:=aK By;clear Bx By;have BY:=aK Bz;have CH:=aK B_;clear Bz B_;have BZ:=aK BA;have CI:=aK BB;clear BA BB;have C0:=aK BC;have CJ:=aK BD;clear BC BD;have C1:=aK BE;have CK:=aK BF;clear BE BF;have HB:=aK (Below.refl w.heap.size w);have H:=h;unfold laws_sameDisk.f at H;clear h;have C2:=aK H;clear H
 go_enter Try.func26,Try.ntmps26
 go_upto_region 1 with(first|((with_reducible refine gD 2 rfl ?_);(try (refine gate_guard rfl ?_;dsimp only));refine boxW ?_;intro Ae hg w4 hbox hb;have J:=aK hbox;have Bn:=gW HB hg;replace HB:=bS HB hb;clear hb hbox hg)|((with_reducible refine gD 3 rfl ?_);(try (refine gate_guard rfl ?_;dsimp only));refine boxW ?_;intro Ah hg w5 hbox hb;have A4:=aK hbox;have AL:=gW HB hg;replace HB:=bS HB hb;have A7:=nl J hg;have A8:=nr J hg;replace J:=bv J hb;clear hb hbox hg))
 repeat (go_quiet (first|((with_reducible refine gD 2 rfl ?_);(try (refine gate_guard rfl ?_;dsimp only));refine boxW ?_;intro Ae hg w4 hbox hb;have J:=aK hbox;have Bn:=gW HB hg;replace HB:=bS HB hb;clear hb hbox hg)|((with_reducible refine gate_dst (N:=3) rfl ?_);(try (refine gate_guard (by rfl) ?_;dsimp only));refine box_event ?hg (N:=3) ?hd (cs:=#[.int .i64 Am,.int .i64 An,.slice AF A1.length AG,.slice AH A3.length AI,.slice AJ X.length AK]) (t:=28) ?hr ?_;(case hd=>rfl);(case hg=>rfl);(case hr=>first|(go_simp;done)|(go_simp;rfl));intro Ah hg w5 hbox hb;have BG:=aK (blk_below (g:=Ae) (o:=.cells #[.int .i64 Af,.int .i64 Ag,.slice Ao Y.length Ap,.slice Aq A2.length Ar,.slice As U.length At] 28 (0,0)) bk hb);have BH:=(aK (below_step bl hb));have BI:=aK (hbox);have BJ:=aK ((by rw[hg];exact(below_size bl):w.heap.size≤Ah));have BK:=aK ((by rw[hg];exact(below_size bl):w.heap.size≤Ah));have BL:=aK ((by rw[hg];exact Nat.ne_of_lt (blk_lt (g:=Ae) (o:=.cells #[.int .i64 Af,.int .i64 Ag,.slice Ao Y.length Ap,.slice Aq A2.length Ar,.slice As U.length At] 28 (0,0)) bk):Ae≠Ah));have BM:=aK ((by rw[hg];exact Nat.ne_of_gt (blk_lt (g:=Ae) (o:=.cells #[.int .i64 Af,.int .i64 Ag,.slice Ao Y.length Ap,.slice Aq A2.length Ar,.slice As U.length At] 28 (0,0)) bk):Ah≠Ae));clear J;clear HB;have J:=BG;have HB:=BH;have A4:=BI;have AL:=BJ;have AL:=BK;have A7:=BL;have A8:=BM;clear BG BH BI BJ BK BL BM;clear hb hbox hg));go_upto_region 1 with(first|((with_reducible refine gD 2 rfl ?_);(try (refine gate_guard rfl ?_;dsimp only));refine boxW ?_;intro Ae hg w4 hbox hb;have J:=aK hbox;have Bn:=gW HB hg;replace HB:=bS HB hb;clear hb hbox hg)|((with_reducible refine gate_dst (N:=3) rfl ?_);(try (refine gate_guard (by rfl) ?_;dsimp only));refine box_event ?hg (N:=3) ?hd (cs:=#[.int .i64 Am,.int .i64 An,.slice AF A1.length AG,.slice AH A3.length AI,.slice AJ X.length AK]) (t:=28) ?hr ?_;(case hd=>rfl);(case hg=>rfl);(case hr=>first|(go_simp;done)|(go_simp;rfl));intro Ah hg w5 hbox hb;have BG:=aK (blk_below (g:=Ae) (o:=.cells #[.int .i64 Af,.int .i64 Ag,.slice Ao Y.length Ap,.slice Aq A2.length Ar,.slice As U.length At] 28 (0,0)) bk hb);have BH:=(aK (below_step bl hb));have BI:=aK (hbox);have BJ:=aK ((by rw[hg];exact(below_size bl):w.heap.size≤Ah));have BK:=aK ((by rw[hg];exact(below_size bl):w.heap.size≤Ah));have BL:=aK ((by rw[hg];exact Nat.ne_of_lt (blk_lt (g:=Ae) (o:=.cells #[.int .i64 Af,.int .i64 Ag,.slice Ao Y.length Ap,.slice Aq A2.length Ar,.slice As U.length At] 28 (0,0)) bk):Ae≠Ah));have BM:=aK ((by rw[hg];exact Nat.ne_of_gt (blk_lt (g:=Ae) (o:=.cells #[.int .i64 Af,.int .i64 Ag,.slice Ao Y.length Ap,.slice Aq A2.length Ar,.slice As U.length At] 28 (0,0)) bk):Ah≠Ae));clear J;clear HB;have J:=BG;have HB:=BH;have A4:=BI;have AL:=BJ;have AL:=BK;have A7:=BL;have A8:=BM;clear BG BH BI BJ BK BL BM;clear hb hbox hg)))
 (try simp only[Act.put,List.setIfInBounds_toArray,List.set_cons_zero,List.set_cons_succ])
 go_cut [46] (fun CL wc=>∃(kq:Nat) (B8:Bool),CL = .bool B8∧Aside0 (laws_sameDisk.j0 kq B8 Af Ag Y A2 U Am An A1 A3 X=some r)∧Aside0 (kq≤k)∧Aside0 (wc.heap[Ae]? = some (.cells #[.int .i64 Af,.int .i64 Ag,(.slice Ao Y.length Ap),(.slice Aq A2.length Ar),(.slice As U.length At)] 28 (0,0)))∧Aside0 (wc.heap[Ah]? = some (.cells #[.int .i64 Am,.int .i64 An,(.slice AF A1.length AG),(.slice AH A3.length AI),(.slice AJ X.length AK)] 28 (0,0)))∧Aside0 (Below w.heap.size w wc))
 case first=>
  have H:=C2.o;clear C2;have Hq_:=aK H;clear H;have CM:=A7.o;have CN:=A8.o;have:=cf5 J;have:=cf5 A4;have H:=Hq_.o;clear Hq_;by_cases c6:Af=Am
  ·rw[if_pos c6]at H;have Au:=bT c6;(try rw[Au]);have AM:=bE c6;(try rw[AM]);clear c6;(first|rw[Au]|(simp only[i64_w,i32_w];rw[Au])|skip);by_cases c7:Ag=An
   ·rw[if_pos c7]at H;have AN:=bT c7;(try rw[AN]);have AO:=bE c7;(try rw[AO]);clear c7;by_cases c8:(Y.length:Int)=(A1.length:Int)
    ·rw[if_pos c8]at H;have AP:=bT c8;(try rw[AP]);have AQ:=bE c8;(try rw[AQ]);have AR:(Y.length==A1.length)=true:=by first|simpa using c8|(simp at c8 ⊢;omega)
     (try rw[AR]);clear c8;by_cases c9:(A2.length:Int)=(A3.length:Int)
     ·rw[if_pos c9]at H;have AS:=bT c9;(try rw[AS]);have AT:=bE c9;(try rw[AT]);have AU:(A2.length==A3.length)=true:=by first|simpa using c9|(simp at c9 ⊢;omega)
      (try rw[AU]);clear c9;have H':=aK H;clear H;go_wp2;repeat (go_quiet (fail);try go_wp2)
      go_meet
      case rel=>exact⟨_,(((U.length:Int) != (X.length:Int))),fa,H',⟨by first|omega|exact Nat.le_refl _⟩,⟨bw J⟩,⟨bw A4⟩,⟨bl⟩⟩
     ·rw[if_neg c9]at H;have AS:=bN c9;(try rw[AS]);have AT:=bQ c9;(try rw[AT]);have AU:(A2.length==A3.length)=false:=by first|simpa using c9|(simp at c9 ⊢;omega)
      (try rw[AU]);have H':=aK H;clear H;go_wp2;repeat (go_quiet (fail);try go_wp2)
      go_meet
      case rel=>exact⟨_,(true),fa,H',⟨by first|omega|exact Nat.le_refl _⟩,⟨bw J⟩,⟨bw A4⟩,⟨bl⟩⟩
    ·rw[if_neg c8]at H;have AP:=bN c8;(try rw[AP]);have AQ:=bQ c8;(try rw[AQ]);have AR:(Y.length==A1.length)=false:=by first|simpa using c8|(simp at c8 ⊢;omega)
     (try rw[AR]);have H':=aK H;clear H;go_wp2;repeat (go_quiet (fail);try go_wp2)
     go_meet
     case rel=>exact⟨_,(true),fa,H',⟨by first|omega|exact Nat.le_refl _⟩,⟨bw J⟩,⟨bw A4⟩,⟨bl⟩⟩
   ·rw[if_neg c7]at H;have AN:=bN c7;(try rw[AN]);have AO:=bQ c7;(try rw[AO]);have H':=aK H;clear H;go_wp2;repeat (go_quiet (fail);try go_wp2)
    go_meet
    case rel=>exact⟨_,(true),fa,H',⟨by first|omega|exact Nat.le_refl _⟩,⟨bw J⟩,⟨bw A4⟩,⟨bl⟩⟩
  ·rw[if_neg c6]at H;have Au:=bN c6;(try rw[Au]);have AM:=bQ c6;(try rw[AM]);(first|rw[Au]|(simp only[i64_w,i32_w];rw[Au])|skip);have H':=aK H;clear H;go_wp2;repeat (go_quiet (fail);try go_wp2)
   go_meet
   case rel=>exact⟨_,(true),fa,H',⟨by first|omega|exact Nat.le_refl _⟩,⟨bw J⟩,⟨bw A4⟩,⟨bl⟩⟩
 case rest=>
  clear C2;(try clear c1);(try clear c2);(try clear p2);(try clear c6);(try clear Au);(try clear AM);(try clear c7);(try clear AN);(try clear AO);(try clear c8);(try clear AP);(try clear AQ);(try clear AR);(try clear c9);(try clear AS);(try clear AT);(try clear AU);(try clear c10);(try clear C3);(try clear C4);(try clear C5);(try clear C6);obtain⟨kq,B8,rfl,HA,Bo,J,A4,HB⟩:=hcut;cases kq with
  |zero=>exact absurd HA.o (by simp[laws_sameDisk.j0])
  |succ Cp=>
   have H:=HA.o;clear HA;simp only[laws_sameDisk.j0]at H;by_cases Be:B8=true
   ·subst Be;replace H:=iT H;obtain rfl:=oj H;go_wp2;repeat (go_quiet (fail);try go_wp2)
    go_ret
    exact⟨fe,bl⟩
   ·replace Be:=bF Be;subst Be;replace H:=iF H;have H':=aK H;clear H;go_wp2;repeat (go_quiet (fail);try go_wp2)
    go_loopg [5] Cp (fun kq v5 w'=>∃(Z:Int),v5 = .int .i64 Z∧Aside0 (laws_sameDisk.l0 kq Z Af Ag Y A2 U Am An A1 A3 X=some r)∧Aside0 (kq≤Cp)∧Aside0 (w'.heap[Ae]? = some (.cells #[.int .i64 Af,.int .i64 Ag,(.slice Ao Y.length Ap),(.slice Aq A2.length Ar),(.slice As U.length At)] 28 (0,0)))∧Aside0 (w'.heap[Ah]? = some (.cells #[.int .i64 Am,.int .i64 An,(.slice AF A1.length AG),(.slice AH A3.length AI),(.slice AJ X.length AK)] 28 (0,0)))∧Aside0 (Below w.heap.size w w'))
    case atStart=>exact⟨(0),fa,H',⟨Nat.le_refl _⟩,⟨bw J⟩,⟨bw A4⟩,⟨bl⟩⟩
    case round=>
     clear H';(try clear c1);(try clear c2);(try clear p2);(try clear c6);(try clear Au);(try clear AM);(try clear c7);(try clear AN);(try clear AO);(try clear c8);(try clear AP);(try clear AQ);(try clear AR);(try clear c9);(try clear AS);(try clear AT);(try clear AU);(try clear c10);(try clear C3);(try clear C4);(try clear C5);(try clear C6);(try clear Be);(try clear p2);obtain⟨Z,rfl,HA,Bp,J,A4,HB⟩:=hrel;cases gk with
     |zero=>exact absurd HA.o (by simp[laws_sameDisk.l0])
     |succ k2=>
      have H:=HA.o;clear HA;simp only[laws_sameDisk.l0]at H;by_cases Bd:Z<(Y.length:Int)
      ·rw[if_pos Bd]at H;have Bf:=dt Bd;clear Bd;by_cases Bq:0≤Z
       ·rw[if_pos Bq]at H;have BN:=dt Bq;clear Bq;have Hq_:=aK H;clear H;have C7:=A7.o;have C8:=A8.o;have:=cf5 J;have AV:0≤(Z:Int):=dT am;have AW:Z<(Y.length:Int):=dT am;obtain⟨Cy,C9,Av,Aw,Ax⟩:=at_T35 BW.o Z AV AW;cases C9;replace Av:=cz HB Av;replace Aw:=cz HB Aw;replace Ax:=cz HB Ax;replace AV:=eq_true AV;replace AW:=eq_true AW;have:=cf5 A4;have AX:0≤(Z:Int):=dT am;have H:=Hq_.o;clear Hq_;by_cases Br:Z<(A1.length:Int)
        ·rw[if_pos Br]at H;have Bg:=dt Br;(try rw[Bg]);clear Br;have Hq_:=aK H;clear H;have AY:Z<(A1.length:Int):=dT am;obtain⟨Cz,Ca,Ay,Az,A_⟩:=at_T35 BZ.o Z AX AY;cases Ca;replace Ay:=cz HB Ay;replace Az:=cz HB Az;replace A_:=cz HB A_;replace AX:=eq_true AX;replace AY:=eq_true AY;have H:=Hq_.o;clear Hq_;by_cases Bh:(!(((rd_T35 Y Z).f0)==((rd_T35 A1 Z).f0))||(!((((rd_T35 Y Z).f1).toList)==(((rd_T35 A1 Z).f1).toList))||(!(((rd_T35 Y Z).f2)==((rd_T35 A1 Z).f2)))))=true
         ·rw[if_pos Bh]at H;obtain rfl:=oj H;rcases(show(¬((rd_T35 Y Z).f0)=((rd_T35 A1 Z).f0))∨(((rd_T35 Y Z).f0)=((rd_T35 A1 Z).f0)∧¬(((rd_T35 Y Z).f1).toList)=(((rd_T35 A1 Z).f1).toList))∨(((rd_T35 Y Z).f0)=((rd_T35 A1 Z).f0)∧(((rd_T35 Y Z).f1).toList)=(((rd_T35 A1 Z).f1).toList)∧¬((rd_T35 Y Z).f2)=((rd_T35 A1 Z).f2))from by by_cases AA:((rd_T35 Y Z).f0)=((rd_T35 A1 Z).f0)<;>by_cases AZ:(((rd_T35 Y Z).f1).toList)=(((rd_T35 A1 Z).f1).toList)<;>by_cases Bs:((rd_T35 Y Z).f2)=((rd_T35 A1 Z).f2)<;>simp_all)with AA|⟨AA,AZ⟩|⟨AA,AZ,Bs⟩
          all_goals
           clear Bh;go_wp2;repeat (go_quiet (fail);try go_wp2)
           go_ret
           exact⟨fe,bl⟩
         ·rw[if_neg Bh]at H;obtain⟨AA,AZ,Bs⟩:((rd_T35 Y Z).f0)=((rd_T35 A1 Z).f0)∧(((rd_T35 Y Z).f1).toList)=(((rd_T35 A1 Z).f1).toList)∧((rd_T35 Y Z).f2)=((rd_T35 A1 Z).f2):=by simpa using Bh
          clear Bh;have H':=aK H;clear H;go_wp2;repeat (go_quiet (fail);try go_wp2)
          go_roundg k2
          case measure=>have:=Bo.o;have:=Bp.o;omega
          case rel=>exact⟨(wrap64 (Z+1)),fa,H',⟨by have:=Bo.o;have:=Bp.o;omega⟩,⟨bw J⟩,⟨bw A4⟩,⟨bl⟩⟩
        ·rw[if_neg Br]at H;exact absurd H (by simp)
       ·rw[if_neg Bq]at H;exact absurd H (by simp)
      ·rw[if_neg Bd]at H;have Bf:=df Bd;clear Bd;have H':=aK H;clear H;have C7:=A7.o;have C8:=A8.o;have:=cf5 J;go_wp2;repeat (go_quiet (fail);try go_wp2)
       go_loopg [6] k2 (fun kq v6 w'=>∃(Ab:Int),v6 = .int .i64 Ab∧Aside0 (laws_sameDisk.l1 kq Ab Af Ag Y A2 U Am An A1 A3 X=some r)∧Aside0 (kq≤k2)∧Aside0 (w'.heap[Ae]? = some (.cells #[.int .i64 Af,.int .i64 Ag,(.slice Ao Y.length Ap),(.slice Aq A2.length Ar),(.slice As U.length At)] 28 (0,0)))∧Aside0 (w'.heap[Ah]? = some (.cells #[.int .i64 Am,.int .i64 An,(.slice AF A1.length AG),(.slice AH A3.length AI),(.slice AJ X.length AK)] 28 (0,0)))∧Aside0 (Below w.heap.size w w'))
       case atStart=>exact⟨(0),fa,H',⟨Nat.le_refl _⟩,⟨bw J⟩,⟨bw A4⟩,⟨bl⟩⟩
       case round=>
        clear H';(try clear c1);(try clear p1);(try clear q1);(try clear CO);(try clear c2);(try clear p2);(try clear c3);(try clear c6);(try clear Au);(try clear AM);(try clear p6);(try clear c7);(try clear AN);(try clear AO);(try clear c8);(try clear AP);(try clear AQ);(try clear AR);(try clear c9);(try clear AS);(try clear AT);(try clear AU);(try clear c10);(try clear Cq);(try clear Cr);(try clear Cs);(try clear C3);(try clear C4);(try clear C5);(try clear C6);(try clear Be);(try clear Bd);(try clear Bf);(try clear Bq);(try clear BN);(try clear Br);(try clear Bg);(try clear Bh);(try clear Cb);(try clear CP);(try clear CQ);(try clear CR);(try clear Av);(try clear Aw);(try clear Ax);(try clear Ay);(try clear Az);(try clear A_);(try clear AV);(try clear AX);(try clear p2);(try clear AW);(try clear AY);obtain⟨Ab,rfl,HA,BT,J,A4,HB⟩:=hrel;cases gk with
        |zero=>exact absurd HA.o (by simp[laws_sameDisk.l1])
        |succ k3=>
         have H:=HA.o;clear HA;simp only[laws_sameDisk.l1]at H;by_cases Bi:Ab<(A2.length:Int)
         ·rw[if_pos Bi]at H;have BO:=dt Bi;clear Bi;by_cases BP:0≤Ab
          ·rw[if_pos BP]at H;have Cc:=dt BP;clear BP;have Hq_:=aK H;clear H;have Cd:=A7.o;have Ce:=A8.o;have:=cf5 J;have B9:0≤(Ab:Int):=dT am;have Ba:Ab<(A2.length:Int):=dT am;obtain⟨C_,Cf,AB,AC⟩:=at_T37 BX.o Ab B9 Ba;cases Cf;replace AB:=cz HB AB;replace AC:=cz HB AC;replace B9:=eq_true B9;replace Ba:=eq_true Ba;have:=cf5 A4;have Bb:0≤(Ab:Int):=dT am;have H:=Hq_.o;clear Hq_;by_cases BQ:Ab<(A3.length:Int)
           ·rw[if_pos BQ]at H;have BR:=dt BQ;(try rw[BR]);clear BQ;have Hq_:=aK H;clear H;have Bc:Ab<(A3.length:Int):=dT am;obtain⟨CA,Cg,AD,AE⟩:=at_T37 C0.o Ab Bb Bc;cases Cg;replace AD:=cz HB AD;replace AE:=cz HB AE;replace Bb:=eq_true Bb;replace Bc:=eq_true Bc;have H:=Hq_.o;clear Hq_;by_cases Bt:(!((((rd_T37 A2 Ab).f0).toList)==(((rd_T37 A3 Ab).f0).toList))||(!(((rd_T37 A2 Ab).f1)==((rd_T37 A3 Ab).f1))))=true
            ·rw[if_pos Bt]at H;obtain rfl:=oj H;rcases(show(¬(((rd_T37 A2 Ab).f0).toList)=(((rd_T37 A3 Ab).f0).toList))∨((((rd_T37 A2 Ab).f0).toList)=(((rd_T37 A3 Ab).f0).toList)∧¬((rd_T37 A2 Ab).f1)=((rd_T37 A3 Ab).f1))from by by_cases AA:(((rd_T37 A2 Ab).f0).toList)=(((rd_T37 A3 Ab).f0).toList)<;>by_cases AZ:((rd_T37 A2 Ab).f1)=((rd_T37 A3 Ab).f1)<;>simp_all)with AA|⟨AA,AZ⟩
             all_goals
              clear Bt;go_wp2;repeat (go_quiet (fail);try go_wp2)
              go_ret
              exact⟨fe,bl⟩
            ·rw[if_neg Bt]at H;obtain⟨AA,AZ⟩:(((rd_T37 A2 Ab).f0).toList)=(((rd_T37 A3 Ab).f0).toList)∧((rd_T37 A2 Ab).f1)=((rd_T37 A3 Ab).f1):=by simpa using Bt
             clear Bt;have H':=aK H;clear H;go_wp2;repeat (go_quiet (fail);try go_wp2)
             go_roundg k3
             case measure=>have:=Bo.o;have:=Bp.o;have:=BT.o;omega
             case rel=>exact⟨(wrap64 (Ab+1)),fa,H',⟨by have:=Bo.o;have:=Bp.o;have:=BT.o;omega⟩,⟨bw J⟩,⟨bw A4⟩,⟨bl⟩⟩
           ·rw[if_neg BQ]at H;exact absurd H (by simp)
          ·rw[if_neg BP]at H;exact absurd H (by simp)
         ·rw[if_neg Bi]at H;have BO:=df Bi;clear Bi;have H':=aK H;clear H;have Cd:=A7.o;have Ce:=A8.o;have:=cf5 J;go_wp2;repeat (go_quiet (fail);try go_wp2)
          go_loopg [7] k3 (fun kq v7 w'=>∃(D:Int),v7 = .int .i64 D∧Aside0 (laws_sameDisk.l2 kq D Af Ag Y A2 U Am An A1 A3 X=some r)∧Aside0 (kq≤k3)∧Aside0 (w'.heap[Ae]? = some (.cells #[.int .i64 Af,.int .i64 Ag,(.slice Ao Y.length Ap),(.slice Aq A2.length Ar),(.slice As U.length At)] 28 (0,0)))∧Aside0 (w'.heap[Ah]? = some (.cells #[.int .i64 Am,.int .i64 An,(.slice AF A1.length AG),(.slice AH A3.length AI),(.slice AJ X.length AK)] 28 (0,0)))∧Aside0 (Below w.heap.size w w'))
          case atStart=>exact⟨(0),fa,H',⟨Nat.le_refl _⟩,⟨bw J⟩,⟨bw A4⟩,⟨bl⟩⟩
          case round=>
           clear H';(try clear c1);(try clear p1);(try clear q1);(try clear CO);(try clear c2);(try clear p2);(try clear c3);(try clear c4);(try clear c6);(try clear Au);(try clear AM);(try clear p6);(try clear c7);(try clear AN);(try clear AO);(try clear c8);(try clear AP);(try clear AQ);(try clear AR);(try clear c9);(try clear AS);(try clear AT);(try clear AU);(try clear c10);(try clear Cq);(try clear Cr);(try clear Cs);(try clear C3);(try clear C4);(try clear C5);(try clear C6);(try clear Be);(try clear Bd);(try clear Bf);(try clear Bq);(try clear BN);(try clear Br);(try clear Bg);(try clear Bh);(try clear Cb);(try clear CP);(try clear CQ);(try clear CR);(try clear Bi);(try clear BO);(try clear BP);(try clear Cc);(try clear BQ);(try clear BR);(try clear Bt);(try clear CS);(try clear D2);(try clear D3);(try clear D4);(try clear Av);(try clear Aw);(try clear Ax);(try clear Ay);(try clear Az);(try clear A_);(try clear AB);(try clear AC);(try clear AD);(try clear AE);(try clear p1);(try clear Cq);(try clear AV);(try clear AX);(try clear B9);(try clear Bb);(try clear p2);(try clear p6);(try clear q1);(try clear Cr);(try clear AW);(try clear AY);(try clear Ba);(try clear Bc);obtain⟨D,rfl,HA,Ct,J,A4,HB⟩:=hrel;cases gk with
           |zero=>exact absurd HA.o (by simp[laws_sameDisk.l2])
           |succ k4=>
            have H:=HA.o;clear HA;simp only[laws_sameDisk.l2]at H;by_cases Bu:D<(U.length:Int)
            ·rw[if_pos Bu]at H;have Ch:=dt Bu;clear Bu;by_cases BU:0≤D
             ·rw[if_pos BU]at H;have CT:=dt BU;clear BU;have Hq_:=aK H;clear H;have Ci:=A7.o;have Cj:=A8.o;have:=cf5 J;have Bj:0≤(D:Int):=dT am;have Bk:D<(U.length:Int):=dT am;obtain⟨CB,Ck,B0,B1,B2,B3⟩:=at_T39 BY.o D Bj Bk;cases Ck;replace B0:=cz HB B0;replace B1:=cz HB B1;replace B2:=cz HB B2;replace B3:=cz HB B3;replace Bj:=eq_true Bj;replace Bk:=eq_true Bk;have:=cf5 A4;have Bl:0≤(D:Int):=dT am;have H:=Hq_.o;clear Hq_;by_cases BV:D<(X.length:Int)
              ·rw[if_pos BV]at H;have Cl:=dt BV;(try rw[Cl]);clear BV;have Hq_:=aK H;clear H;have Bm:D<(X.length:Int):=dT am;obtain⟨CC,Cm,B4,B5,B6,B7⟩:=at_T39 C1.o D Bl Bm;cases Cm;replace B4:=cz HB B4;replace B5:=cz HB B5;replace B6:=cz HB B6;replace B7:=cz HB B7;replace Bl:=eq_true Bl;replace Bm:=eq_true Bm;have H:=Hq_.o;clear Hq_;by_cases BS:(!(((rd_T39 U D).f0)==((rd_T39 X D).f0))||(!((((rd_T39 U D).f1).toList)==(((rd_T39 X D).f1).toList))||(!((((rd_T39 U D).f2).toList)==(((rd_T39 X D).f2).toList))||(!(((rd_T39 U D).f3)==((rd_T39 X D).f3))))))=true
               ·rw[if_pos BS]at H;obtain rfl:=oj H;rcases(show(¬((rd_T39 U D).f0)=((rd_T39 X D).f0))∨(((rd_T39 U D).f0)=((rd_T39 X D).f0)∧¬(((rd_T39 U D).f1).toList)=(((rd_T39 X D).f1).toList))∨(((rd_T39 U D).f0)=((rd_T39 X D).f0)∧(((rd_T39 U D).f1).toList)=(((rd_T39 X D).f1).toList)∧¬(((rd_T39 U D).f2).toList)=(((rd_T39 X D).f2).toList))∨(((rd_T39 U D).f0)=((rd_T39 X D).f0)∧(((rd_T39 U D).f1).toList)=(((rd_T39 X D).f1).toList)∧(((rd_T39 U D).f2).toList)=(((rd_T39 X D).f2).toList)∧¬((rd_T39 U D).f3)=((rd_T39 X D).f3))from by by_cases AA:((rd_T39 U D).f0)=((rd_T39 X D).f0)<;>by_cases AZ:(((rd_T39 U D).f1).toList)=(((rd_T39 X D).f1).toList)<;>by_cases Bs:(((rd_T39 U D).f2).toList)=(((rd_T39 X D).f2).toList)<;>by_cases Cu:((rd_T39 U D).f3)=((rd_T39 X D).f3)<;>simp_all)with AA|⟨AA,AZ⟩|⟨AA,AZ,Bs⟩|⟨AA,AZ,Bs,Cu⟩
                all_goals
                 clear BS;go_wp2;repeat (go_quiet (fail);try go_wp2)
                 go_ret
                 exact⟨fe,bl⟩
               ·rw[if_neg BS]at H;obtain⟨AA,AZ,Bs,Cu⟩:((rd_T39 U D).f0)=((rd_T39 X D).f0)∧(((rd_T39 U D).f1).toList)=(((rd_T39 X D).f1).toList)∧(((rd_T39 U D).f2).toList)=(((rd_T39 X D).f2).toList)∧((rd_T39 U D).f3)=((rd_T39 X D).f3):=by simpa using BS
                clear BS;have H':=aK H;clear H;go_wp2;repeat (go_quiet (fail);try go_wp2)
                go_roundg k4
                case measure=>have:=Bo.o;have:=Bp.o;have:=BT.o;have:=Ct.o;omega
                case rel=>exact⟨(wrap64 (D+1)),fa,H',⟨by have:=Bo.o;have:=Bp.o;have:=BT.o;have:=Ct.o;omega⟩,⟨bw J⟩,⟨bw A4⟩,⟨bl⟩⟩
              ·rw[if_neg BV]at H;exact absurd H (by simp)
             ·rw[if_neg BU]at H;exact absurd H (by simp)
            ·rw[if_neg Bu]at H;have Ch:=df Bu;clear Bu;obtain rfl:=oj H;have Ci:=A7.o;have Cj:=A8.o;have:=cf5 J;go_wp2;repeat (go_quiet (fail);try go_wp2)
             go_ret
             exact⟨fe,bl⟩
def laws_at.f (l0:List Int) (a1:Int):Option (Int):=if a1<(l0.length:Int)then(if 0≤a1 then(some (wrap64 (rd l0 a1)))else(none))else(some (Int.tmod (wrap64 ((wrap64 (a1*37))+(wrap64 ((l0.length:Int)*11)))) 256))
theorem laws_at.calls (A0:Option Addr) (c0:Nat) (l0:List Int) (a1:Int) (r:Int) (w:World) (Cv:Kd.C (Kd.int .u8) w A0 l0.length l0) (Cw:l0.length≤c0) (h:laws_at.f l0 a1=some r) :
 Calls Try.prog 27 #[.slice A0 l0.length c0,.int .i64 a1] w fun e w'=>e = .returned (.int .i64 r)∧Drawn0 w w':=by
 have CU:=aK Cv;have D5:=aK Cw;clear Cv Cw;have H:=h;unfold laws_at.f at H;clear h;by_cases c3:a1<(l0.length:Int)
 ·rw[if_pos c3]at H;have Cx:=dt c3;clear c3;by_cases c4:0≤a1
  ·rw[if_pos c4]at H;have D0:=dt c4;clear c4;obtain rfl:=oj H;have Cn:0≤(a1:Int):=dT am;have Co:a1<(l0.length:Int):=dT am;obtain⟨D1,CV,CD⟩:=Kd.at_int CU.o a1 Cn Co;cases CV;replace Cn:=eq_true Cn;replace Co:=eq_true Co
   go_enter Try.func27,Try.ntmps27
   go_wp2
   go_ret
   exact⟨fa,fd⟩
  ·rw[if_neg c4]at H;exact absurd H (by simp)
 ·rw[if_neg c3]at H;have Cx:=df c3;clear c3;obtain rfl:=oj H
  go_enter Try.func27,Try.ntmps27
  go_wp2
  go_ret
  exact⟨fa,fd⟩
end Go.Proofs.Ytndbmllnkjngnaa.PDs
