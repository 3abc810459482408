/- Functions of the program, each with its contract, written by a program out of the translation. -/
import Derived.Test.YtndbmllnkjngnaaGreatPDsx0
import Derived.Test.YtndbmllnkjngnaaGreatPDsx2
import Derived.Test.YtndbmllnkjngnaaGreatZop
namespace Go.Proofs.YtndbmllnkjngnaaGreat.PDs
open Go.RowKit Go.Proofs.YtndbmllnkjngnaaGreatW.PrintWords Go.Proofs.YtndbmllnkjngnaaGreatW.PrintLast Go.Proofs.YtndbmllnkjngnaaGreatW.PrintMore Go.Proofs.YtndbmllnkjngnaaGreat.Zip
attribute [local go_sem] max2_int min2_int max_two min_two max_three min_three max_four min_four
set_option linter.unusedVariables false
set_option linter.unusedSimpArgs false
set_option maxHeartbeats 8000000
set_option maxRecDepth 100000
mutual
def spec_l4Apply.j0:Nat→List (S133)→Int→Bool→Int→ByteArray→ByteArray→Int→Option ((List (S133))×Bool)
 | 0,_,_,_,_,_,_,_=>none
 |k+1,x0,x6,Be,A5,Z,A0,A2=>if Be=true then((spec_l4With.f k x0 Z A2).bind fun AB=>(some (AB,true)))else(if A5=2 then(if A2=0 then(if x6≥0 then((spec_l4Name.f k A0).bind fun AC=>(if AC=true then(spec_l4Apply.j1 k x0 x6 (A0.toList != Z.toList) A5 Z A0 A2)else(spec_l4Apply.j1 k x0 x6 false A5 Z A0 A2)))else(spec_l4Apply.j1 k x0 x6 false A5 Z A0 A2))else(spec_l4Apply.j1 k x0 x6 false A5 Z A0 A2))else(spec_l4Apply.j1 k x0 x6 false A5 Z A0 A2))
def spec_l4Apply.j1:Nat→List (S133)→Int→Bool→Int→ByteArray→ByteArray→Int→Option ((List (S133))×Bool)
 | 0,_,_,_,_,_,_,_=>none
 |k+1,x0,x6,Bf,A5,Z,A0,A2=>if Bf=true then((spec_l4Without.f k x0 Z).bind fun Am=>(if 0≤x6 then(if x6<(x0.length:Int)then((spec_l4With.f k Am A0 ((rd_T133 x0 x6).f1)).bind fun AD=>(some (AD,true)))else(none))else(none)))else(if A5=3 then(if A2=0 then(if A0.toList=([]:List UInt8)then(if x6≥0 then((spec_l4Without.f k x0 Z).bind fun AE=>(some (AE,true)))else(some (x0,false)))else(some (x0,false)))else(some (x0,false)))else(some (x0,false)))
end
def spec_l4Apply.f (k:Nat) (l0:List (S133)) (A6:Int) (X:ByteArray) (A1:ByteArray) (A7:Int):Option ((List (S133))×Bool):=(spec_l4At.f k l0 X).bind fun Y=>((spec_l4Name.f k X).bind fun AF=>(if AF=true then(if A6=1 then(if A1.toList=([]:List UInt8)then(spec_l4Apply.j0 k l0 Y (decide (Y<0)) A6 X A1 A7)else(spec_l4Apply.j0 k l0 Y false A6 X A1 A7))else(spec_l4Apply.j0 k l0 Y false A6 X A1 A7))else(some (l0,false))))
def spec_l4Apply.T7:Bool×List (List Nat×List Nat):=(true,[([],[]),([],[]),([1],[1]),([0,2],[0,2]),([],[]),([4],[4]),([],[]),([],[]),([6,7],[6,7]),([8],[8]),([9],[9]),([5,10],[5,10]),([3,11,3],[3,11]),([12,12,0,1,2,3,4,5,6,7,8,9,10,11,12],[12]),([13,0,1,2,3,4,5,6,7,8,9,10,11,12,13],[])])
def spec_l4Apply.B7:List Nat:=[0,0,2,7,0,16,0,0,192,448,960,2032,4095,8191,16383]
theorem spec_l4Apply.tab7:rtab .any (opsOf Tryz.f105 7)=spec_l4Apply.T7:=by kernel_rfl
theorem spec_l4Apply.bits7:waitsOk spec_l4Apply.T7.2 spec_l4Apply.B7=true:=by kernel_rfl
theorem spec_l4Apply.calls (k:Nat) (A8:Nat→Prop) (Aj:Value) (l0:List (S133)) (A6:Int) (X:ByteArray) (A1:ByteArray) (A7:Int) (r1:List (S133)) (r2:Bool) (w0 w:World) (hB:Below w0.heap.size w0 w) (Aa:Kd.R k133 133 w w0.heap.size A8 Aj l0) (h:spec_l4Apply.f k l0 A6 X A1 A7=some (r1,r2)) :
 Calls Tryz.prog 105 #[Aj,.agg #[.int .i64 A6,.string X,.string A1,.int .i64 A7]] w fun e w'=>∃B5:Value,e = .returned (.tuple #[B5,.bool r2])∧Kd.R k133 133 w' w0.heap.size (fun k_=>(A8 k_∨w.heap.size≤k_)) B5 r1∧Below w0.heap.size w0 w'∧Kept w w' (fun k_=>A8 k_):=by
 have Bg:=Tryz.underlying135;have Bh:=Tryz.underlying133;have Ac:=aK (show Kd.R k133 133 w w0.heap.size (fun k_=>(A8 k_∨w.heap.size≤k_)) Aj l0 from rM Aa (fun k_ hk=>(.inl hk)));have HK:=aK (Kept.refl w (fun k_=>A8 k_));have Bz:=aK hB.size;have HB:=aK hB;clear hB;have H:=h;unfold spec_l4Apply.f at H;clear h;obtain⟨Y,A3,H⟩:=bd H;obtain⟨AF,A4,H⟩:=bd H;by_cases c5:AF=true
 ·subst c5;replace H:=iT H;have AW:=aK H;clear H
  go_enter Tryz.func105,Tryz.ntmps105
  go_upto_region 4 with(first|((with_reducible refine gD 3 rfl ?_);refine boxZ 3 #[.int .i64 A6,.string X,.string A1,.int .i64 A7] 135 ?_;intro A9 hg Bi hbox hb;replace Ac:=rb Ac hb;have D:=aK hbox;have J:=aK ((by rw[hg];exact(by first|exact HK.out.1|exact(show Kept w _ (fun k_=>A8 k_)from by repeat (first|(with_reducible first|exact HK.o|apply Kept.alloc|apply Kept.drewN|apply Kept.drew)|exact HK.o)).1):w.heap.size≤A9));replace HK:=aK (Kept.below (S:=(fun k_=>A8 k_)) (by repeat (first|(with_reducible first|exact HK.o|apply Kept.alloc|apply Kept.drewN|apply Kept.drew)|exact HK.o)) hb);have J:=gw (w:=w0) hg;replace HB:=bs (w:=w0) hb;clear hb hbox hg;obtain⟨_,_,_,_,_,_,_,_⟩:=cf4 D;obtain⟨Ah,Ae,rfl⟩:=rs Ac)|((with_reducible refine gC 160 rfl ?_);refine goesZ (some 10) rfl Tryz.func160 #[.slice Ah l0.length Ae,.string X] ?_;(with_reducible refine(spec_l4At.calls k _ _ l0 X Y _ ?_ ?_ A3.o).mono ?_);exact ca (cR Ac.o);exact cl Ac;rintro e w' ⟨rfl,⟨nd,rfl⟩⟩;refine⟨_,rfl,?_⟩)|((with_reducible refine gC 103 rfl ?_);refine goesZ (some 14) rfl Tryz.func103 #[.string X] ?_;(with_reducible refine(spec_l4Name.calls k X _ _ A4.o).mono ?_);rintro e w' ⟨rfl,⟨nd,rfl⟩⟩;refine⟨_,rfl,?_⟩))
  (try simp only[Act.put,List.setIfInBounds_toArray,List.set_cons_zero,List.set_cons_succ])
  go_cut [17] (fun Bj wc=>∃(kq:Nat) (Ak:Bool),Bj = .bool Ak∧Aside0 (spec_l4Apply.j0 kq l0 Y Ak A6 X A1 A7=some (r1,r2))∧Aside0 (kq≤k)∧Aside0 (Kd.R k133 133 wc w0.heap.size (fun k_=>(A8 k_∨w.heap.size≤k_)) (.slice Ah l0.length Ae) l0)∧Aside0 (wc.heap[A9]? = some (.cells #[.int .i64 A6,.string X,.string A1,.int .i64 A7] 135 (0,0)))∧Aside0 (Kept w wc (fun k_=>A8 k_))∧Aside0 (Below w0.heap.size w0 wc))
  case first=>
   have H:=AW.o;clear AW;by_cases c10:A6=1
   ·rw[if_pos c10]at H;have Ab:=bT c10;have Ap:=bE c10;clear c10;(first|rw[Ab]|(simp only[i64_w,i32_w];rw[Ab])|skip);by_cases Al:A1.toList=([]:List UInt8)
    ·rw[if_pos Al]at H;have Ai:=bT Al;have Aq:=Ai;simp only[show ∀l_:List UInt8,(l_ == [])=l_.isEmpty from fun l_=>by cases l_<;>rfl]at Aq;have Ar:=bE Al;clear Al;have H':=aK H;clear H;obtain⟨_,_,_,_,_,_,_,_⟩:=cf4 D;go_wp2
     go_meet
     case rel=>exact⟨_,(decide (Y<0)),fa,H',⟨by first|omega|exact Nat.le_refl _⟩,⟨rpR Ac.o⟩,⟨bw D⟩,⟨by repeat (first|(with_reducible first|exact HK.o|apply Kept.alloc|apply Kept.drewN|apply Kept.drew|refine Kept.setCell ?_ (.inr J.o) _)|exact HK.o)⟩,⟨bl⟩⟩
    ·rw[if_neg Al]at H;have Ai:=bN Al;have Aq:=Ai;simp only[show ∀l_:List UInt8,(l_ == [])=l_.isEmpty from fun l_=>by cases l_<;>rfl]at Aq;have Ar:=bQ Al;have H':=aK H;clear H;obtain⟨_,_,_,_,_,_,_,_⟩:=cf4 D;go_wp2
     go_meet
     case rel=>exact⟨_,(false),fa,H',⟨by first|omega|exact Nat.le_refl _⟩,⟨rpR Ac.o⟩,⟨bw D⟩,⟨by repeat (first|(with_reducible first|exact HK.o|apply Kept.alloc|apply Kept.drewN|apply Kept.drew|refine Kept.setCell ?_ (.inr J.o) _)|exact HK.o)⟩,⟨bl⟩⟩
   ·rw[if_neg c10]at H;have Ab:=bN c10;have Ap:=bQ c10;(first|rw[Ab]|(simp only[i64_w,i32_w];rw[Ab])|skip);have H':=aK H;clear H;obtain⟨_,_,_,_,_,_,_,_⟩:=cf4 D;go_wp2
    go_meet
    case rel=>exact⟨_,(false),fa,H',⟨by first|omega|exact Nat.le_refl _⟩,⟨rpR Ac.o⟩,⟨bw D⟩,⟨by repeat (first|(with_reducible first|exact HK.o|apply Kept.alloc|apply Kept.drewN|apply Kept.drew|refine Kept.setCell ?_ (.inr J.o) _)|exact HK.o)⟩,⟨bl⟩⟩
  case rest=>
   clear AW;(try clear c1);(try clear p2);(try clear c5);(try clear c10);(try clear Ab);(try clear Ap);(try clear Al);(try clear Ai);(try clear Ar);obtain⟨kq,Ak,rfl,HA,AG,U,D,HK,HB⟩:=hcut;cases kq with
   |zero=>exact absurd HA.o (by simp[spec_l4Apply.j0])
   |succ AR=>
    have H:=HA.o;clear HA;simp only[spec_l4Apply.j0]at H;by_cases AH:Ak=true
    ·subst AH;replace H:=iT H;obtain⟨AB,Bk,H⟩:=bd H;simp only[Option.some.injEq,Prod.mk.injEq]at H;obtain⟨rfl,rfl⟩:=H;obtain⟨_,_,_,_,_,_,_,_⟩:=cf4 D;go_wp2_with (first|((with_reducible refine gC 161 rfl ?_);refine goesZ (some 36) rfl Tryz.func161 #[.slice Ah l0.length Ae,.agg #[.string X,.int .i64 A7]] ?_;(with_reducible refine(spec_l4With.calls AR _ _ l0 X A7 AB _ ?_ ?_ Bk.o).mono ?_);exact ca (cR U.o);exact cl U;rintro e B_ ⟨BA,rfl,Aa,hb⟩;refine⟨_,rfl,?_⟩;have B6:=rl HB (Kd.R_new' (Kd.R_newM (M:=fun k_=>(A8 k_∨w.heap.size≤k_)) Aa (by first|exact HK.out.1|exact(show Kept w _ (fun k_=>A8 k_)from by repeat (first|(with_reducible first|exact HK.o|apply Kept.alloc|apply Kept.drewN|apply Kept.drew|refine Kept.setCell ?_ (.inr J.o) _)|exact HK.o)).1) (fun k_ h_=>.inr h_)) (Kd.R_lt (rpR U.o)));replace U:=re U.o Aa hb;replace D:=bv D hb;replace HK:=aK (Kept.below (S:=(fun k_=>A8 k_)) (by repeat (first|(with_reducible first|exact HK.o|apply Kept.alloc|apply Kept.drewN|apply Kept.drew|refine Kept.setCell ?_ (.inr J.o) _)|exact HK.o)) hb);replace HB:=bs (w:=w0) hb;(try clear hb Aa)))
     go_ret2
     exact⟨_,fe,rpR (rM B6.o (fun _ hk=>hk.1.1)),bl,by repeat (first|(with_reducible first|exact HK.o|apply Kept.alloc|apply Kept.drewN|apply Kept.drew|refine Kept.setCell ?_ (.inr J.o) _)|exact HK.o)⟩
    ·replace AH:=bF AH;subst AH;replace H:=iF H;have AI:=aK H;clear H;go_upto_region 6 with(fail)
     go_cut [37] (fun Bl wc=>∃(kq:Nat) (Ag:Bool),Bl = .bool Ag∧Aside0 (spec_l4Apply.j1 kq l0 Y Ag A6 X A1 A7=some (r1,r2))∧Aside0 (kq≤AR)∧Aside0 (Kd.R k133 133 wc w0.heap.size (fun k_=>(A8 k_∨w.heap.size≤k_)) (.slice Ah l0.length Ae) l0)∧Aside0 (wc.heap[A9]? = some (.cells #[.int .i64 A6,.string X,.string A1,.int .i64 A7] 135 (0,0)))∧Aside0 (Kept w wc (fun k_=>A8 k_))∧Aside0 (Below w0.heap.size w0 wc))
     case first=>
      have H:=AI.o;clear AI;by_cases An:A6=2
      ·rw[if_pos An]at H;have Ad:=bT An;have AJ:=bE An;clear An;(first|rw[Ad]|(simp only[i64_w,i32_w];rw[Ad])|skip);by_cases Ao:A7=0
       ·rw[if_pos Ao]at H;have AK:=bT Ao;have AL:=bE Ao;clear Ao;by_cases As:Y≥0
        ·rw[if_pos As]at H;have AM:=dt As;clear As;obtain⟨AC,B8,H⟩:=bd H;by_cases AN:AC=true
         ·subst AN;replace H:=iT H;have H':=aK H;clear H;obtain⟨_,_,_,_,_,_,_,_⟩:=cf4 D;go_wp2_with (first|(go_at_call 103;(with_reducible refine(spec_l4Name.calls AR A1 _ _ B8.o).mono ?_);rintro e w' ⟨rfl,⟨nd,rfl⟩⟩))
          go_meet
          case rel=>exact⟨_,((A1.toList != X.toList)),fa,H',⟨by have:=AG.o;first|omega|exact Nat.le_refl _⟩,⟨rpR U.o⟩,⟨bw D⟩,⟨by repeat (first|(with_reducible first|exact HK.o|apply Kept.alloc|apply Kept.drewN|apply Kept.drew|refine Kept.setCell ?_ (.inr J.o) _)|exact HK.o)⟩,⟨bl⟩⟩
         ·replace AN:=bF AN;subst AN;replace H:=iF H;have H':=aK H;clear H;obtain⟨_,_,_,_,_,_,_,_⟩:=cf4 D;go_wp2_with (first|(go_at_call 103;(with_reducible refine(spec_l4Name.calls AR A1 _ _ B8.o).mono ?_);rintro e w' ⟨rfl,⟨nd,rfl⟩⟩))
          go_meet
          case rel=>exact⟨_,(false),fa,H',⟨by have:=AG.o;first|omega|exact Nat.le_refl _⟩,⟨rpR U.o⟩,⟨bw D⟩,⟨by repeat (first|(with_reducible first|exact HK.o|apply Kept.alloc|apply Kept.drewN|apply Kept.drew|refine Kept.setCell ?_ (.inr J.o) _)|exact HK.o)⟩,⟨bl⟩⟩
        ·rw[if_neg As]at H;have AM:=df As;clear As;have H':=aK H;clear H;obtain⟨_,_,_,_,_,_,_,_⟩:=cf4 D;go_wp2
         go_meet
         case rel=>exact⟨_,(false),fa,H',⟨by have:=AG.o;first|omega|exact Nat.le_refl _⟩,⟨rpR U.o⟩,⟨bw D⟩,⟨by repeat (first|(with_reducible first|exact HK.o|apply Kept.alloc|apply Kept.drewN|apply Kept.drew|refine Kept.setCell ?_ (.inr J.o) _)|exact HK.o)⟩,⟨bl⟩⟩
       ·rw[if_neg Ao]at H;have AK:=bN Ao;have AL:=bQ Ao;have H':=aK H;clear H;obtain⟨_,_,_,_,_,_,_,_⟩:=cf4 D;go_wp2
        go_meet
        case rel=>exact⟨_,(false),fa,H',⟨by have:=AG.o;first|omega|exact Nat.le_refl _⟩,⟨rpR U.o⟩,⟨bw D⟩,⟨by repeat (first|(with_reducible first|exact HK.o|apply Kept.alloc|apply Kept.drewN|apply Kept.drew|refine Kept.setCell ?_ (.inr J.o) _)|exact HK.o)⟩,⟨bl⟩⟩
      ·rw[if_neg An]at H;have Ad:=bN An;have AJ:=bQ An;(first|rw[Ad]|(simp only[i64_w,i32_w];rw[Ad])|skip);have H':=aK H;clear H;obtain⟨_,_,_,_,_,_,_,_⟩:=cf4 D;go_wp2
       go_meet
       case rel=>exact⟨_,(false),fa,H',⟨by have:=AG.o;first|omega|exact Nat.le_refl _⟩,⟨rpR U.o⟩,⟨bw D⟩,⟨by repeat (first|(with_reducible first|exact HK.o|apply Kept.alloc|apply Kept.drewN|apply Kept.drew|refine Kept.setCell ?_ (.inr J.o) _)|exact HK.o)⟩,⟨bl⟩⟩
     case rest=>
      clear AI;(try clear c1);(try clear c2);(try clear p2);(try clear c5);(try clear c10);(try clear Ab);(try clear Ap);(try clear Al);(try clear Ai);(try clear Ar);(try clear AH);(try clear BB);(try clear An);(try clear Ad);(try clear AJ);(try clear Ao);(try clear AK);(try clear AL);(try clear As);(try clear AM);(try clear AN);(try clear p2);obtain⟨kq,Ag,rfl,HA,By,U,D,HK,HB⟩:=hcut;cases kq with
      |zero=>exact absurd HA.o (by simp[spec_l4Apply.j1])
      |succ AO=>
       have H:=HA.o;clear HA;simp only[spec_l4Apply.j1]at H;by_cases AS:Ag=true
       ·subst AS;replace H:=iT H;obtain⟨Am,Bm,H⟩:=bd H;by_cases AT:0≤Y
        ·rw[if_pos AT]at H;have Bn:=dt AT;clear AT;by_cases AU:Y<(l0.length:Int)
         ·rw[if_pos AU]at H;have Bo:=dt AU;clear AU;obtain⟨AD,Bp,H⟩:=bd H;simp only[Option.some.injEq,Prod.mk.injEq]at H;obtain⟨rfl,rfl⟩:=H;(try go_wp2);replace U:=dR U;replace D:=dB D;replace HK:=aK (Kept.drew HK.o);replace HB:=dW HB;have AX:0≤(Y:Int):=dT am;have AY:Y<(l0.length:Int):=dT am;obtain⟨Ay,Bq,Az,A_⟩:=at_T133 (Kd.R_reads' U.o).2.2 Y AX AY;cases Bq;replace AX:=eq_true AX;replace AY:=eq_true AY;refine start_ (n:=15) (S:=fun w'=>w'.cell? ⟨A9,0,none⟩=some (.int .i64 A6)∧w'.cell? ⟨A9,1,none⟩=some (.string X)∧w'.cell? ⟨A9,2,none⟩=some (.string A1)∧w'.cell? ⟨A9,3,none⟩=some (.int .i64 A7)∧w'.cell? (Ay.add ((Y).toNat*2))=some (.string ((rd_T133 l0 Y).f0))∧w'.cell? ⟨(Ay.add ((Y).toNat*2)).block,(Ay.add ((Y).toNat*2)).off+1,none⟩=some (.int .i64 ((rd_T133 l0 Y).f1))) (ds:=[]) (bo 15 0) (by kernel_rfl) rfl rfl ⟨cb 0 D,cb 1 D,cb 2 D,cb 3 D,Az,A_⟩ (fun hHeld=>?_);refine with_tabW spec_l4Apply.tab7 spec_l4Apply.bits7 (fun HT_ HW_=>?_);generalize wc.drew=Br at U D HK HB Az A_ hHeld ⊢;refine pV 0 62 (bo 15 1) ?_;refine pV 1 63 (bo 15 3) ?_;refine pV 4 66 (bo 15 19) ?_;refine pV 6 68 (bo 15 83) ?_;refine pV 7 69 (bo 15 211) ?_
          refine pV 8 70 (bo 15 467) ?_;refine pV 9 71 (bo 15 979) ?_;refine tV 2 64 (bo 15 983) ?_;refine tV 5 67 (bo 15 1015) ?_;refine tV 10 72 (bo 15 2039) ?_;refine pV 11 73 (bo 15 4087) ?_;refine o1 3 65 (bo 15 4095) (fun K hK=>?_);refine goes_ Tryz.func162 (by kernel_rfl) rfl #[.slice (some Ay) l0.length Ae,.string X] (by rfl) rfl rfl sa ?_;(with_reducible refine(spec_l4Without.calls AO _ _ l0 X Am _ ?_ ?_ Bm.o).mono ?_);exact ca (cR U.o);exact cl U;rintro e BC ⟨Bs,rfl,Aa,hb⟩;have AP:=(hb.cell (bL _ _ (hHeld.2.2.2.2.1))).trans (hHeld.2.2.2.2.1);have AQ:=(hb.cell (bL _ _ (hHeld.2.2.2.2.2))).trans (hHeld.2.2.2.2.2);refine⟨_,rfl,?_⟩;have Af:=rl HB (Kd.R_new' (Kd.R_newM (M:=fun k_=>(A8 k_∨w.heap.size≤k_)) Aa (by first|exact HK.out.1|exact(show Kept w _ (fun k_=>A8 k_)from by repeat (first|(with_reducible first|exact HK.o|apply Kept.alloc|apply Kept.drewN|apply Kept.drew|refine Kept.setCell ?_ (.inr J.o) _)|exact HK.o)).1) (fun k_ h_=>.inr h_)) (Kd.R_lt (rpR U.o)));replace U:=re U.o Aa hb;replace D:=bv D hb;replace HK:=aK (Kept.below (S:=(fun k_=>A8 k_)) (by repeat (first|(with_reducible first|exact HK.o|apply Kept.alloc|apply Kept.drewN|apply Kept.drew|refine Kept.setCell ?_ (.inr J.o) _)|exact HK.o)) hb);replace HB:=bs (w:=w0) hb;(try clear hb Bt hk hi Aa);obtain⟨B9,Ba,AV⟩:=rs Af
          (first|subst AV|(injection AV with Bb Bu Bc;have Bv:=Bb.symm;have Bw:=Bc.symm;clear Bb Bu Bc;subst Bv;subst Bw));refine hK.out _ _ ⟨cb 0 D,cb 1 D,cb 2 D,cb 3 D,AP,AQ⟩ (fun hHeld=>?_);clear hK K;refine nm 65 ?_;refine o1 12 74 (bo 15 8191) (fun K hK=>?_);refine goes_ Tryz.func161 (by kernel_rfl) rfl #[.slice B9 Am.length Ba,.agg #[.string A1,.int .i64 ((rd_T133 l0 Y).f1)]] (by rfl) rfl rfl sa ?_;(with_reducible refine(spec_l4With.calls AO _ _ Am A1 ((rd_T133 l0 Y).f1) AD _ ?_ ?_ Bp.o).mono ?_);exact ca (cR Af.o);exact cl Af;rintro e BD ⟨BE,rfl,Aa,hb⟩;have AP:=(hb.cell (bL _ _ (hHeld.2.2.2.2.1))).trans (hHeld.2.2.2.2.1);have AQ:=(hb.cell (bL _ _ (hHeld.2.2.2.2.2))).trans (hHeld.2.2.2.2.2);refine⟨_,rfl,?_⟩;have Bd:=rl HB (Kd.R_new' (Kd.R_new' (Kd.R_newM (M:=fun k_=>(A8 k_∨w.heap.size≤k_)) Aa (by first|exact HK.out.1|exact(show Kept w _ (fun k_=>A8 k_)from by repeat (first|(with_reducible first|exact HK.o|apply Kept.alloc|apply Kept.drewN|apply Kept.drew|refine Kept.setCell ?_ (.inr J.o) _)|exact HK.o)).1) (fun k_ h_=>.inr h_)) (Kd.R_lt (rpR U.o))) (Kd.R_lt (rpR Af.o)));replace U:=re U.o Aa hb;replace Af:=re Af.o Aa hb;replace D:=bv D hb
          replace HK:=aK (Kept.below (S:=(fun k_=>A8 k_)) (by repeat (first|(with_reducible first|exact HK.o|apply Kept.alloc|apply Kept.drewN|apply Kept.drew|refine Kept.setCell ?_ (.inr J.o) _)|exact HK.o)) hb);replace HB:=bs (w:=w0) hb;(try clear hb Bt hk hi Aa);refine hK.out _ _ ⟨cb 0 D,cb 1 D,cb 2 D,cb 3 D,AP,AQ⟩ (fun hHeld=>?_);clear hK K;refine nm 74 ?_;refine pV 13 4 (bo 15 16383) ?_;refine pV 14 5 (bo 15 32767) ?_;refine done_ (done_of HT_.o (by kernel_rfl)) ?_;(try go_wp2)
          go_ret2
          exact⟨_,fe,rpR (rM Bd.o (fun _ hk=>hk.1.1.1)),bl,by repeat (first|(with_reducible first|exact HK.o|apply Kept.alloc|apply Kept.drewN|apply Kept.drew|refine Kept.setCell ?_ (.inr J.o) _)|exact HK.o)⟩
         ·rw[if_neg AU]at H;exact absurd H (by simp)
        ·rw[if_neg AT]at H;exact absurd H (by simp)
       ·replace AS:=bF AS;subst AS;replace H:=iF H;by_cases At:A6=3
        ·rw[if_pos At]at H;have AZ:=bT At;have B0:=bE At;clear At;by_cases Au:A7=0
         ·rw[if_pos Au]at H;have B1:=bT Au;have B2:=bE Au;clear Au;by_cases Av:A1.toList=([]:List UInt8)
          ·rw[if_pos Av]at H;have Aw:=bT Av;have Ax:=Aw;simp only[show ∀l_:List UInt8,(l_ == [])=l_.isEmpty from fun l_=>by cases l_<;>rfl]at Ax;have B3:=bE Av;clear Av;by_cases AA:Y≥0
           ·rw[if_pos AA]at H;have B4:=dt AA;clear AA;obtain⟨AE,Bx,H⟩:=bd H;simp only[Option.some.injEq,Prod.mk.injEq]at H;obtain⟨rfl,rfl⟩:=H;obtain⟨_,_,_,_,_,_,_,_⟩:=cf4 D;go_wp2_with (first|((with_reducible refine gC 162 rfl ?_);refine goesZ (some 96) rfl Tryz.func162 #[.slice Ah l0.length Ae,.string X] ?_;(with_reducible refine(spec_l4Without.calls AO _ _ l0 X AE _ ?_ ?_ Bx.o).mono ?_);exact ca (cR U.o);exact cl U;rintro e Br ⟨Bs,rfl,Aa,hb⟩;refine⟨_,rfl,?_⟩;have Af:=rl HB (Kd.R_new' (Kd.R_newM (M:=fun k_=>(A8 k_∨w.heap.size≤k_)) Aa (by first|exact HK.out.1|exact(show Kept w _ (fun k_=>A8 k_)from by repeat (first|(with_reducible first|exact HK.o|apply Kept.alloc|apply Kept.drewN|apply Kept.drew|refine Kept.setCell ?_ (.inr J.o) _)|exact HK.o)).1) (fun k_ h_=>.inr h_)) (Kd.R_lt (rpR U.o)));replace U:=re U.o Aa hb;replace D:=bv D hb;replace HK:=aK (Kept.below (S:=(fun k_=>A8 k_)) (by repeat (first|(with_reducible first|exact HK.o|apply Kept.alloc|apply Kept.drewN|apply Kept.drew|refine Kept.setCell ?_ (.inr J.o) _)|exact HK.o)) hb);replace HB:=bs (w:=w0) hb;(try clear hb Aa)))
            go_ret2
            exact⟨_,fe,rpR (rM Af.o (fun _ hk=>hk.1.1)),bl,by repeat (first|(with_reducible first|exact HK.o|apply Kept.alloc|apply Kept.drewN|apply Kept.drew|refine Kept.setCell ?_ (.inr J.o) _)|exact HK.o)⟩
           ·rw[if_neg AA]at H;have B4:=df AA;clear AA;simp only[Option.some.injEq,Prod.mk.injEq]at H;obtain⟨rfl,rfl⟩:=H;obtain⟨_,_,_,_,_,_,_,_⟩:=cf4 D;go_wp2
            go_ret2
            exact⟨_,fe,rpR U.o,bl,by repeat (first|(with_reducible first|exact HK.o|apply Kept.alloc|apply Kept.drewN|apply Kept.drew|refine Kept.setCell ?_ (.inr J.o) _)|exact HK.o)⟩
          ·rw[if_neg Av]at H;have Aw:=bN Av;have Ax:=Aw;simp only[show ∀l_:List UInt8,(l_ == [])=l_.isEmpty from fun l_=>by cases l_<;>rfl]at Ax;have B3:=bQ Av;simp only[Option.some.injEq,Prod.mk.injEq]at H;obtain⟨rfl,rfl⟩:=H;obtain⟨_,_,_,_,_,_,_,_⟩:=cf4 D;go_wp2
           go_ret2
           exact⟨_,fe,rpR U.o,bl,by repeat (first|(with_reducible first|exact HK.o|apply Kept.alloc|apply Kept.drewN|apply Kept.drew|refine Kept.setCell ?_ (.inr J.o) _)|exact HK.o)⟩
         ·rw[if_neg Au]at H;have B1:=bN Au;have B2:=bQ Au;simp only[Option.some.injEq,Prod.mk.injEq]at H;obtain⟨rfl,rfl⟩:=H;obtain⟨_,_,_,_,_,_,_,_⟩:=cf4 D;go_wp2
          go_ret2
          exact⟨_,fe,rpR U.o,bl,by repeat (first|(with_reducible first|exact HK.o|apply Kept.alloc|apply Kept.drewN|apply Kept.drew|refine Kept.setCell ?_ (.inr J.o) _)|exact HK.o)⟩
        ·rw[if_neg At]at H;have AZ:=bN At;have B0:=bQ At;simp only[Option.some.injEq,Prod.mk.injEq]at H;obtain⟨rfl,rfl⟩:=H;obtain⟨_,_,_,_,_,_,_,_⟩:=cf4 D;go_wp2
         go_ret2
         exact⟨_,fe,rpR U.o,bl,by repeat (first|(with_reducible first|exact HK.o|apply Kept.alloc|apply Kept.drewN|apply Kept.drew|refine Kept.setCell ?_ (.inr J.o) _)|exact HK.o)⟩
 ·replace c5:=bF c5;subst c5;replace H:=iF H;simp only[Option.some.injEq,Prod.mk.injEq]at H;obtain⟨rfl,rfl⟩:=H
  go_enter Tryz.func105,Tryz.ntmps105
  go_wp2_with (first|((with_reducible refine gD 3 rfl ?_);refine boxZ 3 #[.int .i64 A6,.string X,.string A1,.int .i64 A7] 135 ?_;intro A9 hg Bi hbox hb;replace Ac:=rb Ac hb;have D:=aK hbox;have J:=aK ((by rw[hg];exact(by first|exact HK.out.1|exact(show Kept w _ (fun k_=>A8 k_)from by repeat (first|(with_reducible first|exact HK.o|apply Kept.alloc|apply Kept.drewN|apply Kept.drew)|exact HK.o)).1):w.heap.size≤A9));replace HK:=aK (Kept.below (S:=(fun k_=>A8 k_)) (by repeat (first|(with_reducible first|exact HK.o|apply Kept.alloc|apply Kept.drewN|apply Kept.drew)|exact HK.o)) hb);have J:=gw (w:=w0) hg;replace HB:=bs (w:=w0) hb;clear hb hbox hg;obtain⟨_,_,_,_,_,_,_,_⟩:=cf4 D;obtain⟨Ah,Ae,rfl⟩:=rs Ac)|((with_reducible refine gC 160 rfl ?_);refine goesZ (some 10) rfl Tryz.func160 #[.slice Ah l0.length Ae,.string X] ?_;(with_reducible refine(spec_l4At.calls k _ _ l0 X Y _ ?_ ?_ A3.o).mono ?_);exact ca (cR Ac.o);exact cl Ac;rintro e w' ⟨rfl,⟨nd,rfl⟩⟩;refine⟨_,rfl,?_⟩)|((with_reducible refine gC 103 rfl ?_);refine goesZ (some 14) rfl Tryz.func103 #[.string X] ?_;(with_reducible refine(spec_l4Name.calls k X _ _ A4.o).mono ?_);rintro e w' ⟨rfl,⟨nd,rfl⟩⟩;refine⟨_,rfl,?_⟩))
  go_ret2
  exact⟨_,fe,rpR Ac.o,bl,by repeat (first|(with_reducible first|exact HK.o|apply Kept.alloc|apply Kept.drewN|apply Kept.drew|refine Kept.setCell ?_ (.inr J.o) _)|exact HK.o)⟩
end Go.Proofs.YtndbmllnkjngnaaGreat.PDs
