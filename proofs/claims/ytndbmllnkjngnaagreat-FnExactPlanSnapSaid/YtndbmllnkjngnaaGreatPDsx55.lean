/- Functions of the program, each with its contract, written by a program out of the translation. -/
import Derived.Test.YtndbmllnkjngnaaGreatPDsx40t
import Derived.Test.YtndbmllnkjngnaaGreatPDsx1
import Derived.Test.YtndbmllnkjngnaaGreatZup
namespace Go.Proofs.YtndbmllnkjngnaaGreat.PDs
open Go.RowKit Go.Proofs.YtndbmllnkjngnaaGreatW.PrintWords Go.Proofs.YtndbmllnkjngnaaGreatW.PrintLast Go.Proofs.YtndbmllnkjngnaaGreatW.PrintMore Go.Proofs.YtndbmllnkjngnaaGreat.Zip
attribute [local go_sem] max2_int min2_int max_two min_two max_three min_three max_four min_four
set_option linter.unusedVariables false
set_option linter.unusedSimpArgs false
set_option maxHeartbeats 8000000
set_option maxRecDepth 100000
def laws_heldStepS.l0:Nat→List (S39)→Int→Int→Option (Int)
 | 0,_,_,_=>none
 |k+1,x0,x1,x5=>if x5<(x0.length:Int)then(if 0≤x5 then(if((rd_T39 x0 x5).f0)=x1 then((laws_markText.f k (wrap64 (x1+1))).bind fun AF=>(if((rd_T39 x0 x5).f1).toList=AF.toList then((laws_markText.f k (wrap64 ((wrap64 (x1+1))+1))).bind fun Ap=>(if((rd_T39 x0 x5).f2).toList=Ap.toList then((laws_markText.f k (wrap64 ((wrap64 ((wrap64 (x1+1))+1))+1))).bind fun Ar=>(if((rd_T39 x0 x5).f3).toList=Ar.toList then(laws_heldStepS.l0 k x0 (wrap64 ((wrap64 ((wrap64 ((wrap64 (x1+1))+1))+1))+1)) (wrap64 (x5+1)))else(some (-1))))else(some (-1))))else(some (-1))))else(some (-1)))else(none))else(some x1)
def laws_heldStepS.f (k:Nat) (l0:List (S39)) (a1:Int):Option (Int):=laws_heldStepS.l0 k l0 a1 0
def laws_heldStepS.T7:Bool×List (List Nat×List Nat):=(true,[([],[]),([],[]),([0,1],[0,1]),([2],[2]),([3],[3]),([],[]),([5],[5]),([4,6],[4,6])])
def laws_heldStepS.B7:List Nat:=[0,0,3,7,15,0,32,127]
theorem laws_heldStepS.tab7:rtab .any (opsOf Tryz.f25 7)=laws_heldStepS.T7:=by kernel_rfl
theorem laws_heldStepS.bits7:waitsOk laws_heldStepS.T7.2 laws_heldStepS.B7=true:=by kernel_rfl
def laws_heldStepS.T10:Bool×List (List Nat×List Nat):=(true,[([],[]),([],[]),([0,1],[0,1]),([2],[2]),([3],[3]),([],[]),([5],[5]),([4,6],[4,6])])
def laws_heldStepS.B10:List Nat:=[0,0,3,7,15,0,32,127]
theorem laws_heldStepS.tab10:rtab .any (opsOf Tryz.f25 10)=laws_heldStepS.T10:=by kernel_rfl
theorem laws_heldStepS.bits10:waitsOk laws_heldStepS.T10.2 laws_heldStepS.B10=true:=by kernel_rfl
def laws_heldStepS.T13:Bool×List (List Nat×List Nat):=(true,[([],[]),([],[]),([0,1],[0,1]),([2],[2]),([3],[3]),([],[]),([5],[5]),([4,6],[4,6])])
def laws_heldStepS.B13:List Nat:=[0,0,3,7,15,0,32,127]
theorem laws_heldStepS.tab13:rtab .any (opsOf Tryz.f25 13)=laws_heldStepS.T13:=by kernel_rfl
theorem laws_heldStepS.bits13:waitsOk laws_heldStepS.T13.2 laws_heldStepS.B13=true:=by kernel_rfl
theorem laws_heldStepS.calls (k:Nat) (A0:Option Addr) (c0:Nat) (l0:List (S39)) (a1:Int) (r:Int) (w:World) (AZ:Kd.C k39 w A0 l0.length l0) (B0:l0.length≤c0) (h:laws_heldStepS.f k l0 a1=some r) :
 Calls Tryz.prog 25 #[.slice A0 l0.length c0,.int .i64 a1] w fun e w'=>e = .returned (.int .i64 r)∧Below w.heap.size w w':=by
 have AA:=aK AZ;have Be:=aK B0;clear AZ B0;have HB:=aK (Below.refl w.heap.size w);have H:=h;unfold laws_heldStepS.f at H;clear h;have H':=aK H;clear H
 go_enter Tryz.func25,Tryz.ntmps25
 go_wp2
 go_loopg [1,5] k (fun kq v1 v5 w'=>∃(Ab:Int) (D:Int),v1 = .int .i64 Ab∧v5 = .int .i64 D∧Aside0 (laws_heldStepS.l0 kq l0 Ab D=some r)∧Aside0 (kq≤k)∧Aside0 (Below w.heap.size w w'))
 case atStart=>exact⟨(a1),(0),fa,fa,H',⟨Nat.le_refl _⟩,⟨bl⟩⟩
 case round=>
  clear H';(try clear c2);(try clear p2);obtain⟨Ab,D,rfl,rfl,HA,B1,HB⟩:=hrel;cases gk with
  |zero=>exact absurd HA.o (by simp[laws_heldStepS.l0])
  |succ k1=>
   have H:=HA.o;clear HA;simp only[laws_heldStepS.l0]at H;by_cases c3:D<(l0.length:Int)
   ·rw[if_pos c3]at H;have AG:=dt c3;clear c3;by_cases c4:0≤D
    ·rw[if_pos c4]at H;have Bc:=dt c4;clear c4;have Hq_:=aK H;clear H;have AH:0≤(D:Int):=dT am;have AI:D<(l0.length:Int):=dT am;obtain⟨J,B2,As,At,Au,Av⟩:=at_T39 AA.o D AH AI;cases B2;replace As:=cz HB As;replace At:=cz HB At;replace Au:=cz HB Au;replace Av:=cz HB Av;replace AH:=eq_true AH;replace AI:=eq_true AI;have H:=Hq_.o;clear Hq_;by_cases c5:((rd_T39 l0 D).f0)=Ab
     ·rw[if_pos c5]at H;have AJ:=bT c5;(try rw[AJ]);have AK:=bE c5;(try rw[AK]);clear c5;obtain⟨AF,A6,H⟩:=bd H;have Hq_:=aK H;clear H;(try go_wp2);replace HB:=dW HB;have AL:0≤(D:Int):=dT am;have AM:D<(l0.length:Int):=dT am;obtain⟨AW,B3,Ai,Aj,Ak,Al⟩:=at_T39 AA.o D AL AM;have Aw:=Al;have Ax:=Ak;have Ay:=Aj;have Az:=Ai;obtain rfl:J=AW:=(by injection B3);replace Ai:=cz HB Ai;replace Aj:=cz HB Aj;replace Ak:=cz HB Ak;replace Al:=cz HB Al;replace AL:=eq_true AL;replace AM:=eq_true AM;refine start_ (n:=8) (S:=fun w'=>w'.cell? (J.add ((D).toNat*4))=some (.int .i64 ((rd_T39 l0 D).f0))∧w'.cell? ⟨(J.add ((D).toNat*4)).block,(J.add ((D).toNat*4)).off+1,none⟩=some (.string ((rd_T39 l0 D).f1))∧w'.cell? ⟨(J.add ((D).toNat*4)).block,(J.add ((D).toNat*4)).off+2,none⟩=some (.string ((rd_T39 l0 D).f2))∧w'.cell? ⟨(J.add ((D).toNat*4)).block,(J.add ((D).toNat*4)).off+3,none⟩=some (.string ((rd_T39 l0 D).f3))) (ds:=[]) (bo 8 0) (by kernel_rfl) rfl rfl ⟨(cy HB Az),(cy HB Ay),(cy HB Ax),(cy HB Aw)⟩ (fun hHeld=>?_)
      refine with_tabW laws_heldStepS.tab7 laws_heldStepS.bits7 (fun HT_ HW_=>?_);generalize wr.drew=B6 at HB Ai Aj Ak Al hHeld ⊢;refine pV 0 21 (bo 8 1) ?_;refine pV 1 22 (bo 8 3) ?_;refine pV 2 23 (bo 8 7) ?_;refine pV 3 24 (bo 8 15) ?_;refine pV 5 26 (bo 8 47) ?_;refine tV 4 25 (bo 8 63) ?_;refine o1 6 27 (bo 8 127) (fun K hK=>?_);refine goesV Tryz.func81 ?_;(with_reducible refine(laws_markText.calls k1 (wrap64 (Ab+1)) AF _ A6.o).mono ?_);rintro e AX ⟨rfl,hb⟩;refine⟨_,rfl,?_⟩;replace HB:=bS HB hb;(try clear hb AN hk hi);refine hK.out _ _ ⟨(cy HB Az),(cy HB Ay),(cy HB Ax),(cy HB Aw)⟩ (fun hHeld=>?_);clear hK K;refine nm 27 ?_;refine pV 7 28 (bo 8 255) ?_;have H:=Hq_.o;clear Hq_;by_cases c7:((rd_T39 l0 D).f1).toList=AF.toList
      ·rw[if_pos c7]at H;have AO:=bT c7;(try rw[AO]);have AP:=bE c7;(try rw[AP]);clear c7;obtain⟨Ap,A8,H⟩:=bd H;by_cases c9:((rd_T39 l0 D).f2).toList=Ap.toList
       ·rw[if_pos c9]at H;have AQ:=bT c9;(try rw[AQ]);have AR:=bE c9;(try rw[AR]);clear c9;obtain⟨Ar,B4,H⟩:=bd H;by_cases AB:((rd_T39 l0 D).f3).toList=Ar.toList
        ·rw[if_pos AB]at H;have AC:=bT AB;(try rw[AC]);have AD:=bE AB;(try rw[AD]);clear AB;have H':=aK H;clear H;refine done_ (done_of HT_.o (by kernel_rfl)) ?_;(try go_wp2);replace HB:=dW HB;have Ac:0≤(D:Int):=dT am;have Ad:D<(l0.length:Int):=dT am;obtain⟨Am,A_,U,X,Y,Z⟩:=at_T39 AA.o D Ac Ad;have A5:=Z;have A7:=Y;have A9:=X;have Aa:=U;obtain rfl:J=Am:=(by injection A_);replace U:=cz HB U;replace X:=cz HB X;replace Y:=cz HB Y;replace Z:=cz HB Z;replace Ac:=eq_true Ac;replace Ad:=eq_true Ad
         refine start_ (n:=8) (S:=fun w'=>w'.cell? (J.add ((D).toNat*4))=some (.int .i64 ((rd_T39 l0 D).f0))∧w'.cell? ⟨(J.add ((D).toNat*4)).block,(J.add ((D).toNat*4)).off+1,none⟩=some (.string ((rd_T39 l0 D).f1))∧w'.cell? ⟨(J.add ((D).toNat*4)).block,(J.add ((D).toNat*4)).off+2,none⟩=some (.string ((rd_T39 l0 D).f2))∧w'.cell? ⟨(J.add ((D).toNat*4)).block,(J.add ((D).toNat*4)).off+3,none⟩=some (.string ((rd_T39 l0 D).f3))) (ds:=[]) (bo 8 0) (by kernel_rfl) rfl rfl ⟨(cy HB Aa),(cy HB A9),(cy HB A7),(cy HB A5)⟩ (fun hHeld=>?_);refine with_tabW laws_heldStepS.tab10 laws_heldStepS.bits10 (fun HT_ HW_=>?_);generalize AX.drew=B5 at HB U X Y Z hHeld ⊢;refine pV 0 31 (bo 8 1) ?_;refine pV 1 32 (bo 8 3) ?_;refine pV 2 33 (bo 8 7) ?_;refine pV 3 34 (bo 8 15) ?_;refine pV 5 36 (bo 8 47) ?_;refine tV 4 35 (bo 8 63) ?_;refine o1 6 37 (bo 8 127) (fun K hK=>?_);refine goesV Tryz.func81 ?_;(with_reducible refine(laws_markText.calls k1 (wrap64 ((wrap64 (Ab+1))+1)) Ap _ A8.o).mono ?_);rintro e AV ⟨rfl,hb⟩;refine⟨_,rfl,?_⟩;replace HB:=bS HB hb;(try clear hb AN hk hi);refine hK.out _ _ ⟨(cy HB Aa),(cy HB A9),(cy HB A7),(cy HB A5)⟩ (fun hHeld=>?_);clear hK K;refine nm 37 ?_
         refine pV 7 38 (bo 8 255) ?_;refine done_ (done_of HT_.o (by kernel_rfl)) ?_;(try go_wp2);replace HB:=dW HB;have An:0≤(D:Int):=dT am;have Ao:D<(l0.length:Int):=dT am;obtain⟨AE,AS,A1,A2,A3,A4⟩:=at_T39 AA.o D An Ao;have Ae:=A4;have Af:=A3;have Ag:=A2;have Ah:=A1;obtain rfl:J=AE:=(by injection AS);replace A1:=cz HB A1;replace A2:=cz HB A2;replace A3:=cz HB A3;replace A4:=cz HB A4;replace An:=eq_true An;replace Ao:=eq_true Ao;refine start_ (n:=8) (S:=fun w'=>w'.cell? (J.add ((D).toNat*4))=some (.int .i64 ((rd_T39 l0 D).f0))∧w'.cell? ⟨(J.add ((D).toNat*4)).block,(J.add ((D).toNat*4)).off+1,none⟩=some (.string ((rd_T39 l0 D).f1))∧w'.cell? ⟨(J.add ((D).toNat*4)).block,(J.add ((D).toNat*4)).off+2,none⟩=some (.string ((rd_T39 l0 D).f2))∧w'.cell? ⟨(J.add ((D).toNat*4)).block,(J.add ((D).toNat*4)).off+3,none⟩=some (.string ((rd_T39 l0 D).f3))) (ds:=[]) (bo 8 0) (by kernel_rfl) rfl rfl ⟨(cy HB Ah),(cy HB Ag),(cy HB Af),(cy HB Ae)⟩ (fun hHeld=>?_);refine with_tabW laws_heldStepS.tab13 laws_heldStepS.bits13 (fun HT_ HW_=>?_);generalize AV.drew=B8 at HB A1 A2 A3 A4 hHeld ⊢;refine pV 0 41 (bo 8 1) ?_
         refine pV 1 42 (bo 8 3) ?_;refine pV 2 43 (bo 8 7) ?_;refine pV 3 44 (bo 8 15) ?_;refine pV 5 46 (bo 8 47) ?_;refine tV 4 45 (bo 8 63) ?_;refine o1 6 47 (bo 8 127) (fun K hK=>?_);refine goesV Tryz.func81 ?_;(with_reducible refine(laws_markText.calls k1 (wrap64 ((wrap64 ((wrap64 (Ab+1))+1))+1)) Ar _ B4.o).mono ?_);rintro e B9 ⟨rfl,hb⟩;refine⟨_,rfl,?_⟩;replace HB:=bS HB hb;(try clear hb AN hk hi);refine hK.out _ _ ⟨(cy HB Ah),(cy HB Ag),(cy HB Af),(cy HB Ae)⟩ (fun hHeld=>?_);clear hK K;refine nm 47 ?_;refine pV 7 48 (bo 8 255) ?_;refine done_ (done_of HT_.o (by kernel_rfl)) ?_;(try go_wp2)
         go_roundg k1
         case measure=>have:=B1.o;omega
         case rel=>exact⟨(wrap64 ((wrap64 ((wrap64 ((wrap64 (Ab+1))+1))+1))+1)),(wrap64 (D+1)),fa,fa,H',⟨by have:=B1.o;omega⟩,⟨bl⟩⟩
        ·rw[if_neg AB]at H;have AC:=bN AB;(try rw[AC]);have AD:=bQ AB;(try rw[AD]);obtain rfl:=oj H;refine done_ (done_of HT_.o (by kernel_rfl)) ?_;(try go_wp2);replace HB:=dW HB;have Ac:0≤(D:Int):=dT am;have Ad:D<(l0.length:Int):=dT am;obtain⟨Am,A_,U,X,Y,Z⟩:=at_T39 AA.o D Ac Ad;have A5:=Z;have A7:=Y;have A9:=X;have Aa:=U;obtain rfl:J=Am:=(by injection A_);replace U:=cz HB U;replace X:=cz HB X;replace Y:=cz HB Y;replace Z:=cz HB Z;replace Ac:=eq_true Ac;replace Ad:=eq_true Ad
         refine start_ (n:=8) (S:=fun w'=>w'.cell? (J.add ((D).toNat*4))=some (.int .i64 ((rd_T39 l0 D).f0))∧w'.cell? ⟨(J.add ((D).toNat*4)).block,(J.add ((D).toNat*4)).off+1,none⟩=some (.string ((rd_T39 l0 D).f1))∧w'.cell? ⟨(J.add ((D).toNat*4)).block,(J.add ((D).toNat*4)).off+2,none⟩=some (.string ((rd_T39 l0 D).f2))∧w'.cell? ⟨(J.add ((D).toNat*4)).block,(J.add ((D).toNat*4)).off+3,none⟩=some (.string ((rd_T39 l0 D).f3))) (ds:=[]) (bo 8 0) (by kernel_rfl) rfl rfl ⟨(cy HB Aa),(cy HB A9),(cy HB A7),(cy HB A5)⟩ (fun hHeld=>?_);refine with_tabW laws_heldStepS.tab10 laws_heldStepS.bits10 (fun HT_ HW_=>?_);generalize AX.drew=B5 at HB U X Y Z hHeld ⊢;refine pV 0 31 (bo 8 1) ?_;refine pV 1 32 (bo 8 3) ?_;refine pV 2 33 (bo 8 7) ?_;refine pV 3 34 (bo 8 15) ?_;refine pV 5 36 (bo 8 47) ?_;refine tV 4 35 (bo 8 63) ?_;refine o1 6 37 (bo 8 127) (fun K hK=>?_);refine goesV Tryz.func81 ?_;(with_reducible refine(laws_markText.calls k1 (wrap64 ((wrap64 (Ab+1))+1)) Ap _ A8.o).mono ?_);rintro e AV ⟨rfl,hb⟩;refine⟨_,rfl,?_⟩;replace HB:=bS HB hb;(try clear hb AN hk hi);refine hK.out _ _ ⟨(cy HB Aa),(cy HB A9),(cy HB A7),(cy HB A5)⟩ (fun hHeld=>?_);clear hK K;refine nm 37 ?_
         refine pV 7 38 (bo 8 255) ?_;refine done_ (done_of HT_.o (by kernel_rfl)) ?_;(try go_wp2);replace HB:=dW HB;have An:0≤(D:Int):=dT am;have Ao:D<(l0.length:Int):=dT am;obtain⟨AE,AS,A1,A2,A3,A4⟩:=at_T39 AA.o D An Ao;have Ae:=A4;have Af:=A3;have Ag:=A2;have Ah:=A1;obtain rfl:J=AE:=(by injection AS);replace A1:=cz HB A1;replace A2:=cz HB A2;replace A3:=cz HB A3;replace A4:=cz HB A4;replace An:=eq_true An;replace Ao:=eq_true Ao;refine start_ (n:=8) (S:=fun w'=>w'.cell? (J.add ((D).toNat*4))=some (.int .i64 ((rd_T39 l0 D).f0))∧w'.cell? ⟨(J.add ((D).toNat*4)).block,(J.add ((D).toNat*4)).off+1,none⟩=some (.string ((rd_T39 l0 D).f1))∧w'.cell? ⟨(J.add ((D).toNat*4)).block,(J.add ((D).toNat*4)).off+2,none⟩=some (.string ((rd_T39 l0 D).f2))∧w'.cell? ⟨(J.add ((D).toNat*4)).block,(J.add ((D).toNat*4)).off+3,none⟩=some (.string ((rd_T39 l0 D).f3))) (ds:=[]) (bo 8 0) (by kernel_rfl) rfl rfl ⟨(cy HB Ah),(cy HB Ag),(cy HB Af),(cy HB Ae)⟩ (fun hHeld=>?_);refine with_tabW laws_heldStepS.tab13 laws_heldStepS.bits13 (fun HT_ HW_=>?_);generalize AV.drew=B8 at HB A1 A2 A3 A4 hHeld ⊢;refine pV 0 41 (bo 8 1) ?_
         refine pV 1 42 (bo 8 3) ?_;refine pV 2 43 (bo 8 7) ?_;refine pV 3 44 (bo 8 15) ?_;refine pV 5 46 (bo 8 47) ?_;refine tV 4 45 (bo 8 63) ?_;refine o1 6 47 (bo 8 127) (fun K hK=>?_);refine goesV Tryz.func81 ?_;(with_reducible refine(laws_markText.calls k1 (wrap64 ((wrap64 ((wrap64 (Ab+1))+1))+1)) Ar _ B4.o).mono ?_);rintro e B9 ⟨rfl,hb⟩;refine⟨_,rfl,?_⟩;replace HB:=bS HB hb;(try clear hb AN hk hi);refine hK.out _ _ ⟨(cy HB Ah),(cy HB Ag),(cy HB Af),(cy HB Ae)⟩ (fun hHeld=>?_);clear hK K;refine nm 47 ?_;refine pV 7 48 (bo 8 255) ?_;refine done_ (done_of HT_.o (by kernel_rfl)) ?_;(try go_wp2)
         go_ret
         exact⟨fe,bl⟩
       ·rw[if_neg c9]at H;have AQ:=bN c9;(try rw[AQ]);have AR:=bQ c9;(try rw[AR]);obtain rfl:=oj H;refine done_ (done_of HT_.o (by kernel_rfl)) ?_;(try go_wp2);replace HB:=dW HB;have Ac:0≤(D:Int):=dT am;have Ad:D<(l0.length:Int):=dT am;obtain⟨Am,A_,U,X,Y,Z⟩:=at_T39 AA.o D Ac Ad;have A5:=Z;have A7:=Y;have A9:=X;have Aa:=U;obtain rfl:J=Am:=(by injection A_);replace U:=cz HB U;replace X:=cz HB X;replace Y:=cz HB Y;replace Z:=cz HB Z;replace Ac:=eq_true Ac;replace Ad:=eq_true Ad
        refine start_ (n:=8) (S:=fun w'=>w'.cell? (J.add ((D).toNat*4))=some (.int .i64 ((rd_T39 l0 D).f0))∧w'.cell? ⟨(J.add ((D).toNat*4)).block,(J.add ((D).toNat*4)).off+1,none⟩=some (.string ((rd_T39 l0 D).f1))∧w'.cell? ⟨(J.add ((D).toNat*4)).block,(J.add ((D).toNat*4)).off+2,none⟩=some (.string ((rd_T39 l0 D).f2))∧w'.cell? ⟨(J.add ((D).toNat*4)).block,(J.add ((D).toNat*4)).off+3,none⟩=some (.string ((rd_T39 l0 D).f3))) (ds:=[]) (bo 8 0) (by kernel_rfl) rfl rfl ⟨(cy HB Aa),(cy HB A9),(cy HB A7),(cy HB A5)⟩ (fun hHeld=>?_);refine with_tabW laws_heldStepS.tab10 laws_heldStepS.bits10 (fun HT_ HW_=>?_);generalize AX.drew=B5 at HB U X Y Z hHeld ⊢;refine pV 0 31 (bo 8 1) ?_;refine pV 1 32 (bo 8 3) ?_;refine pV 2 33 (bo 8 7) ?_;refine pV 3 34 (bo 8 15) ?_;refine pV 5 36 (bo 8 47) ?_;refine tV 4 35 (bo 8 63) ?_;refine o1 6 37 (bo 8 127) (fun K hK=>?_);refine goesV Tryz.func81 ?_;(with_reducible refine(laws_markText.calls k1 (wrap64 ((wrap64 (Ab+1))+1)) Ap _ A8.o).mono ?_);rintro e AV ⟨rfl,hb⟩;refine⟨_,rfl,?_⟩;replace HB:=bS HB hb;(try clear hb AN hk hi);refine hK.out _ _ ⟨(cy HB Aa),(cy HB A9),(cy HB A7),(cy HB A5)⟩ (fun hHeld=>?_);clear hK K;refine nm 37 ?_
        refine pV 7 38 (bo 8 255) ?_;refine done_ (done_of HT_.o (by kernel_rfl)) ?_;(try go_wp2)
        go_ret
        exact⟨fe,bl⟩
      ·rw[if_neg c7]at H;have AO:=bN c7;(try rw[AO]);have AP:=bQ c7;(try rw[AP]);obtain rfl:=oj H;refine done_ (done_of HT_.o (by kernel_rfl)) ?_;(try go_wp2)
       go_ret
       exact⟨fe,bl⟩
     ·rw[if_neg c5]at H;have AJ:=bN c5;(try rw[AJ]);have AK:=bQ c5;(try rw[AK]);obtain rfl:=oj H;go_wp2
      go_ret
      exact⟨fe,bl⟩
    ·rw[if_neg c4]at H;exact absurd H (by simp)
   ·rw[if_neg c3]at H;have AG:=df c3;clear c3;obtain rfl:=oj H;go_wp2
    go_ret
    exact⟨fe,bl⟩
def laws_szSnap.f (AT:Int) (AU:Int) (Aq:ByteArray) (a1:Int):Option (Int):=if(wrap64 (a1-(Aq.size:Int)))<0 then(some (-1))else(some (wrap64 (a1-(Aq.size:Int))))
theorem laws_szSnap.z1 {p:Prop} (h:p:=by
 go_enter Tryz.func30,Tryz.ntmps30
 go_wp2_with (first|((with_reducible refine gD 2 rfl ?_);refine boxW ?_;intro Ba hg B6 hbox hb;have AY:=aK hbox;have Bb:=gW HB hg;replace HB:=bS HB hb;clear hb hbox hg;have:=cf3 AY))
 go_ret
 exact⟨fe,bl⟩):p:=h
theorem laws_szSnap.calls (AT:Int) (AU:Int) (Aq:ByteArray) (a1:Int) (r:Int) (w:World) (h:laws_szSnap.f AT AU Aq a1=some r) :
 Calls Tryz.prog 30 #[.agg #[.int .i64 AT,.int .i64 AU,.string Aq],.int .i64 a1] w fun e w'=>e = .returned (.int .i64 r)∧Below w.heap.size w w':=by
 have Bd:=Tryz.underlying66;have HB:=aK (Below.refl w.heap.size w);have H:=h;unfold laws_szSnap.f at H;clear h;by_cases c3:(wrap64 (a1-(Aq.size:Int)))<0
 ·rw[if_pos c3]at H;have AG:=dt c3;clear c3;obtain rfl:=oj H
  exact laws_szSnap.z1
 ·rw[if_neg c3]at H;have AG:=df c3;clear c3;obtain rfl:=oj H
  exact laws_szSnap.z1
end Go.Proofs.YtndbmllnkjngnaaGreat.PDs
