/- Functions of the program, each with its contract, written by a program out of the translation. -/
import Derived.Test.YtndbmllnkjngnaaGreatPDsx0
import Derived.Test.YtndbmllnkjngnaaGreatPDsx1
import Derived.Test.YtndbmllnkjngnaaGreatZup
import Derived.Test.YtndbmllnkjngnaaGreatPDsx40t
namespace Go.Proofs.YtndbmllnkjngnaaGreat.PDs
open Go.RowKit Go.Proofs.YtndbmllnkjngnaaGreatW.PrintWords Go.Proofs.YtndbmllnkjngnaaGreatW.PrintLast Go.Proofs.YtndbmllnkjngnaaGreatW.PrintMore Go.Proofs.YtndbmllnkjngnaaGreat.Zip
attribute [local go_sem] max2_int min2_int max_two min_two max_three min_three max_four min_four
set_option linter.unusedVariables false
set_option linter.unusedSimpArgs false
set_option maxHeartbeats 8000000
set_option maxRecDepth 100000
def laws_markDisk.f (k:Nat) (AE:Int) (AF:Int) (Af:List (S130)) (Ag:List (S133)) (Ah:List (S135)) (a1:Int):Option (Int×(List (S130))×(List (S133))×(List (S135))):=(laws_markInodeS.f k Af a1).bind fun AG=>((laws_markLinkS.f k Ag AG.1).bind fun AH=>((laws_markMoveS.f k Ah AH.1).bind fun AI=>(some (AI.1,AG.2,AH.2,AI.2))))
theorem laws_markDisk.calls (k:Nat) (AE:Int) (AF:Int) (J:Nat→Prop) (Ai:Value) (Af:List (S130)) (U:Nat→Prop) (Aj:Value) (Ag:List (S133)) (X:Nat→Prop) (Ak:Value) (Ah:List (S135)) (a1:Int) (r1:Int) (r2:List (S130)) (r3:List (S133)) (r4:List (S135)) (w0 w:World) (hB:Below w0.heap.size w0 w) (B6:Kd.R k130 130 w w0.heap.size J Ai Af) (B8:Kd.R k133 133 w w0.heap.size U Aj Ag) (B9:Kd.R k135 135 w w0.heap.size X Ak Ah) (h:laws_markDisk.f k AE AF Af Ag Ah a1=some (r1,r2,r3,r4)) :
 Calls Tryz.prog 15 #[.agg #[.int .i64 AE,.int .i64 AF,Ai,Aj,Ak],.int .i64 a1] w fun e w'=>e = .returned (.int .i64 r1)∧Kd.R k130 130 w' w0.heap.size (fun k_=>((J k_∨U k_∨X k_)∨w.heap.size≤k_)) Ai r2∧Kd.R k133 133 w' w0.heap.size (fun k_=>((J k_∨U k_∨X k_)∨w.heap.size≤k_)) Aj r3∧Kd.R k135 135 w' w0.heap.size (fun k_=>((J k_∨U k_∨X k_)∨w.heap.size≤k_)) Ak r4∧Below w0.heap.size w0 w'∧Kept w w' (fun k_=>J k_∨U k_∨X k_):=by
 have BD:=Tryz.underlying35;have Y:=aK (show Kd.R k130 130 w w0.heap.size (fun k_=>((J k_∨U k_∨X k_)∨w.heap.size≤k_)) Ai Af from rM B6 (fun k_ hk=>(.inl (.inl hk))));have Z:=aK (show Kd.R k133 133 w w0.heap.size (fun k_=>((J k_∨U k_∨X k_)∨w.heap.size≤k_)) Aj Ag from rM B8 (fun k_ hk=>(.inl (.inr (.inl hk)))));have A1:=aK (show Kd.R k135 135 w w0.heap.size (fun k_=>((J k_∨U k_∨X k_)∨w.heap.size≤k_)) Ak Ah from rM B9 (fun k_ hk=>(.inl (.inr (.inr hk)))));have HK:=aK (Kept.refl w (fun k_=>J k_∨U k_∨X k_));have BE:=aK hB.size;have HB:=aK hB;clear hB;have H:=h;unfold laws_markDisk.f at H;clear h;replace H:=oB H;obtain⟨⟨B3,Be⟩,Bf,H⟩:=H;dsimp only at H;have A3:=aK Bf;clear Bf;replace H:=oB H;obtain⟨⟨B5,Bg⟩,Bh,H⟩:=H;dsimp only at H
 have A4:=aK Bh;clear Bh;replace H:=oB H;obtain⟨⟨Bi,Bj⟩,Bk,H⟩:=H;dsimp only at H;have A5:=aK Bk;clear Bk;simp only[Option.some.injEq,Prod.mk.injEq]at H;obtain⟨rfl,rfl,rfl,rfl⟩:=H;obtain⟨Bl,Bm,Bx⟩:=rs Y;subst Bx;obtain⟨Bn,Bo,By⟩:=rs Z;subst By;obtain⟨Bp,Bq,Bz⟩:=rs A1;subst Bz
 go_enter Tryz.func15,Tryz.ntmps15
 go_wp2_with (first|((with_reducible refine gD 2 rfl ?_);refine boxW ?_;intro Ba hg w9 hbox hb;replace Y:=rb Y hb;replace Z:=rb Z hb;replace A1:=rb A1 hb;have A7:=aK hbox;have A8:=aK ((by rw[hg];exact(by first|exact HK.out.1|exact(show Kept w _ (fun k_=>J k_∨U k_∨X k_)from by repeat (first|(with_reducible first|exact HK.o|apply Kept.alloc|apply Kept.drewN|apply Kept.drew)|exact HK.o)).1):w.heap.size≤Ba));replace HK:=aK (Kept.below (S:=(fun k_=>J k_∨U k_∨X k_)) (by repeat (first|(with_reducible first|exact HK.o|apply Kept.alloc|apply Kept.drewN|apply Kept.drew)|exact HK.o)) hb);have A8:=gw (w:=w0) hg;replace HB:=bs (w:=w0) hb;clear hb hbox hg;have:=cf5 A7)|((with_reducible refine gC 64 rfl ?_);refine goesW Tryz.func64 ?_;(with_reducible refine(laws_markInodeS.calls k (fun k_=>some k_=(.slice Bl Af.length Bm:Value).ownBlock) (.slice Bl Af.length Bm) Af a1 B3 Be w0 _ ?_ ?_ A3.o).mono ?_);repeat (first|(with_reducible first|exact HB.o|apply below_alloc|apply pw_below_drewN|apply below_drew1|refine below_set ?_ A8.o)|exact HB.o);exact Kd.R_tight rfl Y.o;rintro e BF ⟨rfl,Ao,hb,hkp⟩;refine⟨_,rfl,?_⟩;replace Z:=aK (rM (ok':=fun k_=>((J k_∨U k_∨X k_)∨w.heap.size≤k_)) (Kd.R_keptB ((Kd.R_apart' Z.o (Kd.R_typed Y.o) (by decide))) hkp (fun k_ hk_ hs_=>(hk_.2) hs_)) (fun k_ hk_=>hk_.1.1));replace A1:=aK (rM (ok':=fun k_=>((J k_∨U k_∨X k_)∨w.heap.size≤k_)) (Kd.R_keptB ((Kd.R_apart' A1.o (Kd.R_typed Y.o) (by decide))) hkp (fun k_ hk_ hs_=>(hk_.2) hs_)) (fun k_ hk_=>hk_.1.1));replace A7:=aK (blk_kept bk hkp (fun hs_=>(fun e_=>(Kd.R_ne Y.o A7.o (by decide)) e_) hs_));replace HK:=aK (Kept.then_ (S:=(fun k_=>J k_∨U k_∨X k_)) (by repeat (first|(with_reducible first|exact HK.o|apply Kept.alloc|apply Kept.drewN|apply Kept.drew|refine Kept.setCell ?_ (.inr A8.o) _)|exact HK.o)) hkp (fun k_ hs_=>(fun e_=>(Y.out.1 k_ e_.symm)) hs_));replace Y:=aK (Kd.R_reok rfl Ao (fun k_ e_=>Y.out.1 k_ e_));replace HB:=aK (hb);(try clear hb hkp Ao);have:=cf5 A7)|((with_reducible refine gC 65 rfl ?_);refine goesW Tryz.func65 ?_;(with_reducible refine(laws_markLinkS.calls k (fun k_=>some k_=(.slice Bn Ag.length Bo:Value).ownBlock) (.slice Bn Ag.length Bo) Ag B3 B5 Bg w0 _ ?_ ?_ A4.o).mono ?_);repeat (first|(with_reducible first|exact HB.o|apply below_alloc|apply pw_below_drewN|apply below_drew1|refine below_set ?_ A8.o)|exact HB.o);exact Kd.R_tight rfl Z.o;rintro e BG ⟨rfl,Ao,hb,hkp⟩;refine⟨_,rfl,?_⟩;replace Y:=aK (rM (ok':=fun k_=>((J k_∨U k_∨X k_)∨w.heap.size≤k_)) (Kd.R_keptB ((Kd.R_apart' Y.o (Kd.R_typed Z.o) (by decide))) hkp (fun k_ hk_ hs_=>(hk_.2) hs_)) (fun k_ hk_=>hk_.1.1));replace A1:=aK (rM (ok':=fun k_=>((J k_∨U k_∨X k_)∨w.heap.size≤k_)) (Kd.R_keptB ((Kd.R_apart' A1.o (Kd.R_typed Z.o) (by decide))) hkp (fun k_ hk_ hs_=>(hk_.2) hs_)) (fun k_ hk_=>hk_.1.1));replace A7:=aK (blk_kept bk hkp (fun hs_=>(fun e_=>(Kd.R_ne Z.o A7.o (by decide)) e_) hs_));replace HK:=aK (Kept.then_ (S:=(fun k_=>J k_∨U k_∨X k_)) (by repeat (first|(with_reducible first|exact HK.o|apply Kept.alloc|apply Kept.drewN|apply Kept.drew|refine Kept.setCell ?_ (.inr A8.o) _)|exact HK.o)) hkp (fun k_ hs_=>(fun e_=>(Z.out.1 k_ e_.symm)) hs_));replace Z:=aK (Kd.R_reok rfl Ao (fun k_ e_=>Z.out.1 k_ e_));replace HB:=aK (hb);(try clear hb hkp Ao);have:=cf5 A7)|((with_reducible refine gC 66 rfl ?_);refine goesW Tryz.func66 ?_;(with_reducible refine(laws_markMoveS.calls k (fun k_=>some k_=(.slice Bp Ah.length Bq:Value).ownBlock) (.slice Bp Ah.length Bq) Ah B5 Bi Bj w0 _ ?_ ?_ A5.o).mono ?_);repeat (first|(with_reducible first|exact HB.o|apply below_alloc|apply pw_below_drewN|apply below_drew1|refine below_set ?_ A8.o)|exact HB.o);exact Kd.R_tight rfl A1.o;rintro e BH ⟨rfl,Ao,hb,hkp⟩;refine⟨_,rfl,?_⟩;replace Y:=aK (rM (ok':=fun k_=>((J k_∨U k_∨X k_)∨w.heap.size≤k_)) (Kd.R_keptB ((Kd.R_apart' Y.o (Kd.R_typed A1.o) (by decide))) hkp (fun k_ hk_ hs_=>(hk_.2) hs_)) (fun k_ hk_=>hk_.1.1));replace Z:=aK (rM (ok':=fun k_=>((J k_∨U k_∨X k_)∨w.heap.size≤k_)) (Kd.R_keptB ((Kd.R_apart' Z.o (Kd.R_typed A1.o) (by decide))) hkp (fun k_ hk_ hs_=>(hk_.2) hs_)) (fun k_ hk_=>hk_.1.1));replace A7:=aK (blk_kept bk hkp (fun hs_=>(fun e_=>(Kd.R_ne A1.o A7.o (by decide)) e_) hs_));replace HK:=aK (Kept.then_ (S:=(fun k_=>J k_∨U k_∨X k_)) (by repeat (first|(with_reducible first|exact HK.o|apply Kept.alloc|apply Kept.drewN|apply Kept.drew|refine Kept.setCell ?_ (.inr A8.o) _)|exact HK.o)) hkp (fun k_ hs_=>(fun e_=>(A1.out.1 k_ e_.symm)) hs_));replace A1:=aK (Kd.R_reok rfl Ao (fun k_ e_=>A1.out.1 k_ e_));replace HB:=aK (hb);(try clear hb hkp Ao)))
 go_ret
 exact⟨fe,rpR Y.o,rpR Z.o,rpR A1.o,bl,by repeat (first|(with_reducible first|exact HK.o|apply Kept.alloc|apply Kept.drewN|apply Kept.drew|refine Kept.setCell ?_ (.inr A8.o) _)|exact HK.o)⟩
def laws_heldInodeS.l0:Nat→List (S130)→Int→Int→Option (Int)
 | 0,_,_,_=>none
 |k+1,x0,x1,x5=>if x5<(x0.length:Int)then(if 0≤x5 then(if((rd_T130 x0 x5).f0)=x1 then((laws_markText.f k (wrap64 (x1+1))).bind fun AB=>(if((rd_T130 x0 x5).f1).toList=AB.toList then(if((rd_T130 x0 x5).f2)=(wrap64 ((wrap64 (x1+1))+1))then(laws_heldInodeS.l0 k x0 (wrap64 ((wrap64 ((wrap64 (x1+1))+1))+1)) (wrap64 (x5+1)))else(some (-1)))else(some (-1))))else(some (-1)))else(none))else(some x1)
def laws_heldInodeS.f (k:Nat) (l0:List (S130)) (a1:Int):Option (Int):=laws_heldInodeS.l0 k l0 a1 0
def laws_heldInodeS.T7:Bool×List (List Nat×List Nat):=(true,[([],[]),([],[]),([0,1],[0,1]),([2],[2]),([3],[3]),([],[]),([5],[5]),([4,6],[4,6])])
def laws_heldInodeS.B7:List Nat:=[0,0,3,7,15,0,32,127]
theorem laws_heldInodeS.tab7:rtab .any (opsOf Tryz.f67 7)=laws_heldInodeS.T7:=by kernel_rfl
theorem laws_heldInodeS.bits7:waitsOk laws_heldInodeS.T7.2 laws_heldInodeS.B7=true:=by kernel_rfl
theorem laws_heldInodeS.calls (k:Nat) (A0:Option Addr) (c0:Nat) (l0:List (S130)) (a1:Int) (r:Int) (w:World) (AJ:Kd.C k130 w A0 l0.length l0) (AK:l0.length≤c0) (h:laws_heldInodeS.f k l0 a1=some r) :
 Calls Tryz.prog 67 #[.slice A0 l0.length c0,.int .i64 a1] w fun e w'=>e = .returned (.int .i64 r)∧Below w.heap.size w w':=by
 have AD:=aK AJ;have B_:=aK AK;clear AJ AK;have HB:=aK (Below.refl w.heap.size w);have H:=h;unfold laws_heldInodeS.f at H;clear h;have H':=aK H;clear H
 go_enter Tryz.func67,Tryz.ntmps67
 go_wp2
 go_loopg [1,5] k (fun kq v1 v5 w'=>∃(A2:Int) (D:Int),v1 = .int .i64 A2∧v5 = .int .i64 D∧Aside0 (laws_heldInodeS.l0 kq l0 A2 D=some r)∧Aside0 (kq≤k)∧Aside0 (Below w.heap.size w w'))
 case atStart=>exact⟨(a1),(0),fa,fa,H',⟨Nat.le_refl _⟩,⟨bl⟩⟩
 case round=>
  clear H';(try clear p2);obtain⟨A2,D,rfl,rfl,HA,AL,HB⟩:=hrel;cases gk with
  |zero=>exact absurd HA.o (by simp[laws_heldInodeS.l0])
  |succ k1=>
   have H:=HA.o;clear HA;simp only[laws_heldInodeS.l0]at H;by_cases c3:D<(l0.length:Int)
   ·rw[if_pos c3]at H;have AM:=dt c3;clear c3;by_cases c4:0≤D
    ·rw[if_pos c4]at H;have Br:=dt c4;clear c4;have Hq_:=aK H;clear H;have AN:0≤(D:Int):=dT am;have AO:D<(l0.length:Int):=dT am;obtain⟨A9,Bs,Ap,Aq,Ar⟩:=at_T130 AD.o D AN AO;cases Bs;replace Ap:=cz HB Ap;replace Aq:=cz HB Aq;replace Ar:=cz HB Ar;replace AN:=eq_true AN;replace AO:=eq_true AO;have H:=Hq_.o;clear Hq_;by_cases c5:((rd_T130 l0 D).f0)=A2
     ·rw[if_pos c5]at H;have AP:=bT c5;(try rw[AP]);have AQ:=bE c5;(try rw[AQ]);clear c5;obtain⟨AB,A6,H⟩:=bd H;have Hq_:=aK H;clear H;(try go_wp2);replace HB:=dW HB;have AR:0≤(D:Int):=dT am;have AS:D<(l0.length:Int):=dT am;obtain⟨Bb,Bt,Aa,Ab,Ac⟩:=at_T130 AD.o D AR AS;have As:=Ac;have At:=Ab;have Au:=Aa;obtain rfl:A9=Bb:=(by injection Bt);replace Aa:=cz HB Aa;replace Ab:=cz HB Ab;replace Ac:=cz HB Ac;replace AR:=eq_true AR;replace AS:=eq_true AS;refine start_ (n:=8) (S:=fun w'=>w'.cell? (A9.add ((D).toNat*3))=some (.int .i64 ((rd_T130 l0 D).f0))∧w'.cell? ⟨(A9.add ((D).toNat*3)).block,(A9.add ((D).toNat*3)).off+1,none⟩=some (.string ((rd_T130 l0 D).f1))∧w'.cell? ⟨(A9.add ((D).toNat*3)).block,(A9.add ((D).toNat*3)).off+2,none⟩=some (.int .i64 ((rd_T130 l0 D).f2))) (ds:=[]) (bo 8 0) (by kernel_rfl) rfl rfl ⟨(cy HB Au),(cy HB At),(cy HB As)⟩ (fun hHeld=>?_);refine with_tabW laws_heldInodeS.tab7 laws_heldInodeS.bits7 (fun HT_ HW_=>?_);generalize wr.drew=BA at HB Aa Ab Ac hHeld ⊢;refine pV 0 21 (bo 8 1) ?_;refine pV 1 22 (bo 8 3) ?_
      refine pV 2 23 (bo 8 7) ?_;refine pV 3 24 (bo 8 15) ?_;refine pV 5 26 (bo 8 47) ?_;refine tV 4 25 (bo 8 63) ?_;refine o1 6 27 (bo 8 127) (fun K hK=>?_);refine goesV Tryz.func81 ?_;(with_reducible refine(laws_markText.calls k1 (wrap64 (A2+1)) AB _ A6.o).mono ?_);rintro e BB ⟨rfl,hb⟩;refine⟨_,rfl,?_⟩;replace HB:=bS HB hb;(try clear hb BC hk hi);refine hK.out _ _ ⟨(cy HB Au),(cy HB At),(cy HB As)⟩ (fun hHeld=>?_);clear hK K;refine nm 27 ?_;refine pV 7 28 (bo 8 255) ?_;have H:=Hq_.o;clear Hq_;by_cases c7:((rd_T130 l0 D).f1).toList=AB.toList
      ·rw[if_pos c7]at H;have Al:=bT c7;(try rw[Al]);have Am:=bE c7;(try rw[Am]);clear c7;have Hq_:=aK H;clear H;refine done_ (done_of HT_.o (by kernel_rfl)) ?_;have AT:0≤(D:Int):=dT am;have AU:D<(l0.length:Int):=dT am;obtain⟨Bc,Bu,Av,Aw,Ax⟩:=at_T130 AD.o D AT AU;obtain rfl:A9=Bc:=(by injection Bu);replace Av:=cz HB Av;replace Aw:=cz HB Aw;replace Ax:=cz HB Ax;replace AT:=eq_true AT;replace AU:=eq_true AU;have H:=Hq_.o;clear Hq_;by_cases c8:((rd_T130 l0 D).f2)=(wrap64 ((wrap64 (A2+1))+1))
       ·rw[if_pos c8]at H;have AV:=bT c8;(try rw[AV]);have AW:=bE c8;(try rw[AW]);clear c8;have H':=aK H;clear H;(try go_wp2)
        go_roundg k1
        case measure=>have:=AL.o;omega
        case rel=>exact⟨(wrap64 ((wrap64 ((wrap64 (A2+1))+1))+1)),(wrap64 (D+1)),fa,fa,H',⟨by have:=AL.o;omega⟩,⟨bl⟩⟩
       ·rw[if_neg c8]at H;have AV:=bN c8;(try rw[AV]);have AW:=bQ c8;(try rw[AW]);obtain rfl:=oj H;(try go_wp2)
        go_ret
        exact⟨fe,bl⟩
      ·rw[if_neg c7]at H;have Al:=bN c7;(try rw[Al]);have Am:=bQ c7;(try rw[Am]);obtain rfl:=oj H;refine done_ (done_of HT_.o (by kernel_rfl)) ?_;(try go_wp2)
       go_ret
       exact⟨fe,bl⟩
     ·rw[if_neg c5]at H;have AP:=bN c5;(try rw[AP]);have AQ:=bQ c5;(try rw[AQ]);obtain rfl:=oj H;go_wp2
      go_ret
      exact⟨fe,bl⟩
    ·rw[if_neg c4]at H;exact absurd H (by simp)
   ·rw[if_neg c3]at H;have AM:=df c3;clear c3;obtain rfl:=oj H;go_wp2
    go_ret
    exact⟨fe,bl⟩
def laws_heldLinkS.l0:Nat→List (S133)→Int→Int→Option (Int)
 | 0,_,_,_=>none
 |k+1,x0,x1,x5=>if x5<(x0.length:Int)then(if 0≤x5 then((laws_markText.f k x1).bind fun AC=>(if((rd_T133 x0 x5).f0).toList=AC.toList then(if((rd_T133 x0 x5).f1)=(wrap64 (x1+1))then(laws_heldLinkS.l0 k x0 (wrap64 ((wrap64 (x1+1))+1)) (wrap64 (x5+1)))else(some (-1)))else(some (-1))))else(none))else(some x1)
def laws_heldLinkS.f (k:Nat) (l0:List (S133)) (a1:Int):Option (Int):=laws_heldLinkS.l0 k l0 a1 0
def laws_heldLinkS.T4:Bool×List (List Nat×List Nat):=(true,[([],[]),([],[]),([0,1],[0,1]),([2],[2]),([3],[3]),([],[]),([5],[5]),([4,6],[4,6])])
def laws_heldLinkS.B4:List Nat:=[0,0,3,7,15,0,32,127]
theorem laws_heldLinkS.tab4:rtab .any (opsOf Tryz.f68 4)=laws_heldLinkS.T4:=by kernel_rfl
theorem laws_heldLinkS.bits4:waitsOk laws_heldLinkS.T4.2 laws_heldLinkS.B4=true:=by kernel_rfl
theorem laws_heldLinkS.calls (k:Nat) (A0:Option Addr) (c0:Nat) (l0:List (S133)) (a1:Int) (r:Int) (w:World) (AJ:Kd.C k133 w A0 l0.length l0) (AK:l0.length≤c0) (h:laws_heldLinkS.f k l0 a1=some r) :
 Calls Tryz.prog 68 #[.slice A0 l0.length c0,.int .i64 a1] w fun e w'=>e = .returned (.int .i64 r)∧Below w.heap.size w w':=by
 have AD:=aK AJ;have B_:=aK AK;clear AJ AK;have HB:=aK (Below.refl w.heap.size w);have H:=h;unfold laws_heldLinkS.f at H;clear h;have H':=aK H;clear H
 go_enter Tryz.func68,Tryz.ntmps68
 go_wp2
 go_loopg [1,5] k (fun kq v1 v5 w'=>∃(A2:Int) (D:Int),v1 = .int .i64 A2∧v5 = .int .i64 D∧Aside0 (laws_heldLinkS.l0 kq l0 A2 D=some r)∧Aside0 (kq≤k)∧Aside0 (Below w.heap.size w w'))
 case atStart=>exact⟨(a1),(0),fa,fa,H',⟨Nat.le_refl _⟩,⟨bl⟩⟩
 case round=>
  clear H';(try clear p2);obtain⟨A2,D,rfl,rfl,HA,AL,HB⟩:=hrel;cases gk with
  |zero=>exact absurd HA.o (by simp[laws_heldLinkS.l0])
  |succ k1=>
   have H:=HA.o;clear HA;simp only[laws_heldLinkS.l0]at H;by_cases c3:D<(l0.length:Int)
   ·rw[if_pos c3]at H;have AM:=dt c3;clear c3;by_cases c4:0≤D
    ·rw[if_pos c4]at H;have Br:=dt c4;clear c4;obtain⟨AC,A5,H⟩:=bd H;have Hq_:=aK H;clear H;(try go_wp2);replace HB:=dW HB;have AX:0≤(D:Int):=dT am;have AY:D<(l0.length:Int):=dT am;obtain⟨An,Bv,Ad,Ae⟩:=at_T133 AD.o D AX AY;have Ay:=Ae;have Az:=Ad;cases Bv;replace Ad:=cz HB Ad;replace Ae:=cz HB Ae;replace AX:=eq_true AX;replace AY:=eq_true AY;refine start_ (n:=8) (S:=fun w'=>w'.cell? (An.add ((D).toNat*2))=some (.string ((rd_T133 l0 D).f0))∧w'.cell? ⟨(An.add ((D).toNat*2)).block,(An.add ((D).toNat*2)).off+1,none⟩=some (.int .i64 ((rd_T133 l0 D).f1))) (ds:=[]) (bo 8 0) (by kernel_rfl) rfl rfl ⟨(cy HB Az),(cy HB Ay)⟩ (fun hHeld=>?_);refine with_tabW laws_heldLinkS.tab4 laws_heldLinkS.bits4 (fun HT_ HW_=>?_);generalize wr.drew=BA at HB Ad Ae hHeld ⊢;refine pV 0 12 (bo 8 1) ?_;refine pV 1 13 (bo 8 3) ?_;refine pV 2 14 (bo 8 7) ?_;refine pV 3 15 (bo 8 15) ?_;refine pV 5 17 (bo 8 47) ?_;refine tV 4 16 (bo 8 63) ?_;refine o1 6 18 (bo 8 127) (fun K hK=>?_);refine goesV Tryz.func81 ?_;(with_reducible refine(laws_markText.calls k1 A2 AC _ A5.o).mono ?_);rintro e BB ⟨rfl,hb⟩;refine⟨_,rfl,?_⟩;replace HB:=bS HB hb;(try clear hb BC hk hi)
     refine hK.out _ _ ⟨(cy HB Az),(cy HB Ay)⟩ (fun hHeld=>?_);clear hK K;refine nm 18 ?_;refine pV 7 19 (bo 8 255) ?_;have H:=Hq_.o;clear Hq_;by_cases c6:((rd_T133 l0 D).f0).toList=AC.toList
     ·rw[if_pos c6]at H;have AZ:=bT c6;(try rw[AZ]);have B0:=bE c6;(try rw[B0]);clear c6;have Hq_:=aK H;clear H;refine done_ (done_of HT_.o (by kernel_rfl)) ?_;have B1:0≤(D:Int):=dT am;have B2:D<(l0.length:Int):=dT am;obtain⟨Bd,Bw,A_,AA⟩:=at_T133 AD.o D B1 B2;obtain rfl:An=Bd:=(by injection Bw);replace A_:=cz HB A_;replace AA:=cz HB AA;replace B1:=eq_true B1;replace B2:=eq_true B2;have H:=Hq_.o;clear Hq_;by_cases c7:((rd_T133 l0 D).f1)=(wrap64 (A2+1))
      ·rw[if_pos c7]at H;have Al:=bT c7;(try rw[Al]);have Am:=bE c7;(try rw[Am]);clear c7;have H':=aK H;clear H;(try go_wp2)
       go_roundg k1
       case measure=>have:=AL.o;omega
       case rel=>exact⟨(wrap64 ((wrap64 (A2+1))+1)),(wrap64 (D+1)),fa,fa,H',⟨by have:=AL.o;omega⟩,⟨bl⟩⟩
      ·rw[if_neg c7]at H;have Al:=bN c7;(try rw[Al]);have Am:=bQ c7;(try rw[Am]);obtain rfl:=oj H;(try go_wp2)
       go_ret
       exact⟨fe,bl⟩
     ·rw[if_neg c6]at H;have AZ:=bN c6;(try rw[AZ]);have B0:=bQ c6;(try rw[B0]);obtain rfl:=oj H;refine done_ (done_of HT_.o (by kernel_rfl)) ?_;(try go_wp2)
      go_ret
      exact⟨fe,bl⟩
    ·rw[if_neg c4]at H;exact absurd H (by simp)
   ·rw[if_neg c3]at H;have AM:=df c3;clear c3;obtain rfl:=oj H;go_wp2
    go_ret
    exact⟨fe,bl⟩
def laws_eqStep.f (Aw:Int) (Ax:ByteArray) (Ay:ByteArray) (Az:ByteArray) (A_:Int) (AA:ByteArray) (AB:ByteArray) (AC:ByteArray):Option (Bool):=if Aw=A_ then(if Ax.toList=AA.toList then(if Ay.toList=AB.toList then(if Az.toList=AC.toList then(some true)else(some false))else(some false))else(some false))else(some false)
theorem laws_eqStep.z1 {p:Prop} (h:p:=by
 go_enter Tryz.func78,Tryz.ntmps78
 go_wp2_with (first|((with_reducible refine gD 2 rfl ?_);refine boxW ?_;intro CL hg Dl hbox hb;have Ao:=aK hbox;have CM:=gW HB hg;replace HB:=bS HB hb;clear hb hbox hg)|((with_reducible refine gD 3 rfl ?_);refine boxW ?_;intro CN hg Bx hbox hb;have BT:=aK hbox;have CO:=gW HB hg;replace HB:=bS HB hb;have AW:=nl Ao hg;have AX:=nr Ao hg;replace Ao:=bv Ao hb;clear hb hbox hg;have CP:=AW.o;have CQ:=AX.o;have:=cf4 Ao;have:=cf4 BT))
 go_ret
 exact⟨fe,bl⟩):p:=h
theorem laws_eqStep.calls (Aw:Int) (Ax:ByteArray) (Ay:ByteArray) (Az:ByteArray) (A_:Int) (AA:ByteArray) (AB:ByteArray) (AC:ByteArray) (r:Bool) (w:World) (h:laws_eqStep.f Aw Ax Ay Az A_ AA AB AC=some r) :
 Calls Tryz.prog 78 #[.agg #[.int .i64 Aw,.string Ax,.string Ay,.string Az],.agg #[.int .i64 A_,.string AA,.string AB,.string AC]] w fun e w'=>e = .returned (.bool r)∧Below w.heap.size w w':=by
 have Cb:=Tryz.underlying39;have HB:=aK (Below.refl w.heap.size w);have H:=h;unfold laws_eqStep.f at H;clear h;by_cases c3:Aw=A_
 ·rw[if_pos c3]at H;have Aa:=bT c3;have B7:=bE c3;clear c3;by_cases c4:Ax.toList=AA.toList
  ·rw[if_pos c4]at H;have Au:=bT c4;have Cc:=bE c4;clear c4;by_cases c5:Ay.toList=AB.toList
   ·rw[if_pos c5]at H;have B8:=bT c5;have Cd:=bE c5;clear c5;by_cases c6:Az.toList=AC.toList
    ·rw[if_pos c6]at H;have B9:=bT c6;have Ce:=bE c6;clear c6;obtain rfl:=oj H
     exact laws_eqStep.z1
    ·rw[if_neg c6]at H;have B9:=bN c6;have Ce:=bQ c6;obtain rfl:=oj H
     exact laws_eqStep.z1
   ·rw[if_neg c5]at H;have B8:=bN c5;have Cd:=bQ c5;obtain rfl:=oj H
    exact laws_eqStep.z1
  ·rw[if_neg c4]at H;have Au:=bN c4;have Cc:=bQ c4;obtain rfl:=oj H
   exact laws_eqStep.z1
 ·rw[if_neg c3]at H;have Aa:=bN c3;have B7:=bQ c3;obtain rfl:=oj H
  exact laws_eqStep.z1
def laws_eqStepS.l0:Nat→List (S39)→List (S39)→Int→Option (Bool)
 | 0,_,_,_=>none
 |k+1,x0,x1,x5=>if x5<(x0.length:Int)then(if 0≤x5 then(if x5<(x1.length:Int)then((laws_eqStep.f ((rd_T39 x0 x5).f0) ((rd_T39 x0 x5).f1) ((rd_T39 x0 x5).f2) ((rd_T39 x0 x5).f3) ((rd_T39 x1 x5).f0) ((rd_T39 x1 x5).f1) ((rd_T39 x1 x5).f2) ((rd_T39 x1 x5).f3)).bind fun Ba=>(if Ba=true then(laws_eqStepS.l0 k x0 x1 (wrap64 (x5+1)))else(some false)))else(none))else(none))else(some true)
def laws_eqStepS.f (k:Nat) (l0:List (S39)) (l1:List (S39)):Option (Bool):=if(l0.length:Int)=(l1.length:Int)then(laws_eqStepS.l0 k l0 l1 0)else(some false)
def laws_eqStepS.T6:Bool×List (List Nat×List Nat):=(true,[([],[]),([],[]),([0,1],[0,1]),([2],[2]),([],[]),([],[]),([4,5],[4,5]),([6],[6]),([3,7],[3,7]),([8],[8])])
def laws_eqStepS.B6:List Nat:=[0,0,3,7,0,0,48,112,255,511]
theorem laws_eqStepS.tab6:rtab .any (opsOf Tryz.f21 6)=laws_eqStepS.T6:=by kernel_rfl
theorem laws_eqStepS.bits6:waitsOk laws_eqStepS.T6.2 laws_eqStepS.B6=true:=by kernel_rfl
theorem laws_eqStepS.calls (k:Nat) (A0:Option Addr) (c0:Nat) (l0:List (S39)) (A1:Option Addr) (c1:Nat) (l1:List (S39)) (r:Bool) (w:World) (Bb:Kd.C k39 w A0 l0.length l0) (Bc:l0.length≤c0) (Cf:Kd.C k39 w A1 l1.length l1) (Cg:l1.length≤c1) (h:laws_eqStepS.f k l0 l1=some r) :
 Calls Tryz.prog 21 #[.slice A0 l0.length c0,.slice A1 l1.length c1] w fun e w'=>e = .returned (.bool r)∧Below w.heap.size w w':=by
 have Cb:=Tryz.underlying39;have BU:=aK Bb;have CR:=aK Bc;clear Bb Bc;have CS:=aK Cf;have Dm:=aK Cg;clear Cf Cg;have HB:=aK (Below.refl w.heap.size w);have H:=h;unfold laws_eqStepS.f at H;clear h;by_cases c3:(l0.length:Int)=(l1.length:Int)
 ·rw[if_pos c3]at H;have Aa:=bT c3;have B7:=bE c3;have BG:(l0.length==l1.length)=true:=by first|simpa using c3|(simp at c3 ⊢;omega)
  clear c3;have H':=aK H;clear H
  go_enter Tryz.func21,Tryz.ntmps21
  go_wp2
  go_loopg [5] k (fun kq v5 w'=>∃(D:Int),v5 = .int .i64 D∧Aside0 (laws_eqStepS.l0 kq l0 l1 D=some r)∧Aside0 (kq≤k)∧Aside0 (Below w.heap.size w w'))
  case atStart=>exact⟨(0),fa,H',⟨Nat.le_refl _⟩,⟨bl⟩⟩
  case round=>
   clear H';(try clear c1);(try clear c2);(try clear p2);(try clear c3);(try clear Aa);(try clear B7);(try clear BG);obtain⟨D,rfl,HA,AD,HB⟩:=hrel;cases gk with
   |zero=>exact absurd HA.o (by simp[laws_eqStepS.l0])
   |succ k1=>
    have H:=HA.o;clear HA;simp only[laws_eqStepS.l0]at H;by_cases c4:D<(l0.length:Int)
    ·rw[if_pos c4]at H;have Au:=dt c4;clear c4;by_cases c5:0≤D
     ·rw[if_pos c5]at H;have B8:=dt c5;clear c5;have Hq_:=aK H;clear H;(try go_wp2);replace HB:=dW HB;have Bd:0≤(D:Int):=dT am;have Be:D<(l0.length:Int):=dT am;obtain⟨A5,Ch,Ab,Ac,Ad,Ae⟩:=at_T39 BU.o D Bd Be;have AE:=Ae;have AF:=Ad;have AG:=Ac;have AH:=Ab;cases Ch;replace Ab:=cz HB Ab;replace Ac:=cz HB Ac;replace Ad:=cz HB Ad;replace Ae:=cz HB Ae;replace Bd:=eq_true Bd;replace Be:=eq_true Be;have Bf:0≤(D:Int):=dT am;have H:=Hq_.o;clear Hq_;by_cases c6:D<(l1.length:Int)
      ·rw[if_pos c6]at H;have B9:=dt c6;(try rw[B9]);clear c6;obtain⟨Ba,A7,H⟩:=bd H;have Hq_:=aK H;clear H;have Bg:D<(l1.length:Int):=dT am;obtain⟨A9,Ci,Af,Ag,Ah,Ai⟩:=at_T39 CS.o D Bf Bg;have AI:=Ai;have AJ:=Ah;have AK:=Ag;have AL:=Af;cases Ci;replace Af:=cz HB Af;replace Ag:=cz HB Ag;replace Ah:=cz HB Ah;replace Ai:=cz HB Ai;replace Bf:=eq_true Bf;replace Bg:=eq_true Bg
       refine start_ (n:=10) (S:=fun w'=>w'.cell? (A5.add ((D).toNat*4))=some (.int .i64 ((rd_T39 l0 D).f0))∧w'.cell? ⟨(A5.add ((D).toNat*4)).block,(A5.add ((D).toNat*4)).off+1,none⟩=some (.string ((rd_T39 l0 D).f1))∧w'.cell? ⟨(A5.add ((D).toNat*4)).block,(A5.add ((D).toNat*4)).off+2,none⟩=some (.string ((rd_T39 l0 D).f2))∧w'.cell? ⟨(A5.add ((D).toNat*4)).block,(A5.add ((D).toNat*4)).off+3,none⟩=some (.string ((rd_T39 l0 D).f3))∧w'.cell? (A9.add ((D).toNat*4))=some (.int .i64 ((rd_T39 l1 D).f0))∧w'.cell? ⟨(A9.add ((D).toNat*4)).block,(A9.add ((D).toNat*4)).off+1,none⟩=some (.string ((rd_T39 l1 D).f1))∧w'.cell? ⟨(A9.add ((D).toNat*4)).block,(A9.add ((D).toNat*4)).off+2,none⟩=some (.string ((rd_T39 l1 D).f2))∧w'.cell? ⟨(A9.add ((D).toNat*4)).block,(A9.add ((D).toNat*4)).off+3,none⟩=some (.string ((rd_T39 l1 D).f3))) (ds:=[]) (bo 10 0) (by kernel_rfl) rfl rfl ⟨(cy HB AH),(cy HB AG),(cy HB AF),(cy HB AE),(cy HB AL),(cy HB AK),(cy HB AJ),(cy HB AI)⟩ (fun hHeld=>?_);refine with_tabW laws_eqStepS.tab6 laws_eqStepS.bits6 (fun HT_ HW_=>?_);generalize wr.drew=CT at HB Ab Ac Ad Ae Af Ag Ah Ai hHeld ⊢;refine pV 0 17 (bo 10 1) ?_;refine pV 1 18 (bo 10 3) ?_;refine pV 2 19 (bo 10 7) ?_
       refine pV 4 21 (bo 10 23) ?_;refine pV 5 22 (bo 10 55) ?_;refine pV 6 23 (bo 10 119) ?_;refine tV 3 20 (bo 10 127) ?_;refine tV 7 24 (bo 10 255) ?_;refine o1 8 25 (bo 10 511) (fun K hK=>?_);refine goesV Tryz.func78 ?_;(with_reducible refine(laws_eqStep.calls ((rd_T39 l0 D).f0) ((rd_T39 l0 D).f1) ((rd_T39 l0 D).f2) ((rd_T39 l0 D).f3) ((rd_T39 l1 D).f0) ((rd_T39 l1 D).f1) ((rd_T39 l1 D).f2) ((rd_T39 l1 D).f3) _ _ A7.o).mono ?_);rintro e Dn ⟨rfl,hb⟩;refine⟨_,rfl,?_⟩;replace HB:=bS HB hb;(try clear hb Do hk hi);refine hK.out _ _ ⟨(cy HB AH),(cy HB AG),(cy HB AF),(cy HB AE),(cy HB AL),(cy HB AK),(cy HB AJ),(cy HB AI)⟩ (fun hHeld=>?_);clear hK K;refine nm 25 ?_;refine pV 9 26 (bo 10 1023) ?_;have H:=Hq_.o;clear Hq_;by_cases c8:Ba=true
       ·subst c8;replace H:=iT H;have H':=aK H;clear H;refine done_ (done_of HT_.o (by kernel_rfl)) ?_;(try go_wp2)
        go_roundg k1
        case measure=>have:=AD.o;omega
        case rel=>exact⟨(wrap64 (D+1)),fa,H',⟨by have:=AD.o;omega⟩,⟨bl⟩⟩
       ·replace c8:=bF c8;subst c8;replace H:=iF H;obtain rfl:=oj H;refine done_ (done_of HT_.o (by kernel_rfl)) ?_;(try go_wp2)
        go_ret
        exact⟨fe,bl⟩
      ·rw[if_neg c6]at H;exact absurd H (by simp)
     ·rw[if_neg c5]at H;exact absurd H (by simp)
    ·rw[if_neg c4]at H;have Au:=df c4;clear c4;obtain rfl:=oj H;go_wp2
     go_ret
     exact⟨fe,bl⟩
 ·rw[if_neg c3]at H;have Aa:=bN c3;have B7:=bQ c3;have BG:(l0.length==l1.length)=false:=by first|simpa using c3|(simp at c3 ⊢;omega)
  obtain rfl:=oj H
  go_enter Tryz.func21,Tryz.ntmps21
  go_wp2
  go_ret
  exact⟨fe,bl⟩
def laws_markStepS.l0:Nat→List (S39)→Int→Int→Option (Int×(List (S39)))
 | 0,_,_,_=>none
 |k+1,x0,x1,x5=>if x5<(x0.length:Int)then(if 0≤x5 then((some (x0.set (x5:Int).toNat (⟨x1,(rd_T39 x0 x5).f1,(rd_T39 x0 x5).f2,(rd_T39 x0 x5).f3⟩:S39):List (S39))).bind fun Y=>((laws_markText.f k (wrap64 (x1+1))).bind fun Al=>((some (Y.set (x5:Int).toNat (⟨(rd_T39 Y x5).f0,Al,(rd_T39 Y x5).f2,(rd_T39 Y x5).f3⟩:S39):List (S39))).bind fun Z=>((laws_markText.f k (wrap64 ((wrap64 (x1+1))+1))).bind fun Am=>((some (Z.set (x5:Int).toNat (⟨(rd_T39 Z x5).f0,(rd_T39 Z x5).f1,Am,(rd_T39 Z x5).f3⟩:S39):List (S39))).bind fun A2=>((laws_markText.f k (wrap64 ((wrap64 ((wrap64 (x1+1))+1))+1))).bind fun An=>(laws_markStepS.l0 k (A2.set (x5:Int).toNat (⟨(rd_T39 A2 x5).f0,(rd_T39 A2 x5).f1,(rd_T39 A2 x5).f2,An⟩:S39)) (wrap64 ((wrap64 ((wrap64 ((wrap64 (x1+1))+1))+1))+1)) (wrap64 (x5+1)))))))))else(none))else(some (x1,x0))
def laws_markStepS.f (k:Nat) (l0:List (S39)) (a1:Int):Option (Int×(List (S39))):=laws_markStepS.l0 k l0 a1 0
theorem laws_markStepS.calls (k:Nat) (A4:Nat→Prop) (Aj:Value) (l0:List (S39)) (a1:Int) (r1:Int) (r2:List (S39)) (w0 w:World) (hB:Below w0.heap.size w0 w) (CU:Kd.R k39 39 w w0.heap.size A4 Aj l0) (h:laws_markStepS.f k l0 a1=some (r1,r2)) :
 Calls Tryz.prog 24 #[Aj,.int .i64 a1] w fun e w'=>e = .returned (.int .i64 r1)∧Kd.R k39 39 w' w0.heap.size (fun k_=>(A4 k_∨w.heap.size≤k_)) Aj r2∧Below w0.heap.size w0 w'∧Kept w w' (fun k_=>A4 k_):=by
 have CV:=aK (show Kd.R k39 39 w w0.heap.size (fun k_=>(A4 k_∨w.heap.size≤k_)) Aj l0 from rM CU (fun k_ hk=>(.inl hk)));have HK:=aK (Kept.refl w (fun k_=>A4 k_));have Dp:=aK hB.size;have HB:=aK hB;clear hB;have H:=h;unfold laws_markStepS.f at H;clear h;have H':=aK H;clear H
 go_enter Tryz.func24,Tryz.ntmps24
 go_wp2
 go_loopg [1,5] k (fun kq v1 v5 w'=>∃(J:List (S39)) (A3:Int) (D:Int),v1 = .int .i64 A3∧v5 = .int .i64 D∧Aside0 (laws_markStepS.l0 kq J A3 D=some (r1,r2))∧Aside0 (kq≤k)∧Aside0 (Kd.R k39 39 w' w0.heap.size (fun k_=>(A4 k_∨w.heap.size≤k_)) Aj J)∧Aside0 (Kept w w' (fun k_=>A4 k_))∧Aside0 (Below w0.heap.size w0 w'))
 case atStart=>exact⟨(l0),(a1),(0),fa,fa,H',⟨Nat.le_refl _⟩,⟨rpR CV.o⟩,⟨by repeat (first|(with_reducible first|exact HK.o|apply Kept.alloc|apply Kept.drewN|apply Kept.drew)|exact HK.o)⟩,⟨bl⟩⟩
 case round=>
  clear H';(try clear c2);(try clear p2);obtain⟨J,A3,D,rfl,rfl,HA,AD,U,HK,HB⟩:=hrel;cases gk with
  |zero=>exact absurd HA.o (by simp[laws_markStepS.l0])
  |succ k1=>
   have H:=HA.o;clear HA;simp only[laws_markStepS.l0]at H;by_cases c3:D<(J.length:Int)
   ·rw[if_pos c3]at H;have Aa:=dt c3;clear c3;by_cases c4:0≤D
    ·rw[if_pos c4]at H;have Au:=dt c4;clear c4;obtain⟨Y,AY⟩:=yy (J.set (D:Int).toNat (⟨A3,(rd_T39 J D).f1,(rd_T39 J D).f2,(rd_T39 J D).f3⟩:S39));rw[←AY]at H;(try rw[obs]at H)
     have BV:=aK AY;clear AY;obtain⟨Al,A6,H⟩:=bd H;obtain⟨Z,AZ⟩:=yy (Y.set (D:Int).toNat (⟨(rd_T39 Y D).f0,Al,(rd_T39 Y D).f2,(rd_T39 Y D).f3⟩:S39));rw[←AZ]at H;(try rw[obs]at H)
     have BW:=aK AZ;clear AZ;obtain⟨Am,A8,H⟩:=bd H;obtain⟨A2,B0⟩:=yy (Z.set (D:Int).toNat (⟨(rd_T39 Z D).f0,(rd_T39 Z D).f1,Am,(rd_T39 Z D).f3⟩:S39));rw[←B0]at H;(try rw[obs]at H)
     have BX:=aK B0;clear B0;obtain⟨An,CW,H⟩:=bd H;obtain⟨BH,B1⟩:=yy (A2.set (D:Int).toNat (⟨(rd_T39 A2 D).f0,(rd_T39 A2 D).f1,(rd_T39 A2 D).f2,An⟩:S39));rw[←B1]at H;(try rw[obs]at H)
     have BY:=aK B1;clear B1;have H':=aK H;clear H;obtain⟨Cj,Ak,Bh⟩:=rs U;subst Bh;have BZ:0≤(D:Int):=dT am;have C0:(D:Int)<((J.length:Int):Int):=dT am;obtain⟨X,De,BI,BJ,CX,Dq,Ck⟩:=Kd.R_form U.o (by omega);(first|cases BI|(injection BI with ea_ en_ ec_;(first|subst ea_|(injection ea_ with ea_;subst ea_));subst ec_;clear en_));have By:=aK BJ;have Dr:=aK Ck;clear BJ CX Ck;have CY:=aK (show(A4 X∨w.heap.size≤X)from(U.out.1 _ rfl));obtain⟨Ds,Cl,Cm,AM,AN⟩:=Kd.R_elem U.o z39 (D:Int) BZ C0;obtain rfl:=k39_openM Cm;have Cs:wr.cell? ⟨X,(D:Int).toNat*4,none⟩=some (.int .i64 ((rd_T39 J D).f0)):=AM 0 _ rfl;have Ct:wr.cell? ⟨X,(D:Int).toNat*4+1,none⟩=some (.string ((rd_T39 J D).f1)):=AM 1 _ rfl;have Cu:wr.cell? ⟨X,(D:Int).toNat*4+2,none⟩=some (.string ((rd_T39 J D).f2)):=AM 2 _ rfl;have Cv:wr.cell? ⟨X,(D:Int).toNat*4+3,none⟩=some (.string ((rd_T39 J D).f3)):=AM 3 _ rfl;have CZ:wr.frozen? ⟨X,(D:Int).toNat*4,none⟩=false:=AN 0;have D0:wr.frozen? ⟨X,(D:Int).toNat*4+1,none⟩=false:=AN 1;have D1:wr.frozen? ⟨X,(D:Int).toNat*4+2,none⟩=false:=AN 2;have D2:wr.frozen? ⟨X,(D:Int).toNat*4+3,none⟩=false:=AN 3
     clear Cl AM AN Cm;replace BZ:=eq_true BZ;replace C0:=eq_true C0;have BK:=aK (show Kd.R k39 39 wr w0.heap.size (fun k_=>(A4 k_∨w.heap.size≤k_)) (.slice (some ⟨X,0,none⟩) J.length Ak) J from(rpR U.o));obtain⟨Df,Bi,BL,B2,Bj⟩:=Kd.R_elem BK.o z39 (D:Int) (dT am) (by have h_:(D:Int)<((J.length:Int):Int):=dT am;first|exact h_|(have e_:=(Kd.R_reads' U.o).1;omega)|simpa using h_);obtain rfl:=k39_openM BL;have Bk:=Kd.R_seg BK.o (D:Int) (dT am) (by have h_:(D:Int)<((J.length:Int):Int):=dT am;first|exact h_|(have e_:=(Kd.R_reads' U.o).1;omega)|simpa using h_) (seg:=[.int .i64 A3]) (j:=0) Bi B2 (show 1≤4 from by decide) (x':=(⟨A3,(rd_T39 J D).f1,(rd_T39 J D).f2,(rd_T39 J D).f3⟩:S39)) (k39_mkM _ _ _ (⟨A3,(rd_T39 J D).f1,(rd_T39 J D).f2,(rd_T39 J D).f3⟩:S39)) (fun _ hk=>hk);have Bz:=B2 0 _ rfl;(try simp only[show(k39).sz=4 from rfl,Nat.mul_one,Nat.add_zero]at Bz);have B_:=Bj 0;(try simp only[show(k39).sz=4 from rfl,Nat.mul_one,Nat.add_zero]at B_);clear Bi B2 Bj BL
     go_wp2_with (first|((with_reducible refine gate_store (t:=3) (p:=16) rfl ?_);refine store_event (t:=3) (p:=16) (v:=?vo_w14) (w1:=(wr.setCell ⟨X,(D:Int).toNat*4,none⟩ (.int .i64 A3))) ?hg ?ho ?hn ?hr ?_;(case ho=>rfl);(case hg=>rfl);(case hn=>rfl);(case hr=>first|(go_simp;done)|(go_simp;rfl));intro Bx hw;have hg:wr.grownBy Bx (some X):=(by rw[hw];exact Bk.2);have hp_:Kd.R k39 39 Bx w0.heap.size (fun k_=>(A4 k_∨w.heap.size≤k_)) (.slice (some ⟨X,0,none⟩) J.length Ak) Y:=(by rw[hw,BV.o];exact Bk.1);clear Bk;replace HB:=aK ((by rw[hw];exact below_set (HB.o) By.o:Below w0.heap.size w0 Bx));replace HK:=aK (Kept.of_grown (S:=(fun k_=>A4 k_)) hg (by repeat (first|(with_reducible first|exact HK.o|apply Kept.alloc|apply Kept.drewN|apply Kept.drew)|exact HK.o)) (fun k_ e_=>(U.out.1 k_ e_)));replace U:=aK (hp_);clear hg hw hp_)|((with_reducible refine gC 81 rfl ?_);refine goesW Tryz.func81 ?_;(with_reducible refine(laws_markText.calls k1 (wrap64 (A3+1)) Al _ A6.o).mono ?_);rintro e Ap ⟨rfl,hb⟩;refine⟨_,rfl,?_⟩;replace U:=rb U hb;replace HK:=aK (Kept.below (S:=(fun k_=>A4 k_)) (by repeat (first|(with_reducible first|exact HK.o|apply Kept.alloc|apply Kept.drewN|apply Kept.drew)|exact HK.o)) hb);replace HB:=bs (w:=w0) hb;(try clear hb);have C1:0≤(D:Int):=dT am;have C2:(D:Int)<((J.length:Int):Int):=dT am;obtain⟨Dt,Cn,Co,AO,AP⟩:=Kd.R_elem U.o z39 (D:Int) C1 C2;obtain rfl:=k39_openM Co;have Cw:Ap.cell? ⟨X,(D:Int).toNat*4,none⟩=some (.int .i64 ((rd_T39 Y D).f0)):=AO 0 _ rfl;have Cx:Ap.cell? ⟨X,(D:Int).toNat*4+1,none⟩=some (.string ((rd_T39 Y D).f1)):=AO 1 _ rfl;have Cy:Ap.cell? ⟨X,(D:Int).toNat*4+2,none⟩=some (.string ((rd_T39 Y D).f2)):=AO 2 _ rfl;have Cz:Ap.cell? ⟨X,(D:Int).toNat*4+3,none⟩=some (.string ((rd_T39 Y D).f3)):=AO 3 _ rfl;have D3:Ap.frozen? ⟨X,(D:Int).toNat*4,none⟩=false:=AP 0;have D4:Ap.frozen? ⟨X,(D:Int).toNat*4+1,none⟩=false:=AP 1;have D5:Ap.frozen? ⟨X,(D:Int).toNat*4+2,none⟩=false:=AP 2;have D6:Ap.frozen? ⟨X,(D:Int).toNat*4+3,none⟩=false:=AP 3;clear Cn AO AP Co;replace C1:=eq_true C1;replace C2:=eq_true C2;have BM:=aK (show Kd.R k39 39 Ap w0.heap.size (fun k_=>(A4 k_∨w.heap.size≤k_)) (.slice (some ⟨X,0,none⟩) J.length Ak) Y from(rpR U.o));obtain⟨Dg,Bl,BN,B3,Bm⟩:=Kd.R_elem BM.o z39 (D:Int) (dT am) (by have h_:(D:Int)<((J.length:Int):Int):=dT am;first|exact h_|(have e_:=(Kd.R_reads' U.o).1;omega)|simpa using h_);obtain rfl:=k39_openM BN;have Bn:=Kd.R_seg BM.o (D:Int) (dT am) (by have h_:(D:Int)<((J.length:Int):Int):=dT am;first|exact h_|(have e_:=(Kd.R_reads' U.o).1;omega)|simpa using h_) (seg:=[.string Al]) (j:=1) Bl B3 (show 2≤4 from by decide) (x':=(⟨(rd_T39 Y D).f0,Al,(rd_T39 Y D).f2,(rd_T39 Y D).f3⟩:S39)) (k39_mkM _ _ _ (⟨(rd_T39 Y D).f0,Al,(rd_T39 Y D).f2,(rd_T39 Y D).f3⟩:S39)) (fun _ hk=>hk);have BA:=B3 1 _ rfl;(try simp only[show(k39).sz=4 from rfl,Nat.mul_one,Nat.add_zero]at BA);have BB:=Bm 1;(try simp only[show(k39).sz=4 from rfl,Nat.mul_one,Nat.add_zero]at BB);clear Bl B3 Bm BN)|((with_reducible refine gate_store (t:=9) (p:=24) rfl ?_);refine store_event (t:=9) (p:=24) (v:=?vo_w17) (w1:=(Ap.setCell ⟨X,(D:Int).toNat*4+1,none⟩ (.string Al))) ?hg ?ho ?hn ?hr ?_;(case ho=>rfl);(case hg=>rfl);(case hn=>rfl);(case hr=>first|(go_simp;done)|(go_simp;rfl));intro C3 hw;have hg:Ap.grownBy C3 (some X):=(by rw[hw];exact Bn.2);have hp_:Kd.R k39 39 C3 w0.heap.size (fun k_=>(A4 k_∨w.heap.size≤k_)) (.slice (some ⟨X,0,none⟩) J.length Ak) Z:=(by rw[hw,BW.o];exact Bn.1);clear Bn;replace HB:=aK ((by rw[hw];exact below_set (HB.o) By.o:Below w0.heap.size w0 C3));replace HK:=aK (Kept.of_grown (S:=(fun k_=>A4 k_)) hg (by repeat (first|(with_reducible first|exact HK.o|apply Kept.alloc|apply Kept.drewN|apply Kept.drew)|exact HK.o)) (fun k_ e_=>(U.out.1 k_ e_)));replace U:=aK (hp_);clear hg hw hp_)|((with_reducible refine gC 81 rfl ?_);refine goesW Tryz.func81 ?_;(with_reducible refine(laws_markText.calls k1 (wrap64 ((wrap64 (A3+1))+1)) Am _ A8.o).mono ?_);rintro e Aq ⟨rfl,hb⟩;refine⟨_,rfl,?_⟩;replace U:=rb U hb;replace HK:=aK (Kept.below (S:=(fun k_=>A4 k_)) (by repeat (first|(with_reducible first|exact HK.o|apply Kept.alloc|apply Kept.drewN|apply Kept.drew)|exact HK.o)) hb);replace HB:=bs (w:=w0) hb;(try clear hb);have C4:0≤(D:Int):=dT am;have C5:(D:Int)<((J.length:Int):Int):=dT am;obtain⟨Du,Cp,Cq,AQ,AR⟩:=Kd.R_elem U.o z39 (D:Int) C4 C5;obtain rfl:=k39_openM Cq;have C_:Aq.cell? ⟨X,(D:Int).toNat*4,none⟩=some (.int .i64 ((rd_T39 Z D).f0)):=AQ 0 _ rfl;have CA:Aq.cell? ⟨X,(D:Int).toNat*4+1,none⟩=some (.string ((rd_T39 Z D).f1)):=AQ 1 _ rfl;have CB:Aq.cell? ⟨X,(D:Int).toNat*4+2,none⟩=some (.string ((rd_T39 Z D).f2)):=AQ 2 _ rfl;have CC:Aq.cell? ⟨X,(D:Int).toNat*4+3,none⟩=some (.string ((rd_T39 Z D).f3)):=AQ 3 _ rfl;have D7:Aq.frozen? ⟨X,(D:Int).toNat*4,none⟩=false:=AR 0;have D8:Aq.frozen? ⟨X,(D:Int).toNat*4+1,none⟩=false:=AR 1;have D9:Aq.frozen? ⟨X,(D:Int).toNat*4+2,none⟩=false:=AR 2;have Da:Aq.frozen? ⟨X,(D:Int).toNat*4+3,none⟩=false:=AR 3;clear Cp AQ AR Cq;replace C4:=eq_true C4;replace C5:=eq_true C5;have BO:=aK (show Kd.R k39 39 Aq w0.heap.size (fun k_=>(A4 k_∨w.heap.size≤k_)) (.slice (some ⟨X,0,none⟩) J.length Ak) Z from(rpR U.o));obtain⟨Dh,Bo,BP,B4,Bp⟩:=Kd.R_elem BO.o z39 (D:Int) (dT am) (by have h_:(D:Int)<((J.length:Int):Int):=dT am;first|exact h_|(have e_:=(Kd.R_reads' U.o).1;omega)|simpa using h_);obtain rfl:=k39_openM BP;have Bq:=Kd.R_seg BO.o (D:Int) (dT am) (by have h_:(D:Int)<((J.length:Int):Int):=dT am;first|exact h_|(have e_:=(Kd.R_reads' U.o).1;omega)|simpa using h_) (seg:=[.string Am]) (j:=2) Bo B4 (show 3≤4 from by decide) (x':=(⟨(rd_T39 Z D).f0,(rd_T39 Z D).f1,Am,(rd_T39 Z D).f3⟩:S39)) (k39_mkM _ _ _ (⟨(rd_T39 Z D).f0,(rd_T39 Z D).f1,Am,(rd_T39 Z D).f3⟩:S39)) (fun _ hk=>hk);have BC:=B4 2 _ rfl;(try simp only[show(k39).sz=4 from rfl,Nat.mul_one,Nat.add_zero]at BC);have BD:=Bp 2;(try simp only[show(k39).sz=4 from rfl,Nat.mul_one,Nat.add_zero]at BD);clear Bo B4 Bp BP)|((with_reducible refine gate_store (t:=9) (p:=32) rfl ?_);refine store_event (t:=9) (p:=32) (v:=?vo_w20) (w1:=(Aq.setCell ⟨X,(D:Int).toNat*4+2,none⟩ (.string Am))) ?hg ?ho ?hn ?hr ?_;(case ho=>rfl);(case hg=>rfl);(case hn=>rfl);(case hr=>first|(go_simp;done)|(go_simp;rfl));intro C6 hw;have hg:Aq.grownBy C6 (some X):=(by rw[hw];exact Bq.2);have hp_:Kd.R k39 39 C6 w0.heap.size (fun k_=>(A4 k_∨w.heap.size≤k_)) (.slice (some ⟨X,0,none⟩) J.length Ak) A2:=(by rw[hw,BX.o];exact Bq.1);clear Bq;replace HB:=aK ((by rw[hw];exact below_set (HB.o) By.o:Below w0.heap.size w0 C6));replace HK:=aK (Kept.of_grown (S:=(fun k_=>A4 k_)) hg (by repeat (first|(with_reducible first|exact HK.o|apply Kept.alloc|apply Kept.drewN|apply Kept.drew)|exact HK.o)) (fun k_ e_=>(U.out.1 k_ e_)));replace U:=aK (hp_);clear hg hw hp_)|((with_reducible refine gC 81 rfl ?_);refine goesW Tryz.func81 ?_;(with_reducible refine(laws_markText.calls k1 (wrap64 ((wrap64 ((wrap64 (A3+1))+1))+1)) An _ CW.o).mono ?_);rintro e Ar ⟨rfl,hb⟩;refine⟨_,rfl,?_⟩;replace U:=rb U hb;replace HK:=aK (Kept.below (S:=(fun k_=>A4 k_)) (by repeat (first|(with_reducible first|exact HK.o|apply Kept.alloc|apply Kept.drewN|apply Kept.drew)|exact HK.o)) hb);replace HB:=bs (w:=w0) hb;(try clear hb);have C7:0≤(D:Int):=dT am;have C8:(D:Int)<((J.length:Int):Int):=dT am;obtain⟨Di,C9,BQ,As,At⟩:=Kd.R_elem U.o z39 (D:Int) C7 C8;obtain rfl:=k39_openM BQ;have CD:Ar.cell? ⟨X,(D:Int).toNat*4,none⟩=some (.int .i64 ((rd_T39 A2 D).f0)):=As 0 _ rfl;have CE:Ar.cell? ⟨X,(D:Int).toNat*4+1,none⟩=some (.string ((rd_T39 A2 D).f1)):=As 1 _ rfl;have CF:Ar.cell? ⟨X,(D:Int).toNat*4+2,none⟩=some (.string ((rd_T39 A2 D).f2)):=As 2 _ rfl;have CG:Ar.cell? ⟨X,(D:Int).toNat*4+3,none⟩=some (.string ((rd_T39 A2 D).f3)):=As 3 _ rfl;have CH:Ar.frozen? ⟨X,(D:Int).toNat*4,none⟩=false:=At 0;have CI:Ar.frozen? ⟨X,(D:Int).toNat*4+1,none⟩=false:=At 1;have CJ:Ar.frozen? ⟨X,(D:Int).toNat*4+2,none⟩=false:=At 2;have CK:Ar.frozen? ⟨X,(D:Int).toNat*4+3,none⟩=false:=At 3;clear C9 As At BQ;replace C7:=eq_true C7;replace C8:=eq_true C8;have BR:=aK (show Kd.R k39 39 Ar w0.heap.size (fun k_=>(A4 k_∨w.heap.size≤k_)) (.slice (some ⟨X,0,none⟩) J.length Ak) A2 from(rpR U.o));obtain⟨Dj,Br,BS,B5,Bs⟩:=Kd.R_elem BR.o z39 (D:Int) (dT am) (by have h_:(D:Int)<((J.length:Int):Int):=dT am;first|exact h_|(have e_:=(Kd.R_reads' U.o).1;omega)|simpa using h_);obtain rfl:=k39_openM BS;have Bt:=Kd.R_seg BR.o (D:Int) (dT am) (by have h_:(D:Int)<((J.length:Int):Int):=dT am;first|exact h_|(have e_:=(Kd.R_reads' U.o).1;omega)|simpa using h_) (seg:=[.string An]) (j:=3) Br B5 (show 4≤4 from by decide) (x':=(⟨(rd_T39 A2 D).f0,(rd_T39 A2 D).f1,(rd_T39 A2 D).f2,An⟩:S39)) (k39_mkM _ _ _ (⟨(rd_T39 A2 D).f0,(rd_T39 A2 D).f1,(rd_T39 A2 D).f2,An⟩:S39)) (fun _ hk=>hk);have BE:=B5 3 _ rfl;(try simp only[show(k39).sz=4 from rfl,Nat.mul_one,Nat.add_zero]at BE);have BF:=Bs 3;(try simp only[show(k39).sz=4 from rfl,Nat.mul_one,Nat.add_zero]at BF);clear Br B5 Bs BS)|((with_reducible refine gate_store (t:=9) (p:=40) rfl ?_);refine store_event (t:=9) (p:=40) (v:=?vo_w23) (w1:=(Ar.setCell ⟨X,(D:Int).toNat*4+3,none⟩ (.string An))) ?hg ?ho ?hn ?hr ?_;(case ho=>rfl);(case hg=>rfl);(case hn=>rfl);(case hr=>first|(go_simp;done)|(go_simp;rfl));intro Ca hw;have hg:Ar.grownBy Ca (some X):=(by rw[hw];exact Bt.2);have hp_:Kd.R k39 39 Ca w0.heap.size (fun k_=>(A4 k_∨w.heap.size≤k_)) (.slice (some ⟨X,0,none⟩) J.length Ak) BH:=(by rw[hw,BY.o];exact Bt.1);clear Bt;replace HB:=aK ((by rw[hw];exact below_set (HB.o) By.o:Below w0.heap.size w0 Ca));replace HK:=aK (Kept.of_grown (S:=(fun k_=>A4 k_)) hg (by repeat (first|(with_reducible first|exact HK.o|apply Kept.alloc|apply Kept.drewN|apply Kept.drew)|exact HK.o)) (fun k_ e_=>(U.out.1 k_ e_)));replace U:=aK (hp_);clear hg hw hp_))
     go_roundg k1
     case measure=>have:=AD.o;omega
     case rel=>exact⟨(BH),(wrap64 ((wrap64 ((wrap64 ((wrap64 (A3+1))+1))+1))+1)),(wrap64 (D+1)),fa,fa,H',⟨by have:=AD.o;omega⟩,⟨rpR U.o⟩,⟨by repeat (first|(with_reducible first|exact HK.o|apply Kept.alloc|apply Kept.drewN|apply Kept.drew)|exact HK.o)⟩,⟨bl⟩⟩
    ·rw[if_neg c4]at H;exact absurd H (by simp)
   ·rw[if_neg c3]at H;have Aa:=df c3;clear c3;simp only[Option.some.injEq,Prod.mk.injEq]at H;obtain⟨rfl,rfl⟩:=H;obtain⟨Cj,Ak,Bh⟩:=rs U;subst Bh;go_wp2
    go_ret
    exact⟨fe,rpR U.o,bl,by repeat (first|(with_reducible first|exact HK.o|apply Kept.alloc|apply Kept.drewN|apply Kept.drew)|exact HK.o)⟩
def laws_szStepS.l0:Nat→List (S28)→Int→Int→Option (Int)
 | 0,_,_,_=>none
 |k+1,x0,x1,x5=>if x5<(x0.length:Int)then(if 0≤x5 then((laws_szStep.f ((rd_T28 x0 x5).f0) ((rd_T28 x0 x5).f1) ((rd_T28 x0 x5).f2) ((rd_T28 x0 x5).f3) x1).bind fun Av=>(if Av<0 then(some (-1))else(laws_szStepS.l0 k x0 Av (wrap64 (x5+1)))))else(none))else(some x1)
def laws_szStepS.f (k:Nat) (l0:List (S28)) (a1:Int):Option (Int):=if(wrap64 (a1-(l0.length:Int)))<0 then(some (-1))else(laws_szStepS.l0 k l0 (wrap64 (a1-(l0.length:Int))) 0)
theorem laws_szStepS.z1 {p:Prop} (h:p:=by
 go_wp2_with (first|((with_reducible refine gC 9 rfl ?_);refine goesW Tryz.func9 ?_;(with_reducible refine(laws_szStep.calls ((rd_T28 l0 D).f0) ((rd_T28 l0 D).f1) ((rd_T28 l0 D).f2) ((rd_T28 l0 D).f3) A3 Av _ A6.o).mono ?_);rintro e CT ⟨rfl,hb⟩;refine⟨_,rfl,?_⟩;replace HB:=bS HB hb;(try clear hb)))
 (first|(have _:=Db;go_ret;exact⟨fe,bl⟩)|(have _:=Dc;(go_roundg k1);(case measure=>have:=AD.o;omega);(case rel=>exact⟨(Av),(wrap64 (D+1)),fa,fa,H',⟨by have:=AD.o;omega⟩,⟨bl⟩⟩)))):p:=h
theorem laws_szStepS.calls (k:Nat) (A0:Option Addr) (c0:Nat) (l0:List (S28)) (a1:Int) (r:Int) (w:World) (Bb:Kd.C k28 w A0 l0.length l0) (Bc:l0.length≤c0) (h:laws_szStepS.f k l0 a1=some r) :
 Calls Tryz.prog 26 #[.slice A0 l0.length c0,.int .i64 a1] w fun e w'=>e = .returned (.int .i64 r)∧Below w.heap.size w w':=by
 have Dk:=Tryz.underlying28;have BU:=aK Bb;have CR:=aK Bc;clear Bb Bc;have HB:=aK (Below.refl w.heap.size w);have H:=h;unfold laws_szStepS.f at H;clear h;by_cases c3:(wrap64 (a1-(l0.length:Int)))<0
 ·rw[if_pos c3]at H;have Aa:=dt c3;clear c3;obtain rfl:=oj H
  go_enter Tryz.func26,Tryz.ntmps26
  go_wp2
  go_ret
  exact⟨fe,bl⟩
 ·rw[if_neg c3]at H;have Aa:=df c3;clear c3;have H':=aK H;clear H
  go_enter Tryz.func26,Tryz.ntmps26
  go_wp2
  go_loopg [1,5] k (fun kq v1 v5 w'=>∃(A3:Int) (D:Int),v1 = .int .i64 A3∧v5 = .int .i64 D∧Aside0 (laws_szStepS.l0 kq l0 A3 D=some r)∧Aside0 (kq≤k)∧Aside0 (Below w.heap.size w w'))
  case atStart=>exact⟨(wrap64 (a1-(l0.length:Int))),(0),fa,fa,H',⟨Nat.le_refl _⟩,⟨bl⟩⟩
  case round=>
   clear H';(try clear c2);(try clear p2);(try clear c3);(try clear Aa);obtain⟨A3,D,rfl,rfl,HA,AD,HB⟩:=hrel;cases gk with
   |zero=>exact absurd HA.o (by simp[laws_szStepS.l0])
   |succ k1=>
    have H:=HA.o;clear HA;simp only[laws_szStepS.l0]at H;by_cases c4:D<(l0.length:Int)
    ·rw[if_pos c4]at H;have Au:=dt c4;clear c4;by_cases c5:0≤D
     ·rw[if_pos c5]at H;have B8:=dt c5;clear c5;obtain⟨Av,A6,H⟩:=bd H;have Hq_:=aK H;clear H;have Bu:0≤(D:Int):=dT am;have Bv:D<(l0.length:Int):=dT am;obtain⟨Dd,Cr,AS,AT,AU,AV⟩:=at_T28 BU.o D Bu Bv;cases Cr;replace AS:=cz HB AS;replace AT:=cz HB AT;replace AU:=cz HB AU;replace AV:=cz HB AV;replace Bu:=eq_true Bu;replace Bv:=eq_true Bv;have H:=Hq_.o;clear Hq_;by_cases c7:Av<0
      ·rw[if_pos c7]at H;have Bw:=dt c7;(try rw[Bw]);clear c7;obtain rfl:=oj H;have Db:=trivial;exact laws_szStepS.z1
      ·rw[if_neg c7]at H;have Bw:=df c7;(try rw[Bw]);clear c7;have H':=aK H;clear H;have Dc:=trivial;exact laws_szStepS.z1
     ·rw[if_neg c5]at H;exact absurd H (by simp)
    ·rw[if_neg c4]at H;have Au:=df c4;clear c4;obtain rfl:=oj H;go_wp2
     go_ret
     exact⟨fe,bl⟩
def spec_l1In.f (a0:Int) (a1:Int) (a2:Int):Option (Bool):=if a0≥a1 then(some (decide (a0≤a2)))else(some false)
theorem spec_l1In.calls (a0:Int) (a1:Int) (a2:Int) (r:Bool) (w:World) (h:spec_l1In.f a0 a1 a2=some r) :
 Calls Tryz.prog 99 #[.int .i64 a0,.int .i64 a1,.int .i64 a2] w fun e w'=>e = .returned (.bool r)∧Drawn0 w w':=by
 have H:=h;unfold spec_l1In.f at H;clear h;by_cases c4:a0≥a1
 ·rw[if_pos c4]at H;have Az:=dt c4;clear c4;obtain rfl:=oj H
  go_enter Tryz.func99,Tryz.ntmps99
  go_wp2
  go_ret
  exact⟨fa,fd⟩
 ·rw[if_neg c4]at H;have Az:=df c4;clear c4;obtain rfl:=oj H
  go_enter Tryz.func99,Tryz.ntmps99
  go_wp2
  go_ret
  exact⟨fa,fd⟩
def spec_l4Bytes.l0:Nat→Int→Int→Int→Int→List (S130)→List (S133)→List (S135)→Option (Int)
 | 0,_,_,_,_,_,_,_=>none
 |k+1,x3,x4,BM,BN,AK,BO,BP=>if x4<(AK.length:Int)then(if 0≤x4 then(spec_l4Bytes.l0 k (wrap64 (x3+(((rd_T130 AK x4).f1).size:Int))) (wrap64 (x4+1)) BM BN AK BO BP)else(none))else(some x3)
def spec_l4Bytes.f (k:Nat) (Aq:Int) (Ar:Int) (A9:List (S130)) (Ab:List (S133)) (Ac:List (S135)):Option (Int):=spec_l4Bytes.l0 k 0 0 Aq Ar A9 Ab Ac
theorem spec_l4Bytes.calls (k:Nat) (Aq:Int) (Ar:Int) (AL:Option Addr) (AM:Nat) (A9:List (S130)) (AN:Option Addr) (AO:Nat) (Ab:List (S133)) (AP:Option Addr) (AQ:Nat) (Ac:List (S135)) (r:Int) (w:World) (AR:Kd.C k130 w AL A9.length A9) (AS:A9.length≤AM) (AT:Kd.C k133 w AN Ab.length Ab) (AU:Ab.length≤AO) (AV:Kd.C k135 w AP Ac.length Ac) (AW:Ac.length≤AQ) (h:spec_l4Bytes.f k Aq Ar A9 Ab Ac=some r) :
 Calls Tryz.prog 100 #[.agg #[.int .i64 Aq,.int .i64 Ar,.slice AL A9.length AM,.slice AN Ab.length AO,.slice AP Ac.length AQ]] w fun e w'=>e = .returned (.int .i64 r)∧Below w.heap.size w w':=by
 have CB:=Tryz.underlying35;have Bh:=aK AR;have Co:=aK AS;clear AR AS;have Cp:=aK AT;have Cq:=aK AU;clear AT AU;have Cr:=aK AV;have Cs:=aK AW;clear AV AW;have HB:=aK (Below.refl w.heap.size w);have H:=h;unfold spec_l4Bytes.f at H;clear h;have H':=aK H;clear H
 go_enter Tryz.func100,Tryz.ntmps100
 go_wp2_with (first|((with_reducible refine gD 1 rfl ?_);refine boxW ?_;intro Ct hg w2 hbox hb;have AX:=aK hbox;have D3:=gW HB hg;replace HB:=bS HB hb;clear hb hbox hg))
 go_loopg [3,4] k (fun kq v3 v4 w'=>∃(A6:Int) (Aw:Int),v3 = .int .i64 A6∧v4 = .int .i64 Aw∧Aside0 (spec_l4Bytes.l0 kq A6 Aw Aq Ar A9 Ab Ac=some r)∧Aside0 (kq≤k)∧Aside0 (w'.heap[Ct]? = some (.cells #[.int .i64 Aq,.int .i64 Ar,(.slice AL A9.length AM),(.slice AN Ab.length AO),(.slice AP Ac.length AQ)] 35 (0,0)))∧Aside0 (Below w.heap.size w w'))
 case atStart=>exact⟨(0),(0),fa,fa,H',⟨Nat.le_refl _⟩,⟨bw AX⟩,⟨bl⟩⟩
 case round=>
  clear H';(try clear c1);(try clear p2);obtain⟨A6,Aw,rfl,rfl,HA,A7,AX,HB⟩:=hrel;cases gk with
  |zero=>exact absurd HA.o (by simp[spec_l4Bytes.l0])
  |succ k1=>
   have H:=HA.o;clear HA;simp only[spec_l4Bytes.l0]at H;by_cases c3:Aw<(A9.length:Int)
   ·rw[if_pos c3]at H;have AY:=dt c3;clear c3;by_cases c4:0≤Aw
    ·rw[if_pos c4]at H;have Az:=dt c4;clear c4;have H':=aK H;clear H;have:=cf5 AX;have Aj:0≤(Aw:Int):=dT am;have Ak:Aw<(A9.length:Int):=dT am;obtain⟨Ap,AC,Am,An,BI⟩:=at_T130 Bh.o Aw Aj Ak;cases AC;replace Am:=cz HB Am;replace An:=cz HB An;replace BI:=cz HB BI;replace Aj:=eq_true Aj;replace Ak:=eq_true Ak;go_wp2
     go_roundg k1
     case measure=>have:=A7.o;omega
     case rel=>exact⟨(wrap64 (A6+(((rd_T130 A9 Aw).f1).size:Int))),(wrap64 (Aw+1)),fa,fa,H',⟨by have:=A7.o;omega⟩,⟨bw AX⟩,⟨bl⟩⟩
    ·rw[if_neg c4]at H;exact absurd H (by simp)
   ·rw[if_neg c3]at H;have AY:=df c3;clear c3;obtain rfl:=oj H;have:=cf5 AX;go_wp2
    go_ret
    exact⟨fe,bl⟩
def spec_l4Linked.l0:Nat→List (S133)→Int→Int→Option (Bool)
 | 0,_,_,_=>none
 |k+1,x0,x1,x5=>if x5<(x0.length:Int)then(if 0≤x5 then(if((rd_T133 x0 x5).f1)=x1 then(some true)else(spec_l4Linked.l0 k x0 x1 (wrap64 (x5+1))))else(none))else(some false)
def spec_l4Linked.f (k:Nat) (l0:List (S133)) (a1:Int):Option (Bool):=spec_l4Linked.l0 k l0 a1 0
theorem spec_l4Linked.calls (k:Nat) (A0:Option Addr) (c0:Nat) (l0:List (S133)) (a1:Int) (r:Bool) (w:World) (A_:Kd.C k133 w A0 l0.length l0) (AA:l0.length≤c0) (h:spec_l4Linked.f k l0 a1=some r) :
 Calls Tryz.prog 101 #[.slice A0 l0.length c0,.int .i64 a1] w fun e w'=>e = .returned (.bool r)∧Drawn0 w w':=by
 have AD:=aK A_;have Bi:=aK AA;clear A_ AA;have H:=h;unfold spec_l4Linked.f at H;clear h;have H':=aK H;clear H
 go_enter Tryz.func101,Tryz.ntmps101
 go_wp2
 go_loopg [5] k (fun kq v5 w'=>∃(X:Int),v5 = .int .i64 X∧Aside0 (spec_l4Linked.l0 kq l0 a1 X=some r)∧Aside0 (kq≤k)∧Drawn0 w w')
 case atStart=>exact⟨(0),fa,H',⟨Nat.le_refl _⟩,fd⟩
 case round=>
  clear H';(try clear c1);(try clear p2);obtain⟨X,rfl,HA,A7,⟨m1,rfl⟩⟩:=hrel;cases gk with
  |zero=>exact absurd HA.o (by simp[spec_l4Linked.l0])
  |succ k1=>
   have H:=HA.o;clear HA;simp only[spec_l4Linked.l0]at H;by_cases c3:X<(l0.length:Int)
   ·rw[if_pos c3]at H;have AY:=dt c3;clear c3;by_cases c4:0≤X
    ·rw[if_pos c4]at H;have Az:=dt c4;clear c4;have Hq_:=aK H;clear H;have BQ:0≤(X:Int):=dT am;have BR:X<(l0.length:Int):=dT am;obtain⟨D4,CC,CD,CE⟩:=at_T133 AD.o X BQ BR;cases CC;replace BQ:=eq_true BQ;replace BR:=eq_true BR;have H:=Hq_.o;clear Hq_;by_cases c5:((rd_T133 l0 X).f1)=a1
     ·rw[if_pos c5]at H;have Ao:=bT c5;(try rw[Ao]);have At:=bE c5;(try rw[At]);clear c5;obtain rfl:=oj H;go_wp2
      go_ret
      exact⟨fa,fd⟩
     ·rw[if_neg c5]at H;have Ao:=bN c5;(try rw[Ao]);have At:=bQ c5;(try rw[At]);have H':=aK H;clear H;go_wp2
      go_roundg k1
      case measure=>have:=A7.o;omega
      case rel=>exact⟨(wrap64 (X+1)),fa,H',⟨by have:=A7.o;omega⟩,fd⟩
    ·rw[if_neg c4]at H;exact absurd H (by simp)
   ·rw[if_neg c3]at H;have AY:=df c3;clear c3;obtain rfl:=oj H;go_wp2
    go_ret
    exact⟨fa,fd⟩
def spec_l4Made.l0:Nat→List (S135)→Int→Int→Option (Bool)
 | 0,_,_,_=>none
 |k+1,x0,x1,x5=>if x5<(x0.length:Int)then(if 0≤x5 then(if((rd_T135 x0 x5).f0)=1 then(if((rd_T135 x0 x5).f3)=x1 then(some true)else(spec_l4Made.l0 k x0 x1 (wrap64 (x5+1))))else(spec_l4Made.l0 k x0 x1 (wrap64 (x5+1))))else(none))else(some false)
def spec_l4Made.f (k:Nat) (l0:List (S135)) (a1:Int):Option (Bool):=spec_l4Made.l0 k l0 a1 0
theorem spec_l4Made.calls (k:Nat) (A0:Option Addr) (c0:Nat) (l0:List (S135)) (a1:Int) (r:Bool) (w:World) (A_:Kd.C k135 w A0 l0.length l0) (AA:l0.length≤c0) (h:spec_l4Made.f k l0 a1=some r) :
 Calls Tryz.prog 102 #[.slice A0 l0.length c0,.int .i64 a1] w fun e w'=>e = .returned (.bool r)∧Drawn0 w w':=by
 have AD:=aK A_;have Bi:=aK AA;clear A_ AA;have H:=h;unfold spec_l4Made.f at H;clear h;have H':=aK H;clear H
 go_enter Tryz.func102,Tryz.ntmps102
 go_wp2
 go_loopg [5] k (fun kq v5 w'=>∃(X:Int),v5 = .int .i64 X∧Aside0 (spec_l4Made.l0 kq l0 a1 X=some r)∧Aside0 (kq≤k)∧Drawn0 w w')
 case atStart=>exact⟨(0),fa,H',⟨Nat.le_refl _⟩,fd⟩
 case round=>
  clear H';(try clear c1);(try clear p2);obtain⟨X,rfl,HA,A7,⟨m1,rfl⟩⟩:=hrel;cases gk with
  |zero=>exact absurd HA.o (by simp[spec_l4Made.l0])
  |succ k1=>
   have H:=HA.o;clear HA;simp only[spec_l4Made.l0]at H;by_cases c3:X<(l0.length:Int)
   ·rw[if_pos c3]at H;have AY:=dt c3;clear c3;by_cases c4:0≤X
    ·rw[if_pos c4]at H;have Az:=dt c4;clear c4;have Hq_:=aK H;clear H;have BS:0≤(X:Int):=dT am;have BT:X<(l0.length:Int):=dT am;obtain⟨Cu,CF,CG,CH,CI,CJ⟩:=at_T135 AD.o X BS BT;cases CF;replace BS:=eq_true BS;replace BT:=eq_true BT;have H:=Hq_.o;clear Hq_;by_cases c5:((rd_T135 l0 X).f0)=1
     ·rw[if_pos c5]at H;have Ao:=bT c5;(try rw[Ao]);have At:=bE c5;(try rw[At]);clear c5;have Hq_:=aK H;clear H;have BU:0≤(X:Int):=dT am;have BV:X<(l0.length:Int):=dT am;obtain⟨Cv,CK,CL,CM,CN,CO⟩:=at_T135 AD.o X BU BV;obtain rfl:Cu=Cv:=(by injection CK);replace BU:=eq_true BU;replace BV:=eq_true BV;have H:=Hq_.o;clear Hq_;by_cases c6:((rd_T135 l0 X).f3)=a1
      ·rw[if_pos c6]at H;have AF:=bT c6;(try rw[AF]);have AZ:=bE c6;(try rw[AZ]);clear c6;obtain rfl:=oj H;go_wp2
       go_ret
       exact⟨fa,fd⟩
      ·rw[if_neg c6]at H;have AF:=bN c6;(try rw[AF]);have AZ:=bQ c6;(try rw[AZ]);have H':=aK H;clear H;go_wp2
       go_roundg k1
       case measure=>have:=A7.o;omega
       case rel=>exact⟨(wrap64 (X+1)),fa,H',⟨by have:=A7.o;omega⟩,fd⟩
     ·rw[if_neg c5]at H;have Ao:=bN c5;(try rw[Ao]);have At:=bQ c5;(try rw[At]);have H':=aK H;clear H;go_wp2
      go_roundg k1
      case measure=>have:=A7.o;omega
      case rel=>exact⟨(wrap64 (X+1)),fa,H',⟨by have:=A7.o;omega⟩,fd⟩
    ·rw[if_neg c4]at H;exact absurd H (by simp)
   ·rw[if_neg c3]at H;have AY:=df c3;clear c3;obtain rfl:=oj H;go_wp2
    go_ret
    exact⟨fa,fd⟩
def spec_l4Name.l0:Nat→ByteArray→Int→Option (Bool)
 | 0,_,_=>none
 |k+1,x0,x3=>if x3<(x0.size:Int)then(if 0≤x3 then(if(bt x0 x3)≥97 then(if(bt x0 x3)≤122 then(spec_l4Name.l0 k x0 (wrap64 (x3+1)))else(if(bt x0 x3)≥48 then(if(bt x0 x3)≤57 then(spec_l4Name.l0 k x0 (wrap64 (x3+1)))else(if((bt x0 x3)=46)then(spec_l4Name.l0 k x0 (wrap64 (x3+1)))else(some false)))else(if((bt x0 x3)=46)then(spec_l4Name.l0 k x0 (wrap64 (x3+1)))else(some false))))else(if(bt x0 x3)≥48 then(if(bt x0 x3)≤57 then(spec_l4Name.l0 k x0 (wrap64 (x3+1)))else(if((bt x0 x3)=46)then(spec_l4Name.l0 k x0 (wrap64 (x3+1)))else(some false)))else(if((bt x0 x3)=46)then(spec_l4Name.l0 k x0 (wrap64 (x3+1)))else(some false))))else(none))else(some true)
def spec_l4Name.f (k:Nat) (a0:ByteArray):Option (Bool):=(spec_l1In.f (a0.size:Int) 1 12).bind fun BW=>(if BW=true then(spec_l4Name.l0 k a0 0)else(some false))
theorem spec_l4Name.calls (k:Nat) (a0:ByteArray) (r:Bool) (w:World) (h:spec_l4Name.f k a0=some r) :
 Calls Tryz.prog 103 #[.string a0] w fun e w'=>e = .returned (.bool r)∧Drawn0 w w':=by
 have H:=h;unfold spec_l4Name.f at H;clear h;obtain⟨BW,A2,H⟩:=bd H;by_cases c3:BW=true
 ·subst c3;replace H:=iT H;have H':=aK H;clear H
  go_enter Tryz.func103,Tryz.ntmps103
  go_wp2_with (first|((with_reducible refine gC 99 rfl ?_);refine goesW Tryz.func99 ?_;(with_reducible refine(spec_l1In.calls (a0.size:Int) 1 12 _ _ A2.o).mono ?_);rintro e w' ⟨rfl,⟨nd,rfl⟩⟩;refine⟨_,rfl,?_⟩))
  go_loopg [3] k (fun kq v3 w'=>∃(A6:Int),v3 = .int .i64 A6∧Aside0 (spec_l4Name.l0 kq a0 A6=some r)∧Aside0 (kq≤k)∧Drawn0 w w')
  case atStart=>exact⟨(0),fa,H',⟨Nat.le_refl _⟩,fd⟩
  case round=>
   clear H';(try clear c1);(try clear p2);(try clear c3);obtain⟨A6,rfl,HA,A7,⟨m1,rfl⟩⟩:=hrel;cases gk with
   |zero=>exact absurd HA.o (by simp[spec_l4Name.l0])
   |succ k1=>
    have H:=HA.o;clear HA;simp only[spec_l4Name.l0]at H;by_cases c4:A6<(a0.size:Int)
    ·rw[if_pos c4]at H;have Az:=dt c4;clear c4;by_cases c5:0≤A6
     ·rw[if_pos c5]at H;have Ao:=dt c5;clear c5;have Hq_:=aK H;clear H;have p6:0≤(A6:Int):=dT am;have q6:A6<(a0.size:Int):=dT am;have Db:=bt_at a0 A6;replace p6:=eq_true p6;replace q6:=eq_true q6;have H:=Hq_.o;clear Hq_;by_cases c7:(bt a0 A6)≥97
      ·rw[if_pos c7]at H;have B0:=dt c7;(try rw[B0]);clear c7;by_cases c8:(bt a0 A6)≤122
       ·rw[if_pos c8]at H;have BX:=dt c8;(try rw[BX]);clear c8;have H':=aK H;clear H;go_wp2
        go_roundg k1
        case measure=>have:=A7.o;omega
        case rel=>exact⟨(wrap64 (A6+1)),fa,H',⟨by have:=A7.o;omega⟩,fd⟩
       ·rw[if_neg c8]at H;have BX:=df c8;(try rw[BX]);clear c8;by_cases c9:(bt a0 A6)≥48
        ·rw[if_pos c9]at H;have Bb:=dt c9;(try rw[Bb]);clear c9;by_cases c10:(bt a0 A6)≤57
         ·rw[if_pos c10]at H;have Bj:=dt c10;(try rw[Bj]);clear c10;have H':=aK H;clear H;go_wp2
          go_roundg k1
          case measure=>have:=A7.o;omega
          case rel=>exact⟨(wrap64 (A6+1)),fa,H',⟨by have:=A7.o;omega⟩,fd⟩
         ·rw[if_neg c10]at H;have Bj:=df c10;(try rw[Bj]);clear c10;by_cases AH:((bt a0 A6)=46)
          ·rw[if_pos AH]at H;have B9:=bT AH;(try rw[B9]);have Bk:=bE AH;(try rw[Bk]);clear AH;have H':=aK H;clear H;go_wp2
           go_roundg k1
           case measure=>have:=A7.o;omega
           case rel=>exact⟨(wrap64 (A6+1)),fa,H',⟨by have:=A7.o;omega⟩,fd⟩
          ·rw[if_neg AH]at H;have B9:=bN AH;(try rw[B9]);have Bk:=bQ AH;(try rw[Bk]);obtain rfl:=oj H;go_wp2
           go_ret
           exact⟨fa,fd⟩
        ·rw[if_neg c9]at H;have Bb:=df c9;(try rw[Bb]);clear c9;by_cases AI:((bt a0 A6)=46)
         ·rw[if_pos AI]at H;have Bl:=bT AI;(try rw[Bl]);have Bm:=bE AI;(try rw[Bm]);clear AI;have H':=aK H;clear H;go_wp2
          go_roundg k1
          case measure=>have:=A7.o;omega
          case rel=>exact⟨(wrap64 (A6+1)),fa,H',⟨by have:=A7.o;omega⟩,fd⟩
         ·rw[if_neg AI]at H;have Bl:=bN AI;(try rw[Bl]);have Bm:=bQ AI;(try rw[Bm]);obtain rfl:=oj H;go_wp2
          go_ret
          exact⟨fa,fd⟩
      ·rw[if_neg c7]at H;have B0:=df c7;(try rw[B0]);clear c7;by_cases BK:(bt a0 A6)≥48
       ·rw[if_pos BK]at H;have Bn:=dt BK;(try rw[Bn]);clear BK;by_cases BL:(bt a0 A6)≤57
        ·rw[if_pos BL]at H;have Bo:=dt BL;(try rw[Bo]);clear BL;have H':=aK H;clear H;go_wp2
         go_roundg k1
         case measure=>have:=A7.o;omega
         case rel=>exact⟨(wrap64 (A6+1)),fa,H',⟨by have:=A7.o;omega⟩,fd⟩
        ·rw[if_neg BL]at H;have Bo:=df BL;(try rw[Bo]);clear BL;by_cases AJ:((bt a0 A6)=46)
         ·rw[if_pos AJ]at H;have Ba:=bT AJ;(try rw[Ba]);have Bp:=bE AJ;(try rw[Bp]);clear AJ;have H':=aK H;clear H;go_wp2
          go_roundg k1
          case measure=>have:=A7.o;omega
          case rel=>exact⟨(wrap64 (A6+1)),fa,H',⟨by have:=A7.o;omega⟩,fd⟩
         ·rw[if_neg AJ]at H;have Ba:=bN AJ;(try rw[Ba]);have Bp:=bQ AJ;(try rw[Bp]);obtain rfl:=oj H;go_wp2
          go_ret
          exact⟨fa,fd⟩
       ·rw[if_neg BK]at H;have Bn:=df BK;(try rw[Bn]);clear BK;by_cases AB:((bt a0 A6)=46)
        ·rw[if_pos AB]at H;have Ax:=bT AB;(try rw[Ax]);have Bq:=bE AB;(try rw[Bq]);clear AB;have H':=aK H;clear H;go_wp2
         go_roundg k1
         case measure=>have:=A7.o;omega
         case rel=>exact⟨(wrap64 (A6+1)),fa,H',⟨by have:=A7.o;omega⟩,fd⟩
        ·rw[if_neg AB]at H;have Ax:=bN AB;(try rw[Ax]);have Bq:=bQ AB;(try rw[Bq]);obtain rfl:=oj H;go_wp2
         go_ret
         exact⟨fa,fd⟩
     ·rw[if_neg c5]at H;exact absurd H (by simp)
    ·rw[if_neg c4]at H;have Az:=df c4;clear c4;obtain rfl:=oj H;go_wp2
     go_ret
     exact⟨fa,fd⟩
 ·replace c3:=bF c3;subst c3;replace H:=iF H;obtain rfl:=oj H
  go_enter Tryz.func103,Tryz.ntmps103
  go_wp2_with (first|((with_reducible refine gC 99 rfl ?_);refine goesW Tryz.func99 ?_;(with_reducible refine(spec_l1In.calls (a0.size:Int) 1 12 _ _ A2.o).mono ?_);rintro e w' ⟨rfl,⟨nd,rfl⟩⟩;refine⟨_,rfl,?_⟩))
  go_ret
  exact⟨fa,fd⟩
def spec_l4Inode.l0:Nat→Int→Int→Int→Int→List (S130)→List (S133)→List (S135)→Option (Int)
 | 0,_,_,_,_,_,_,_=>none
 |k+1,x1,x5,BY,BZ,B1,C0,C1=>if x5<(B1.length:Int)then(if 0≤x5 then(if((rd_T130 B1 x5).f0)=x1 then(some x5)else(spec_l4Inode.l0 k x1 (wrap64 (x5+1)) BY BZ B1 C0 C1))else(none))else(some (-1))
def spec_l4Inode.f (k:Nat) (Aq:Int) (Ar:Int) (A9:List (S130)) (Ab:List (S133)) (Ac:List (S135)) (a1:Int):Option (Int):=spec_l4Inode.l0 k a1 0 Aq Ar A9 Ab Ac
theorem spec_l4Inode.calls (k:Nat) (Aq:Int) (Ar:Int) (AL:Option Addr) (AM:Nat) (A9:List (S130)) (AN:Option Addr) (AO:Nat) (Ab:List (S133)) (AP:Option Addr) (AQ:Nat) (Ac:List (S135)) (a1:Int) (r:Int) (w:World) (AR:Kd.C k130 w AL A9.length A9) (AS:A9.length≤AM) (AT:Kd.C k133 w AN Ab.length Ab) (AU:Ab.length≤AO) (AV:Kd.C k135 w AP Ac.length Ac) (AW:Ac.length≤AQ) (h:spec_l4Inode.f k Aq Ar A9 Ab Ac a1=some r) :
 Calls Tryz.prog 104 #[.agg #[.int .i64 Aq,.int .i64 Ar,.slice AL A9.length AM,.slice AN Ab.length AO,.slice AP Ac.length AQ],.int .i64 a1] w fun e w'=>e = .returned (.int .i64 r)∧Below w.heap.size w w':=by
 have CB:=Tryz.underlying35;have Bh:=aK AR;have Co:=aK AS;clear AR AS;have Cp:=aK AT;have Cq:=aK AU;clear AT AU;have Cr:=aK AV;have Cs:=aK AW;clear AV AW;have HB:=aK (Below.refl w.heap.size w);have H:=h;unfold spec_l4Inode.f at H;clear h;have H':=aK H;clear H
 go_enter Tryz.func104,Tryz.ntmps104
 go_wp2_with (first|((with_reducible refine gD 2 rfl ?_);refine boxW ?_;intro Cw hg w3 hbox hb;have B2:=aK hbox;have D5:=gW HB hg;replace HB:=bS HB hb;clear hb hbox hg))
 go_loopg [5] k (fun kq v5 w'=>∃(X:Int),v5 = .int .i64 X∧Aside0 (spec_l4Inode.l0 kq a1 X Aq Ar A9 Ab Ac=some r)∧Aside0 (kq≤k)∧Aside0 (w'.heap[Cw]? = some (.cells #[.int .i64 Aq,.int .i64 Ar,(.slice AL A9.length AM),(.slice AN Ab.length AO),(.slice AP Ac.length AQ)] 35 (0,0)))∧Aside0 (Below w.heap.size w w'))
 case atStart=>exact⟨(0),fa,H',⟨Nat.le_refl _⟩,⟨bw B2⟩,⟨bl⟩⟩
 case round=>
  clear H';(try clear c1);(try clear p2);obtain⟨X,rfl,HA,A7,B2,HB⟩:=hrel;cases gk with
  |zero=>exact absurd HA.o (by simp[spec_l4Inode.l0])
  |succ k1=>
   have H:=HA.o;clear HA;simp only[spec_l4Inode.l0]at H;by_cases c4:X<(A9.length:Int)
   ·rw[if_pos c4]at H;have Az:=dt c4;clear c4;by_cases c5:0≤X
    ·rw[if_pos c5]at H;have Ao:=dt c5;clear c5;have Hq_:=aK H;clear H;have:=cf5 B2;have C2:0≤(X:Int):=dT am;have C3:X<(A9.length:Int):=dT am;obtain⟨D6,CP,Bc,Bd,Be⟩:=at_T130 Bh.o X C2 C3;cases CP;replace Bc:=cz HB Bc;replace Bd:=cz HB Bd;replace Be:=cz HB Be;replace C2:=eq_true C2;replace C3:=eq_true C3;have H:=Hq_.o;clear Hq_;by_cases c6:((rd_T130 A9 X).f0)=a1
     ·rw[if_pos c6]at H;have AF:=bT c6;(try rw[AF]);have AZ:=bE c6;(try rw[AZ]);clear c6;obtain rfl:=oj H;go_wp2
      go_ret
      exact⟨fe,bl⟩
     ·rw[if_neg c6]at H;have AF:=bN c6;(try rw[AF]);have AZ:=bQ c6;(try rw[AZ]);have H':=aK H;clear H;go_wp2
      go_roundg k1
      case measure=>have:=A7.o;omega
      case rel=>exact⟨(wrap64 (X+1)),fa,H',⟨by have:=A7.o;omega⟩,⟨bw B2⟩,⟨bl⟩⟩
    ·rw[if_neg c5]at H;exact absurd H (by simp)
   ·rw[if_neg c4]at H;have Az:=df c4;clear c4;obtain rfl:=oj H;have:=cf5 B2;go_wp2
    go_ret
    exact⟨fe,bl⟩
def spec_l4At.l0:Nat→List (S133)→ByteArray→Int→Option (Int)
 | 0,_,_,_=>none
 |k+1,x0,x1,x5=>if x5<(x0.length:Int)then(if 0≤x5 then(if((rd_T133 x0 x5).f0).toList=x1.toList then(some x5)else(spec_l4At.l0 k x0 x1 (wrap64 (x5+1))))else(none))else(some (-1))
def spec_l4At.f (k:Nat) (l0:List (S133)) (a1:ByteArray):Option (Int):=spec_l4At.l0 k l0 a1 0
theorem spec_l4At.calls (k:Nat) (A0:Option Addr) (c0:Nat) (l0:List (S133)) (a1:ByteArray) (r:Int) (w:World) (A_:Kd.C k133 w A0 l0.length l0) (AA:l0.length≤c0) (h:spec_l4At.f k l0 a1=some r) :
 Calls Tryz.prog 160 #[.slice A0 l0.length c0,.string a1] w fun e w'=>e = .returned (.int .i64 r)∧Drawn0 w w':=by
 have AD:=aK A_;have Bi:=aK AA;clear A_ AA;have H:=h;unfold spec_l4At.f at H;clear h;have H':=aK H;clear H
 go_enter Tryz.func160,Tryz.ntmps160
 go_wp2
 go_loopg [5] k (fun kq v5 w'=>∃(X:Int),v5 = .int .i64 X∧Aside0 (spec_l4At.l0 kq l0 a1 X=some r)∧Aside0 (kq≤k)∧Drawn0 w w')
 case atStart=>exact⟨(0),fa,H',⟨Nat.le_refl _⟩,fd⟩
 case round=>
  clear H';(try clear c1);(try clear p2);obtain⟨X,rfl,HA,A7,⟨m1,rfl⟩⟩:=hrel;cases gk with
  |zero=>exact absurd HA.o (by simp[spec_l4At.l0])
  |succ k1=>
   have H:=HA.o;clear HA;simp only[spec_l4At.l0]at H;by_cases c3:X<(l0.length:Int)
   ·rw[if_pos c3]at H;have AY:=dt c3;clear c3;by_cases c4:0≤X
    ·rw[if_pos c4]at H;have Az:=dt c4;clear c4;have Hq_:=aK H;clear H;have C4:0≤(X:Int):=dT am;have C5:X<(l0.length:Int):=dT am;obtain⟨D7,CQ,CR,CS⟩:=at_T133 AD.o X C4 C5;cases CQ;replace C4:=eq_true C4;replace C5:=eq_true C5;have H:=Hq_.o;clear Hq_;by_cases c5:((rd_T133 l0 X).f0).toList=a1.toList
     ·rw[if_pos c5]at H;have Ao:=bT c5;(try rw[Ao]);have At:=bE c5;(try rw[At]);clear c5;obtain rfl:=oj H;go_wp2
      go_ret
      exact⟨fa,fd⟩
     ·rw[if_neg c5]at H;have Ao:=bN c5;(try rw[Ao]);have At:=bQ c5;(try rw[At]);have H':=aK H;clear H;go_wp2
      go_roundg k1
      case measure=>have:=A7.o;omega
      case rel=>exact⟨(wrap64 (X+1)),fa,H',⟨by have:=A7.o;omega⟩,fd⟩
    ·rw[if_neg c4]at H;exact absurd H (by simp)
   ·rw[if_neg c3]at H;have AY:=df c3;clear c3;obtain rfl:=oj H;go_wp2
    go_ret
    exact⟨fa,fd⟩
def spec_l4Without.l0:Nat→List (S133)→ByteArray→List (S133)→Int→Option ((List (S133)))
 | 0,_,_,_,_=>none
 |k+1,x0,x1,x5,x6=>if x6<(x0.length:Int)then(if 0≤x6 then(if((rd_T133 x0 x6).f0).toList=x1.toList then(spec_l4Without.l0 k x0 x1 x5 (wrap64 (x6+1)))else(if x5.length<5864062014805 then(spec_l4Without.l0 k x0 x1 (x5 ++ [(⟨(rd_T133 x0 x6).f0,(rd_T133 x0 x6).f1⟩:S133)]) (wrap64 (x6+1)))else(none)))else(none))else(some x5)
def spec_l4Without.f (k:Nat) (l0:List (S133)) (a1:ByteArray):Option ((List (S133))):=spec_l4Without.l0 k l0 a1 (([]:List (S133))) 0
theorem spec_l4Without.calls (k:Nat) (A0:Option Addr) (c0:Nat) (l0:List (S133)) (a1:ByteArray) (r:List (S133)) (w:World) (A_:Kd.C k133 w A0 l0.length l0) (AA:l0.length≤c0) (h:spec_l4Without.f k l0 a1=some r) :
 Calls Tryz.prog 162 #[.slice A0 l0.length c0,.string a1] w fun e w'=>∃C6:Value,e = .returned (C6)∧Kd.R k133 133 w' w.heap.size (fun _=>True) C6 r∧Below w.heap.size w w':=by
 have Cx:=Tryz.underlying133;have AD:=aK A_;have Bi:=aK AA;clear A_ AA;have HB:=aK (Below.refl w.heap.size w);have H:=h;unfold spec_l4Without.f at H;clear h;obtain⟨Cl,B3⟩:∃y_:List (S133),y_=(([]:List (S133))):=⟨_,rfl⟩;replace H:(spec_l4Without.l0 k l0 a1 Cl 0)=some r:=by first|(rw[B3];with_reducible exact H)|(have Br:=(Option.bind_some _ _).symm.trans H;rw[B3];with_reducible exact Br)|(have Br:=(Option.bind_some _ _).symm.trans H;with_reducible exact Br)|with_reducible exact H|(rw[B3];exact H)|exact H
 have C7:=aK B3;clear B3;have H':=aK H;clear H
 go_enter Tryz.func162,Tryz.ntmps162
 go_wp2_with (first|((with_reducible refine gD 7 rfl ?_);refine Kd.R_lit k133 _ 133 ?hg (N:=7) ?hd (xs:=([]:List (S133))) (inner:=[]) (ok:=fun _=>True) (okp:=fun _=>True) ?hr ?hp (fun _ hk=>hk) trivial (Below.refl _ _) (Nat.le_refl _) (by simp) ?_;(case hd=>rfl);(case hg=>rfl);(case hr=>first|(go_simp;done)|(go_simp;rfl));(case hp=>exact(Reps.none _ _));intro D9 w3 C8 hb hg_ hnew_;clear hg_ hnew_;(first|rw[←C7.o]at C8|(simp only[Int.reduceToNat]at C8;rw[←C7.o]at C8));have Cy:=rl HB C8;replace HB:=bS HB hb;clear hb C8))
 go_loopg [5,6] k (fun kq v5 v6 w'=>∃(X:List (S133)) (A8:Int),v6 = .int .i64 A8∧Aside0 (spec_l4Without.l0 kq l0 a1 X A8=some r)∧Aside0 (kq≤k)∧Aside0 (Kd.R k133 133 w' w.heap.size (fun _=>True) v5 X)∧Aside0 (Below w.heap.size w w'))
 case atStart=>exact⟨(Cl),(0),fa,H',⟨Nat.le_refl _⟩,⟨rpR Cy.o⟩,⟨bl⟩⟩
 case round=>
  clear H';(try clear c1);(try clear p2);obtain⟨X,A8,rfl,HA,A7,A5,HB⟩:=hrel;cases gk with
  |zero=>exact absurd HA.o (by simp[spec_l4Without.l0])
  |succ k1=>
   have H:=HA.o;clear HA;simp only[spec_l4Without.l0]at H;by_cases c5:A8<(l0.length:Int)
   ·rw[if_pos c5]at H;have Ao:=dt c5;clear c5;by_cases c6:0≤A8
    ·rw[if_pos c6]at H;have AF:=dt c6;clear c6;have Hq_:=aK H;clear H;have C9:0≤(A8:Int):=dT am;have Ca:A8<(l0.length:Int):=dT am;obtain⟨Cz,CT,Bf,Bg⟩:=at_T133 AD.o A8 C9 Ca;cases CT;replace Bf:=cz HB Bf;replace Bg:=cz HB Bg;replace C9:=eq_true C9;replace Ca:=eq_true Ca;have H:=Hq_.o;clear Hq_;by_cases c7:((rd_T133 l0 A8).f0).toList=a1.toList
     ·rw[if_pos c7]at H;have B0:=bT c7;(try rw[B0]);have Cb:=bE c7;(try rw[Cb]);clear c7;have H':=aK H;clear H;go_wp2
      go_roundg k1
      case measure=>have:=A7.o;omega
      case rel=>exact⟨(X),(wrap64 (A8+1)),fa,H',⟨by have:=A7.o;omega⟩,⟨rpR A5.o⟩,⟨bl⟩⟩
     ·rw[if_neg c7]at H;have B0:=bN c7;(try rw[B0]);have Cb:=bQ c7;(try rw[Cb]);by_cases c8:X.length<5864062014805
      ·rw[if_pos c8]at H;have CU:=aK c8;clear c8;obtain⟨CV,Bs⟩:=yy (X ++ [(⟨(rd_T133 l0 A8).f0,(rd_T133 l0 A8).f1⟩:S133)]);rw[←Bs]at H;(try rw[obs]at H)
       have C_:=aK Bs;clear Bs;have H':=aK H;clear H;have Aj:0≤(A8:Int):=dT am;have Ak:A8<(l0.length:Int):=dT am;obtain⟨Ap,AC,Am,An⟩:=at_T133 AD.o A8 Aj Ak;obtain rfl:Cz=Ap:=(by injection AC);replace Am:=cz HB Am;replace An:=cz HB An;replace Aj:=eq_true Aj;replace Ak:=eq_true Ak;go_wp2_with (first|((with_reducible refine gate_builtin (b:=.append) (xs:=#[.tmp 21,.tmp 26]) rfl ?_);at_builtin;refine Kd.R_append k133 (w0:=w) w.heap.size rfl (.tmp 21) (.tmp 26) 32 133 (.agg #[(.string ⟨#[]⟩),(.int .i64 0)]) 24 rfl Tryz.underlying32 info133 rfl (by decide) (by omega) u5 X (⟨(rd_T133 l0 A8).f0,(rd_T133 l0 A8).f1⟩:S133) [.string ((rd_T133 l0 A8).f0),.int .i64 ((rd_T133 l0 A8).f1)] (fun _=>True) (fun _=>False) rfl rfl ?aP (fun _ hk=>hk.elim) ?aF ?aO ?aB ?aS ?aL ?_;(case aP=>exact k133_mkM _ _ _ (⟨(rd_T133 l0 A8).f0,(rd_T133 l0 A8).f1⟩:S133));(case aB=>exact bl);(case aF=>exact(fun _ _=>trivial));(case aO=>exact(rpR A5.o));(case aS=>exact(below_size bl));(case aL=>have:=CU.o;omega);intro Ay CA ho hb hg hat;rw[←C_.o]at ho;replace HB:=aK (hb);have Aa:=aK (ho);clear A5;clear ho hb hg hat))
       go_roundg k1
       case measure=>have:=A7.o;omega
       case rel=>exact⟨(CV),(wrap64 (A8+1)),fa,H',⟨by have:=A7.o;omega⟩,⟨rpR Aa.o⟩,⟨bl⟩⟩
      ·rw[if_neg c8]at H;exact absurd H (by simp)
    ·rw[if_neg c6]at H;exact absurd H (by simp)
   ·rw[if_neg c5]at H;have Ao:=df c5;clear c5;obtain rfl:=oj H;go_wp2
    go_ret
    exact⟨_,fe,rpR A5.o,bl⟩
def spec_l4With.l0:Nat→List (S133)→List (S133)→Bool→Int→ByteArray→Int→Option ((List (S133)))
 | 0,_,_,_,_,_,_=>none
 |k+1,x0,x5,x6,x7,As,Au=>if x7<(x0.length:Int)then(if x6=true then(if 0≤x7 then(if x5.length<5864062014805 then(spec_l4With.l0 k x0 (x5 ++ [(⟨(rd_T133 x0 x7).f0,(rd_T133 x0 x7).f1⟩:S133)]) x6 (wrap64 (x7+1)) As Au)else(none))else(none))else(if 0≤x7 then(if(Op.bytesLess As.toList (((rd_T133 x0 x7).f0).toList))=true then(if x5.length<5864062014805 then((some (x5 ++ [(⟨As,Au⟩:S133)]:List (S133))).bind fun AG=>(if AG.length<5864062014805 then(spec_l4With.l0 k x0 (AG ++ [(⟨(rd_T133 x0 x7).f0,(rd_T133 x0 x7).f1⟩:S133)]) true (wrap64 (x7+1)) As Au)else(none)))else(none))else(if x5.length<5864062014805 then(spec_l4With.l0 k x0 (x5 ++ [(⟨(rd_T133 x0 x7).f0,(rd_T133 x0 x7).f1⟩:S133)]) x6 (wrap64 (x7+1)) As Au)else(none)))else(none)))else(if x6=true then(some x5)else(if x5.length<5864062014805 then(some (x5 ++ [(⟨As,Au⟩:S133)]))else(none)))
def spec_l4With.f (k:Nat) (l0:List (S133)) (Y:ByteArray) (A1:Int):Option ((List (S133))):=(spec_l4Without.f k l0 Y).bind fun J=>(spec_l4With.l0 k J (([]:List (S133))) false 0 Y A1)
theorem spec_l4With.calls (k:Nat) (A0:Option Addr) (c0:Nat) (l0:List (S133)) (Y:ByteArray) (A1:Int) (r:List (S133)) (w:World) (A_:Kd.C k133 w A0 l0.length l0) (AA:l0.length≤c0) (h:spec_l4With.f k l0 Y A1=some r) :
 Calls Tryz.prog 161 #[.slice A0 l0.length c0,.agg #[.string Y,.int .i64 A1]] w fun e w'=>∃C6:Value,e = .returned (C6)∧Kd.R k133 133 w' w.heap.size (fun _=>True) C6 r∧Below w.heap.size w w':=by
 have Cx:=Tryz.underlying133;have AD:=aK A_;have Bi:=aK AA;clear A_ AA;have HB:=aK (Below.refl w.heap.size w);have H:=h;unfold spec_l4With.f at H;clear h;obtain⟨Cm,B4⟩:∃y_:List (S133),y_=(([]:List (S133))):=⟨_,rfl⟩;replace H:((spec_l4Without.f k l0 Y).bind fun J=>(spec_l4With.l0 k J Cm false 0 Y A1))=some r:=by first|(rw[B4];with_reducible exact H)|(have Br:=(Option.bind_some _ _).symm.trans H;rw[B4];with_reducible exact Br)|(have Br:=(Option.bind_some _ _).symm.trans H;with_reducible exact Br)|with_reducible exact H|(rw[B4];exact H)|exact H
 have AE:=aK B4;clear B4;obtain⟨J,A3,H⟩:=bd H;have H':=aK H;clear H
 go_enter Tryz.func161,Tryz.ntmps161
 go_wp2_with (first|((with_reducible refine gD 3 rfl ?_);refine boxW ?_;intro D hg w4 hbox hb;have A4:=aK hbox;have Cc:=gW HB hg;replace HB:=bS HB hb;clear hb hbox hg)|((with_reducible refine gD 8 rfl ?_);refine Kd.R_lit k133 _ 133 ?hg (N:=8) ?hd (xs:=([]:List (S133))) (inner:=[]) (ok:=fun _=>True) (okp:=fun _=>True) ?hr ?hp (fun _ hk=>hk) trivial (Below.refl _ _) (Nat.le_refl _) (by simp) ?_;(case hd=>rfl);(case hg=>rfl);(case hr=>first|(go_simp;done)|(go_simp;rfl));(case hp=>exact(Reps.none _ _));intro Cn w5 Av hb hg_ hnew_;clear hg_ hnew_;(first|rw[←AE.o]at Av|(simp only[Int.reduceToNat]at Av;rw[←AE.o]at Av));have Ad:=rl HB (Kd.R_newB Av (g:=D) (o:=.cells #[.string Y,.int .i64 A1] 133 (0,0)) bk);replace A4:=bv A4 hb;replace HB:=bS HB hb;clear hb Av;have:=cf2 A4)|(go_at_call 162;(with_reducible refine(spec_l4Without.calls k _ _ l0 Y J _ ?_ ?_ A3.o).mono ?_);exact cB AD HB;exact Bi.o;rintro e w8 ⟨BJ,rfl,B5,hb⟩;have Bt:=rl HB (Kd.R_newB (Kd.R_new' B5 (Kd.R_lt (rpR Ad.o))) (g:=D) (o:=.cells #[.string Y,.int .i64 A1] 133 (0,0)) bk);replace Ad:=re Ad.o B5 hb;replace A4:=bv A4 hb;replace HB:=bS HB hb;(try clear hb B5)))
 repeat (go_quiet (first|((with_reducible refine gD 3 rfl ?_);refine boxW ?_;intro D hg w4 hbox hb;have A4:=aK hbox;have Cc:=gW HB hg;replace HB:=bS HB hb;clear hb hbox hg)|((with_reducible refine gD 8 rfl ?_);refine Kd.R_lit k133 _ 133 ?hg (N:=8) ?hd (xs:=([]:List (S133))) (inner:=[]) (ok:=fun _=>True) (okp:=fun _=>True) ?hr ?hp (fun _ hk=>hk) trivial (Below.refl _ _) (Nat.le_refl _) (by simp) ?_;(case hd=>rfl);(case hg=>rfl);(case hr=>first|(go_simp;done)|(go_simp;rfl));(case hp=>exact(Reps.none _ _));intro Cn w5 Av hb hg_ hnew_;clear hg_ hnew_;(first|rw[←AE.o]at Av|(simp only[Int.reduceToNat]at Av;rw[←AE.o]at Av));have Ad:=rl HB (Kd.R_newB Av (g:=D) (o:=.cells #[.string Y,.int .i64 A1] 133 (0,0)) bk);replace A4:=bv A4 hb;replace HB:=bS HB hb;clear hb Av;have:=cf2 A4)|(go_at_call 162;(with_reducible refine(spec_l4Without.calls k _ _ l0 Y J _ ?_ ?_ A3.o).mono ?_);exact cB AD HB;exact Bi.o;rintro e w8 ⟨BJ,rfl,B5,hb⟩;have Ae:=re Ad.o B5 hb;have Af:=rl HB (Kd.R_newB (Kd.R_new' B5 (Kd.R_lt (rpR Ad.o))) (g:=D) (o:=.cells #[.string Y,.int .i64 A1] 133 (0,0)) bk);have Ag:=aK (blk_below (g:=D) (o:=.cells #[.string Y,.int .i64 A1] 133 (0,0)) bk hb);have Ah:=aK (below_step bl hb);clear Ad;clear A4;clear HB;have Ad:=Ae;have Bt:=Af;have A4:=Ag;have HB:=Ah;clear Ae Af Ag Ah;(try clear hb);(try clear D8);(try clear hk);(try clear hi);(try clear B5)));try go_wp2_with (first|((with_reducible refine gD 3 rfl ?_);refine boxW ?_;intro D hg w4 hbox hb;have A4:=aK hbox;have Cc:=gW HB hg;replace HB:=bS HB hb;clear hb hbox hg)|((with_reducible refine gD 8 rfl ?_);refine Kd.R_lit k133 _ 133 ?hg (N:=8) ?hd (xs:=([]:List (S133))) (inner:=[]) (ok:=fun _=>True) (okp:=fun _=>True) ?hr ?hp (fun _ hk=>hk) trivial (Below.refl _ _) (Nat.le_refl _) (by simp) ?_;(case hd=>rfl);(case hg=>rfl);(case hr=>first|(go_simp;done)|(go_simp;rfl));(case hp=>exact(Reps.none _ _));intro Cn w5 Av hb hg_ hnew_;clear hg_ hnew_;(first|rw[←AE.o]at Av|(simp only[Int.reduceToNat]at Av;rw[←AE.o]at Av));have Ad:=rl HB (Kd.R_newB Av (g:=D) (o:=.cells #[.string Y,.int .i64 A1] 133 (0,0)) bk);replace A4:=bv A4 hb;replace HB:=bS HB hb;clear hb Av;have:=cf2 A4)|(go_at_call 162;(with_reducible refine(spec_l4Without.calls k _ _ l0 Y J _ ?_ ?_ A3.o).mono ?_);exact cB AD HB;exact Bi.o;rintro e w8 ⟨BJ,rfl,B5,hb⟩;have Ae:=re Ad.o B5 hb;have Af:=rl HB (Kd.R_newB (Kd.R_new' B5 (Kd.R_lt (rpR Ad.o))) (g:=D) (o:=.cells #[.string Y,.int .i64 A1] 133 (0,0)) bk);have Ag:=aK (blk_below (g:=D) (o:=.cells #[.string Y,.int .i64 A1] 133 (0,0)) bk hb);have Ah:=aK (below_step bl hb);clear Ad;clear A4;clear HB;have Ad:=Ae;have Bt:=Af;have A4:=Ag;have HB:=Ah;clear Ae Af Ag Ah;(try clear hb);(try clear D8);(try clear hk);(try clear hi);(try clear B5))))
 go_loopg [5,6,7] k (fun kq v5 v6 v7 w'=>∃(X:List (S133)) (A8:Bool) (U:Int),v6 = .bool A8∧v7 = .int .i64 U∧Aside0 (spec_l4With.l0 kq J X A8 U Y A1=some r)∧Aside0 (kq≤k)∧Aside0 (Kd.R k133 133 w' w.heap.size (fun k_=>some k_≠(v5:Value).ownBlock∧k_≠D) BJ J)∧Aside0 (Kd.R k133 133 w' w.heap.size (fun k_=>some k_≠(BJ:Value).ownBlock∧k_≠D) v5 X)∧Aside0 (w'.heap[D]? = some (.cells #[.string Y,.int .i64 A1] 133 (0,0)))∧Aside0 (Below w.heap.size w w'))
 case atStart=>exact⟨(Cm),(false),(0),fa,fa,H',⟨Nat.le_refl _⟩,⟨rpR (rM Bt.o (fun _ hk=>⟨hk.1.2,hk.2⟩))⟩,⟨rpR (rM Ad.o (fun _ hk=>⟨hk.2,hk.1.2⟩))⟩,⟨bw A4⟩,⟨bl⟩⟩
 case round=>
  clear H';(try clear c1);(try clear p2);obtain⟨X,A8,U,rfl,rfl,HA,A7,Z,A5,A4,HB⟩:=hrel;cases gk with
  |zero=>exact absurd HA.o (by simp[spec_l4With.l0])
  |succ k1=>
   have H:=HA.o;clear HA;simp only[spec_l4With.l0]at H;by_cases c9:U<(J.length:Int)
   ·rw[if_pos c9]at H;have Bb:=dt c9;clear c9;by_cases c10:A8=true
    ·subst c10;replace H:=iT H;by_cases AH:0≤U
     ·rw[if_pos AH]at H;have B9:=dt AH;clear AH;by_cases AI:X.length<5864062014805
      ·rw[if_pos AI]at H;have Bu:=aK AI;clear AI;obtain⟨CW,Bv⟩:=yy (X ++ [(⟨(rd_T133 J U).f0,(rd_T133 J U).f1⟩:S133)]);rw[←Bv]at H;(try rw[obs]at H)
       have Bw:=aK Bv;clear Bv;have H':=aK H;clear H;obtain⟨B8,Ai,B6⟩:=rs Z;subst B6;have Aj:0≤(U:Int):=dT am;have Ak:U<(J.length:Int):=dT am;obtain⟨Ap,AC,Am,An⟩:=at_T133 (Kd.R_reads' Z.o).2.2 U Aj Ak;cases AC;replace Aj:=eq_true Aj;replace Ak:=eq_true Ak
       go_wp2_with (first|((with_reducible refine gate_builtin (b:=.append) (xs:=#[.tmp 35,.tmp 40]) rfl ?_);at_builtin;refine Kd.R_append k133 (w0:=w) w.heap.size rfl (.tmp 35) (.tmp 40) 32 133 (.agg #[(.string ⟨#[]⟩),(.int .i64 0)]) 24 rfl Tryz.underlying32 info133 rfl (by decide) (by omega) u5 X (⟨(rd_T133 J U).f0,(rd_T133 J U).f1⟩:S133) [.string ((rd_T133 J U).f0),.int .i64 ((rd_T133 J U).f1)] (fun k_=>some k_≠(.slice (some Ap) J.length Ai:Value).ownBlock∧k_≠D) (fun _=>False) rfl rfl ?aP (fun _ hk=>hk.elim) ?aF ?aO ?aB ?aS ?aL ?_;(case aP=>exact k133_mkM _ _ _ (⟨(rd_T133 J U).f0,(rd_T133 J U).f1⟩:S133));(case aB=>exact bl);(case aF=>exact(fun k_ hk=>⟨Kd.fresh' (Kd.R_lt (rpR Z.o)) k_ hk,Kd.freshB (g:=D) (o:=.cells #[.string Y,.int .i64 A1] 133 (0,0)) bk k_ hk⟩));(case aO=>exact(rpR A5.o));(case aS=>exact(below_size bl));(case aL=>have:=Bu.o;omega);intro Ay B7 ho hb hg hat;rw[←Bw.o]at ho;replace Z:=aK (Kd.R_after (ok:=(fun k_=>k_≠D)) (rpR (rM Z.o (fun _ hk=>⟨hk.2,hk.1⟩))) hg hat);replace A4:=aK (blk_grown (g:=D) (o:=.cells #[.string Y,.int .i64 A1] 133 (0,0)) bk hg (Kd.R_away A5.o (fun _ hk=>hk.2)));replace HB:=aK (hb);have Aa:=aK (ho);clear A5;clear ho hb hg hat))
       repeat (go_quiet (first|((with_reducible refine gate_builtin (b:=.append) (xs:=#[.tmp 35,.tmp 40]) rfl ?_);at_builtin;refine Kd.R_append k133 (w0:=w) w.heap.size rfl (.tmp 35) (.tmp 40) 32 133 (.agg #[(.string ⟨#[]⟩),(.int .i64 0)]) 24 rfl Tryz.underlying32 info133 rfl (by decide) (by omega) u5 X (⟨(rd_T133 J U).f0,(rd_T133 J U).f1⟩:S133) [.string ((rd_T133 J U).f0),.int .i64 ((rd_T133 J U).f1)] (fun k_=>some k_≠(.slice (some Ap) J.length Ai:Value).ownBlock∧k_≠D) (fun _=>False) rfl rfl ?aP (fun _ hk=>hk.elim) ?aF ?aO ?aB ?aS ?aL ?_;(case aP=>exact k133_mkM _ _ _ (⟨(rd_T133 J U).f0,(rd_T133 J U).f1⟩:S133));(case aB=>exact bl);(case aF=>exact(fun k_ hk=>⟨Kd.fresh' (Kd.R_lt (rpR Z.o)) k_ hk,Kd.freshB (g:=D) (o:=.cells #[.string Y,.int .i64 A1] 133 (0,0)) bk k_ hk⟩));(case aO=>exact(rpR A5.o));(case aS=>exact(below_size bl));(case aL=>have:=Bu.o;omega);intro Ay B7 ho hb hg hat;rw[←Bw.o]at ho;have Ae:=aK (Kd.R_after (ok:=(fun k_=>k_≠D)) (rpR (rM Z.o (fun _ hk=>⟨hk.2,hk.1⟩))) hg hat);have Af:=aK (blk_grown (g:=D) (o:=.cells #[.string Y,.int .i64 A1] 133 (0,0)) bk hg (Kd.R_away A5.o (fun _ hk=>hk.2)));have Ag:=aK (hb);have Ah:=aK (ho);clear Z;clear A4;clear HB;clear A5;have Z:=Ae;have A4:=Af;have HB:=Ag;have Aa:=Ah;clear Ae Af Ag Ah;clear ho hb hg hat));try go_wp2_with (first|((with_reducible refine gate_builtin (b:=.append) (xs:=#[.tmp 35,.tmp 40]) rfl ?_);at_builtin;refine Kd.R_append k133 (w0:=w) w.heap.size rfl (.tmp 35) (.tmp 40) 32 133 (.agg #[(.string ⟨#[]⟩),(.int .i64 0)]) 24 rfl Tryz.underlying32 info133 rfl (by decide) (by omega) u5 X (⟨(rd_T133 J U).f0,(rd_T133 J U).f1⟩:S133) [.string ((rd_T133 J U).f0),.int .i64 ((rd_T133 J U).f1)] (fun k_=>some k_≠(.slice (some Ap) J.length Ai:Value).ownBlock∧k_≠D) (fun _=>False) rfl rfl ?aP (fun _ hk=>hk.elim) ?aF ?aO ?aB ?aS ?aL ?_;(case aP=>exact k133_mkM _ _ _ (⟨(rd_T133 J U).f0,(rd_T133 J U).f1⟩:S133));(case aB=>exact bl);(case aF=>exact(fun k_ hk=>⟨Kd.fresh' (Kd.R_lt (rpR Z.o)) k_ hk,Kd.freshB (g:=D) (o:=.cells #[.string Y,.int .i64 A1] 133 (0,0)) bk k_ hk⟩));(case aO=>exact(rpR A5.o));(case aS=>exact(below_size bl));(case aL=>have:=Bu.o;omega);intro Ay B7 ho hb hg hat;rw[←Bw.o]at ho;have Ae:=aK (Kd.R_after (ok:=(fun k_=>k_≠D)) (rpR (rM Z.o (fun _ hk=>⟨hk.2,hk.1⟩))) hg hat);have Af:=aK (blk_grown (g:=D) (o:=.cells #[.string Y,.int .i64 A1] 133 (0,0)) bk hg (Kd.R_away A5.o (fun _ hk=>hk.2)));have Ag:=aK (hb);have Ah:=aK (ho);clear Z;clear A4;clear HB;clear A5;have Z:=Ae;have A4:=Af;have HB:=Ag;have Aa:=Ah;clear Ae Af Ag Ah;clear ho hb hg hat)))
       go_roundg k1
       case measure=>have:=A7.o;omega
       case rel=>exact⟨(CW),(true),(wrap64 (U+1)),fa,fa,H',⟨by have:=A7.o;omega⟩,⟨rpR (rM Z.o (fun _ hk=>⟨hk.2,hk.1⟩))⟩,⟨rpR Aa.o⟩,⟨bw A4⟩,⟨bl⟩⟩
      ·rw[if_neg AI]at H;exact absurd H (by simp)
     ·rw[if_neg AH]at H;exact absurd H (by simp)
    ·replace c10:=bF c10;subst c10;replace H:=iF H;by_cases AJ:0≤U
     ·rw[if_pos AJ]at H;have Ba:=dt AJ;clear AJ;have Hq_:=aK H;clear H;obtain⟨B8,Ai,B6⟩:=rs Z;subst B6;have:=cf2 A4;have Cd:0≤(U:Int):=dT am;have Ce:U<(J.length:Int):=dT am;obtain⟨Al,CX,CY,CZ⟩:=at_T133 (Kd.R_reads' Z.o).2.2 U Cd Ce;cases CX;replace Cd:=eq_true Cd;replace Ce:=eq_true Ce;have H:=Hq_.o;clear Hq_;by_cases AB:(Op.bytesLess Y.toList (((rd_T133 J U).f0).toList))=true
      ·rw[if_pos AB]at H;have Ax:(Op.bytesLess Y.toList (((rd_T133 J U).f0).toList))=true:=AB;(try rw[Ax]);clear AB;by_cases Cg:X.length<5864062014805
       ·rw[if_pos Cg]at H;have Bx:=aK Cg;clear Cg;obtain⟨AG,By⟩:=yy (X ++ [(⟨Y,A1⟩:S133)]);rw[←By]at H;(try rw[obs]at H)
        have Bz:=aK By;clear By;by_cases Ch:AG.length<5864062014805
        ·rw[if_pos Ch]at H;have B_:=aK Ch;clear Ch;obtain⟨D0,BA⟩:=yy (AG ++ [(⟨(rd_T133 J U).f0,(rd_T133 J U).f1⟩:S133)]);rw[←BA]at H;(try rw[obs]at H)
         have BB:=aK BA;clear BA;have H':=aK H;clear H
         go_wp2_with (first|((with_reducible refine gate_builtin (b:=.append) (xs:=#[.tmp 31,.tmp 33]) rfl ?_);at_builtin;refine Kd.R_append k133 (w0:=w) w.heap.size rfl (.tmp 31) (.tmp 33) 32 133 (.agg #[(.string ⟨#[]⟩),(.int .i64 0)]) 24 rfl Tryz.underlying32 info133 rfl (by decide) (by omega) u5 X (⟨Y,A1⟩:S133) [.string Y,.int .i64 A1] (fun k_=>some k_≠(.slice (some Al) J.length Ai:Value).ownBlock∧k_≠D) (fun _=>False) rfl rfl ?aP (fun _ hk=>hk.elim) ?aF ?aO ?aB ?aS ?aL ?_;(case aP=>exact k133_mkM _ _ _ (⟨Y,A1⟩:S133));(case aB=>exact bl);(case aF=>exact(fun k_ hk=>⟨Kd.fresh' (Kd.R_lt (rpR Z.o)) k_ hk,Kd.freshB (g:=D) (o:=.cells #[.string Y,.int .i64 A1] 133 (0,0)) bk k_ hk⟩));(case aO=>exact(rpR A5.o));(case aS=>exact(below_size bl));(case aL=>have:=Bx.o;omega);intro Ay B7 ho hb hg hat;rw[←Bz.o]at ho;replace Z:=aK (Kd.R_after (ok:=(fun k_=>k_≠D)) (rpR (rM Z.o (fun _ hk=>⟨hk.2,hk.1⟩))) hg hat);replace A4:=aK (blk_grown (g:=D) (o:=.cells #[.string Y,.int .i64 A1] 133 (0,0)) bk hg (Kd.R_away A5.o (fun _ hk=>hk.2)));replace HB:=aK (hb);have Aa:=aK (ho);clear A5;clear ho hb hg hat;have Aj:0≤(U:Int):=dT am;have Ak:U<(J.length:Int):=dT am;obtain⟨Ap,AC,Am,An⟩:=at_T133 (Kd.R_reads' Z.o).2.2 U Aj Ak;obtain rfl:Al=Ap:=(by injection AC);replace Aj:=eq_true Aj;replace Ak:=eq_true Ak)|((with_reducible refine gate_builtin (b:=.append) (xs:=#[.tmp 35,.tmp 40]) rfl ?_);at_builtin;refine Kd.R_append k133 (w0:=w) w.heap.size rfl (.tmp 35) (.tmp 40) 32 133 (.agg #[(.string ⟨#[]⟩),(.int .i64 0)]) 24 rfl Tryz.underlying32 info133 rfl (by decide) (by omega) Ay AG (⟨(rd_T133 J U).f0,(rd_T133 J U).f1⟩:S133) [.string ((rd_T133 J U).f0),.int .i64 ((rd_T133 J U).f1)] (fun k_=>some k_≠(.slice (some Al) J.length Ai:Value).ownBlock∧k_≠D) (fun _=>False) rfl rfl ?aP (fun _ hk=>hk.elim) ?aF ?aO ?aB ?aS ?aL ?_;(case aP=>exact k133_mkM _ _ _ (⟨(rd_T133 J U).f0,(rd_T133 J U).f1⟩:S133));(case aB=>exact bl);(case aF=>exact(fun k_ hk=>⟨Kd.fresh' (Kd.R_lt (rpR Z.o)) k_ hk,Kd.freshB (g:=D) (o:=.cells #[.string Y,.int .i64 A1] 133 (0,0)) bk k_ hk⟩));(case aO=>exact(rpR Aa.o));(case aS=>exact(below_size bl));(case aL=>have:=B_.o;omega);intro D1 CA ho hb hg hat;rw[←BB.o]at ho;replace Z:=aK (Kd.R_after (ok:=(fun k_=>k_≠D)) (rpR Z.o) hg hat);replace A4:=aK (blk_grown (g:=D) (o:=.cells #[.string Y,.int .i64 A1] 133 (0,0)) bk hg (Kd.R_away Aa.o (fun _ hk=>hk.2)));replace HB:=aK (hb);have Cf:=aK (ho);clear Aa;clear ho hb hg hat))
         repeat (go_quiet (first|((with_reducible refine gate_builtin (b:=.append) (xs:=#[.tmp 31,.tmp 33]) rfl ?_);at_builtin;refine Kd.R_append k133 (w0:=w) w.heap.size rfl (.tmp 31) (.tmp 33) 32 133 (.agg #[(.string ⟨#[]⟩),(.int .i64 0)]) 24 rfl Tryz.underlying32 info133 rfl (by decide) (by omega) u5 X (⟨Y,A1⟩:S133) [.string Y,.int .i64 A1] (fun k_=>some k_≠(.slice (some Al) J.length Ai:Value).ownBlock∧k_≠D) (fun _=>False) rfl rfl ?aP (fun _ hk=>hk.elim) ?aF ?aO ?aB ?aS ?aL ?_;(case aP=>exact k133_mkM _ _ _ (⟨Y,A1⟩:S133));(case aB=>exact bl);(case aF=>exact(fun k_ hk=>⟨Kd.fresh' (Kd.R_lt (rpR Z.o)) k_ hk,Kd.freshB (g:=D) (o:=.cells #[.string Y,.int .i64 A1] 133 (0,0)) bk k_ hk⟩));(case aO=>exact(rpR A5.o));(case aS=>exact(below_size bl));(case aL=>have:=Bx.o;omega);intro Ay B7 ho hb hg hat;rw[←Bz.o]at ho;replace Z:=aK (Kd.R_after (ok:=(fun k_=>k_≠D)) (rpR (rM Z.o (fun _ hk=>⟨hk.2,hk.1⟩))) hg hat);replace A4:=aK (blk_grown (g:=D) (o:=.cells #[.string Y,.int .i64 A1] 133 (0,0)) bk hg (Kd.R_away A5.o (fun _ hk=>hk.2)));replace HB:=aK (hb);have Aa:=aK (ho);clear A5;clear ho hb hg hat;have Aj:0≤(U:Int):=dT am;have Ak:U<(J.length:Int):=dT am;obtain⟨Ap,AC,Am,An⟩:=at_T133 (Kd.R_reads' Z.o).2.2 U Aj Ak;obtain rfl:Al=Ap:=(by injection AC);replace Aj:=eq_true Aj;replace Ak:=eq_true Ak)|((with_reducible refine gate_builtin (b:=.append) (xs:=#[.tmp 35,.tmp 40]) rfl ?_);at_builtin;refine Kd.R_append k133 (w0:=w) w.heap.size rfl (.tmp 35) (.tmp 40) 32 133 (.agg #[(.string ⟨#[]⟩),(.int .i64 0)]) 24 rfl Tryz.underlying32 info133 rfl (by decide) (by omega) Ay AG (⟨(rd_T133 J U).f0,(rd_T133 J U).f1⟩:S133) [.string ((rd_T133 J U).f0),.int .i64 ((rd_T133 J U).f1)] (fun k_=>some k_≠(.slice (some Al) J.length Ai:Value).ownBlock∧k_≠D) (fun _=>False) rfl rfl ?aP (fun _ hk=>hk.elim) ?aF ?aO ?aB ?aS ?aL ?_;(case aP=>exact k133_mkM _ _ _ (⟨(rd_T133 J U).f0,(rd_T133 J U).f1⟩:S133));(case aB=>exact bl);(case aF=>exact(fun k_ hk=>⟨Kd.fresh' (Kd.R_lt (rpR Z.o)) k_ hk,Kd.freshB (g:=D) (o:=.cells #[.string Y,.int .i64 A1] 133 (0,0)) bk k_ hk⟩));(case aO=>exact(rpR Aa.o));(case aS=>exact(below_size bl));(case aL=>have:=B_.o;omega);intro D1 CA ho hb hg hat;rw[←BB.o]at ho;have Ae:=aK (Kd.R_after (ok:=(fun k_=>k_≠D)) (rpR Z.o) hg hat);have Af:=aK (blk_grown (g:=D) (o:=.cells #[.string Y,.int .i64 A1] 133 (0,0)) bk hg (Kd.R_away Aa.o (fun _ hk=>hk.2)));have Ag:=aK (hb);have Ah:=aK (ho);clear Z;clear A4;clear HB;clear Aa;have Z:=Ae;have A4:=Af;have HB:=Ag;have Cf:=Ah;clear Ae Af Ag Ah;clear ho hb hg hat));try go_wp2_with (first|((with_reducible refine gate_builtin (b:=.append) (xs:=#[.tmp 31,.tmp 33]) rfl ?_);at_builtin;refine Kd.R_append k133 (w0:=w) w.heap.size rfl (.tmp 31) (.tmp 33) 32 133 (.agg #[(.string ⟨#[]⟩),(.int .i64 0)]) 24 rfl Tryz.underlying32 info133 rfl (by decide) (by omega) u5 X (⟨Y,A1⟩:S133) [.string Y,.int .i64 A1] (fun k_=>some k_≠(.slice (some Al) J.length Ai:Value).ownBlock∧k_≠D) (fun _=>False) rfl rfl ?aP (fun _ hk=>hk.elim) ?aF ?aO ?aB ?aS ?aL ?_;(case aP=>exact k133_mkM _ _ _ (⟨Y,A1⟩:S133));(case aB=>exact bl);(case aF=>exact(fun k_ hk=>⟨Kd.fresh' (Kd.R_lt (rpR Z.o)) k_ hk,Kd.freshB (g:=D) (o:=.cells #[.string Y,.int .i64 A1] 133 (0,0)) bk k_ hk⟩));(case aO=>exact(rpR A5.o));(case aS=>exact(below_size bl));(case aL=>have:=Bx.o;omega);intro Ay B7 ho hb hg hat;rw[←Bz.o]at ho;replace Z:=aK (Kd.R_after (ok:=(fun k_=>k_≠D)) (rpR (rM Z.o (fun _ hk=>⟨hk.2,hk.1⟩))) hg hat);replace A4:=aK (blk_grown (g:=D) (o:=.cells #[.string Y,.int .i64 A1] 133 (0,0)) bk hg (Kd.R_away A5.o (fun _ hk=>hk.2)));replace HB:=aK (hb);have Aa:=aK (ho);clear A5;clear ho hb hg hat;have Aj:0≤(U:Int):=dT am;have Ak:U<(J.length:Int):=dT am;obtain⟨Ap,AC,Am,An⟩:=at_T133 (Kd.R_reads' Z.o).2.2 U Aj Ak;obtain rfl:Al=Ap:=(by injection AC);replace Aj:=eq_true Aj;replace Ak:=eq_true Ak)|((with_reducible refine gate_builtin (b:=.append) (xs:=#[.tmp 35,.tmp 40]) rfl ?_);at_builtin;refine Kd.R_append k133 (w0:=w) w.heap.size rfl (.tmp 35) (.tmp 40) 32 133 (.agg #[(.string ⟨#[]⟩),(.int .i64 0)]) 24 rfl Tryz.underlying32 info133 rfl (by decide) (by omega) Ay AG (⟨(rd_T133 J U).f0,(rd_T133 J U).f1⟩:S133) [.string ((rd_T133 J U).f0),.int .i64 ((rd_T133 J U).f1)] (fun k_=>some k_≠(.slice (some Al) J.length Ai:Value).ownBlock∧k_≠D) (fun _=>False) rfl rfl ?aP (fun _ hk=>hk.elim) ?aF ?aO ?aB ?aS ?aL ?_;(case aP=>exact k133_mkM _ _ _ (⟨(rd_T133 J U).f0,(rd_T133 J U).f1⟩:S133));(case aB=>exact bl);(case aF=>exact(fun k_ hk=>⟨Kd.fresh' (Kd.R_lt (rpR Z.o)) k_ hk,Kd.freshB (g:=D) (o:=.cells #[.string Y,.int .i64 A1] 133 (0,0)) bk k_ hk⟩));(case aO=>exact(rpR Aa.o));(case aS=>exact(below_size bl));(case aL=>have:=B_.o;omega);intro D1 CA ho hb hg hat;rw[←BB.o]at ho;have Ae:=aK (Kd.R_after (ok:=(fun k_=>k_≠D)) (rpR Z.o) hg hat);have Af:=aK (blk_grown (g:=D) (o:=.cells #[.string Y,.int .i64 A1] 133 (0,0)) bk hg (Kd.R_away Aa.o (fun _ hk=>hk.2)));have Ag:=aK (hb);have Ah:=aK (ho);clear Z;clear A4;clear HB;clear Aa;have Z:=Ae;have A4:=Af;have HB:=Ag;have Cf:=Ah;clear Ae Af Ag Ah;clear ho hb hg hat)))
         go_roundg k1
         case measure=>have:=A7.o;omega
         case rel=>exact⟨(D0),(true),(wrap64 (U+1)),fa,fa,H',⟨by have:=A7.o;omega⟩,⟨rpR (rM Z.o (fun _ hk=>⟨hk.2,hk.1⟩))⟩,⟨rpR Cf.o⟩,⟨bw A4⟩,⟨bl⟩⟩
        ·rw[if_neg Ch]at H;exact absurd H (by simp)
       ·rw[if_neg Cg]at H;exact absurd H (by simp)
      ·rw[if_neg AB]at H;have Ax:(Op.bytesLess Y.toList (((rd_T133 J U).f0).toList))=false:=by simpa using AB
       (try rw[Ax]);clear AB;by_cases Ci:X.length<5864062014805
       ·rw[if_pos Ci]at H;have BC:=aK Ci;clear Ci;obtain⟨D2,BD⟩:=yy (X ++ [(⟨(rd_T133 J U).f0,(rd_T133 J U).f1⟩:S133)]);rw[←BD]at H;(try rw[obs]at H)
        have BE:=aK BD;clear BD;have H':=aK H;clear H;have Aj:0≤(U:Int):=dT am;have Ak:U<(J.length:Int):=dT am;obtain⟨Ap,AC,Am,An⟩:=at_T133 (Kd.R_reads' Z.o).2.2 U Aj Ak;obtain rfl:Al=Ap:=(by injection AC);replace Aj:=eq_true Aj;replace Ak:=eq_true Ak
        go_wp2_with (first|((with_reducible refine gate_builtin (b:=.append) (xs:=#[.tmp 35,.tmp 40]) rfl ?_);at_builtin;refine Kd.R_append k133 (w0:=w) w.heap.size rfl (.tmp 35) (.tmp 40) 32 133 (.agg #[(.string ⟨#[]⟩),(.int .i64 0)]) 24 rfl Tryz.underlying32 info133 rfl (by decide) (by omega) u5 X (⟨(rd_T133 J U).f0,(rd_T133 J U).f1⟩:S133) [.string ((rd_T133 J U).f0),.int .i64 ((rd_T133 J U).f1)] (fun k_=>some k_≠(.slice (some Al) J.length Ai:Value).ownBlock∧k_≠D) (fun _=>False) rfl rfl ?aP (fun _ hk=>hk.elim) ?aF ?aO ?aB ?aS ?aL ?_;(case aP=>exact k133_mkM _ _ _ (⟨(rd_T133 J U).f0,(rd_T133 J U).f1⟩:S133));(case aB=>exact bl);(case aF=>exact(fun k_ hk=>⟨Kd.fresh' (Kd.R_lt (rpR Z.o)) k_ hk,Kd.freshB (g:=D) (o:=.cells #[.string Y,.int .i64 A1] 133 (0,0)) bk k_ hk⟩));(case aO=>exact(rpR A5.o));(case aS=>exact(below_size bl));(case aL=>have:=BC.o;omega);intro Ay B7 ho hb hg hat;rw[←BE.o]at ho;replace Z:=aK (Kd.R_after (ok:=(fun k_=>k_≠D)) (rpR (rM Z.o (fun _ hk=>⟨hk.2,hk.1⟩))) hg hat);replace A4:=aK (blk_grown (g:=D) (o:=.cells #[.string Y,.int .i64 A1] 133 (0,0)) bk hg (Kd.R_away A5.o (fun _ hk=>hk.2)));replace HB:=aK (hb);have Aa:=aK (ho);clear A5;clear ho hb hg hat))
        repeat (go_quiet (first|((with_reducible refine gate_builtin (b:=.append) (xs:=#[.tmp 35,.tmp 40]) rfl ?_);at_builtin;refine Kd.R_append k133 (w0:=w) w.heap.size rfl (.tmp 35) (.tmp 40) 32 133 (.agg #[(.string ⟨#[]⟩),(.int .i64 0)]) 24 rfl Tryz.underlying32 info133 rfl (by decide) (by omega) u5 X (⟨(rd_T133 J U).f0,(rd_T133 J U).f1⟩:S133) [.string ((rd_T133 J U).f0),.int .i64 ((rd_T133 J U).f1)] (fun k_=>some k_≠(.slice (some Al) J.length Ai:Value).ownBlock∧k_≠D) (fun _=>False) rfl rfl ?aP (fun _ hk=>hk.elim) ?aF ?aO ?aB ?aS ?aL ?_;(case aP=>exact k133_mkM _ _ _ (⟨(rd_T133 J U).f0,(rd_T133 J U).f1⟩:S133));(case aB=>exact bl);(case aF=>exact(fun k_ hk=>⟨Kd.fresh' (Kd.R_lt (rpR Z.o)) k_ hk,Kd.freshB (g:=D) (o:=.cells #[.string Y,.int .i64 A1] 133 (0,0)) bk k_ hk⟩));(case aO=>exact(rpR A5.o));(case aS=>exact(below_size bl));(case aL=>have:=BC.o;omega);intro Ay B7 ho hb hg hat;rw[←BE.o]at ho;have Ae:=aK (Kd.R_after (ok:=(fun k_=>k_≠D)) (rpR (rM Z.o (fun _ hk=>⟨hk.2,hk.1⟩))) hg hat);have Af:=aK (blk_grown (g:=D) (o:=.cells #[.string Y,.int .i64 A1] 133 (0,0)) bk hg (Kd.R_away A5.o (fun _ hk=>hk.2)));have Ag:=aK (hb);have Ah:=aK (ho);clear Z;clear A4;clear HB;clear A5;have Z:=Ae;have A4:=Af;have HB:=Ag;have Aa:=Ah;clear Ae Af Ag Ah;clear ho hb hg hat));try go_wp2_with (first|((with_reducible refine gate_builtin (b:=.append) (xs:=#[.tmp 35,.tmp 40]) rfl ?_);at_builtin;refine Kd.R_append k133 (w0:=w) w.heap.size rfl (.tmp 35) (.tmp 40) 32 133 (.agg #[(.string ⟨#[]⟩),(.int .i64 0)]) 24 rfl Tryz.underlying32 info133 rfl (by decide) (by omega) u5 X (⟨(rd_T133 J U).f0,(rd_T133 J U).f1⟩:S133) [.string ((rd_T133 J U).f0),.int .i64 ((rd_T133 J U).f1)] (fun k_=>some k_≠(.slice (some Al) J.length Ai:Value).ownBlock∧k_≠D) (fun _=>False) rfl rfl ?aP (fun _ hk=>hk.elim) ?aF ?aO ?aB ?aS ?aL ?_;(case aP=>exact k133_mkM _ _ _ (⟨(rd_T133 J U).f0,(rd_T133 J U).f1⟩:S133));(case aB=>exact bl);(case aF=>exact(fun k_ hk=>⟨Kd.fresh' (Kd.R_lt (rpR Z.o)) k_ hk,Kd.freshB (g:=D) (o:=.cells #[.string Y,.int .i64 A1] 133 (0,0)) bk k_ hk⟩));(case aO=>exact(rpR A5.o));(case aS=>exact(below_size bl));(case aL=>have:=BC.o;omega);intro Ay B7 ho hb hg hat;rw[←BE.o]at ho;have Ae:=aK (Kd.R_after (ok:=(fun k_=>k_≠D)) (rpR (rM Z.o (fun _ hk=>⟨hk.2,hk.1⟩))) hg hat);have Af:=aK (blk_grown (g:=D) (o:=.cells #[.string Y,.int .i64 A1] 133 (0,0)) bk hg (Kd.R_away A5.o (fun _ hk=>hk.2)));have Ag:=aK (hb);have Ah:=aK (ho);clear Z;clear A4;clear HB;clear A5;have Z:=Ae;have A4:=Af;have HB:=Ag;have Aa:=Ah;clear Ae Af Ag Ah;clear ho hb hg hat)))
        go_roundg k1
        case measure=>have:=A7.o;omega
        case rel=>exact⟨(D2),(false),(wrap64 (U+1)),fa,fa,H',⟨by have:=A7.o;omega⟩,⟨rpR (rM Z.o (fun _ hk=>⟨hk.2,hk.1⟩))⟩,⟨rpR Aa.o⟩,⟨bw A4⟩,⟨bl⟩⟩
       ·rw[if_neg Ci]at H;exact absurd H (by simp)
     ·rw[if_neg AJ]at H;exact absurd H (by simp)
   ·rw[if_neg c9]at H;have Bb:=df c9;clear c9;by_cases Cj:A8=true
    ·subst Cj;replace H:=iT H;obtain rfl:=oj H;obtain⟨B8,Ai,B6⟩:=rs Z;subst B6;go_wp2;repeat (go_quiet (fail);try go_wp2)
     go_ret
     exact⟨_,fe,rpR (rM A5.o (fun _ hk=>trivial)),bl⟩
    ·replace Cj:=bF Cj;subst Cj;replace H:=iF H;by_cases Ck:X.length<5864062014805
     ·rw[if_pos Ck]at H;have BF:=aK Ck;clear Ck;obtain⟨Da,BG⟩:=yy (X ++ [(⟨Y,A1⟩:S133)]);rw[←BG]at H;(try rw[obs]at H)
      have BH:=aK BG;clear BG;obtain rfl:=oj H;obtain⟨B8,Ai,B6⟩:=rs Z;subst B6;have:=cf2 A4;go_wp2_with (first|((with_reducible refine gate_builtin (b:=.append) (xs:=#[.tmp 44,.tmp 46]) rfl ?_);at_builtin;refine Kd.R_append k133 (w0:=w) w.heap.size rfl (.tmp 44) (.tmp 46) 32 133 (.agg #[(.string ⟨#[]⟩),(.int .i64 0)]) 24 rfl Tryz.underlying32 info133 rfl (by decide) (by omega) u5 X (⟨Y,A1⟩:S133) [.string Y,.int .i64 A1] (fun k_=>some k_≠(.slice B8 J.length Ai:Value).ownBlock∧k_≠D) (fun _=>False) rfl rfl ?aP (fun _ hk=>hk.elim) ?aF ?aO ?aB ?aS ?aL ?_;(case aP=>exact k133_mkM _ _ _ (⟨Y,A1⟩:S133));(case aB=>exact bl);(case aF=>exact(fun k_ hk=>⟨Kd.fresh' (Kd.R_lt (rpR Z.o)) k_ hk,Kd.freshB (g:=D) (o:=.cells #[.string Y,.int .i64 A1] 133 (0,0)) bk k_ hk⟩));(case aO=>exact(rpR A5.o));(case aS=>exact(below_size bl));(case aL=>have:=BF.o;omega);intro Ay B7 ho hb hg hat;rw[←BH.o]at ho;replace Z:=aK (Kd.R_after (ok:=(fun k_=>k_≠D)) (rpR (rM Z.o (fun _ hk=>⟨hk.2,hk.1⟩))) hg hat);replace A4:=aK (blk_grown (g:=D) (o:=.cells #[.string Y,.int .i64 A1] 133 (0,0)) bk hg (Kd.R_away A5.o (fun _ hk=>hk.2)));replace HB:=aK (hb);have Aa:=aK (ho);clear A5;clear ho hb hg hat))
      repeat (go_quiet (first|((with_reducible refine gate_builtin (b:=.append) (xs:=#[.tmp 44,.tmp 46]) rfl ?_);at_builtin;refine Kd.R_append k133 (w0:=w) w.heap.size rfl (.tmp 44) (.tmp 46) 32 133 (.agg #[(.string ⟨#[]⟩),(.int .i64 0)]) 24 rfl Tryz.underlying32 info133 rfl (by decide) (by omega) u5 X (⟨Y,A1⟩:S133) [.string Y,.int .i64 A1] (fun k_=>some k_≠(.slice B8 J.length Ai:Value).ownBlock∧k_≠D) (fun _=>False) rfl rfl ?aP (fun _ hk=>hk.elim) ?aF ?aO ?aB ?aS ?aL ?_;(case aP=>exact k133_mkM _ _ _ (⟨Y,A1⟩:S133));(case aB=>exact bl);(case aF=>exact(fun k_ hk=>⟨Kd.fresh' (Kd.R_lt (rpR Z.o)) k_ hk,Kd.freshB (g:=D) (o:=.cells #[.string Y,.int .i64 A1] 133 (0,0)) bk k_ hk⟩));(case aO=>exact(rpR A5.o));(case aS=>exact(below_size bl));(case aL=>have:=BF.o;omega);intro Ay B7 ho hb hg hat;rw[←BH.o]at ho;have Ae:=aK (Kd.R_after (ok:=(fun k_=>k_≠D)) (rpR (rM Z.o (fun _ hk=>⟨hk.2,hk.1⟩))) hg hat);have Af:=aK (blk_grown (g:=D) (o:=.cells #[.string Y,.int .i64 A1] 133 (0,0)) bk hg (Kd.R_away A5.o (fun _ hk=>hk.2)));have Ag:=aK (hb);have Ah:=aK (ho);clear Z;clear A4;clear HB;clear A5;have Z:=Ae;have A4:=Af;have HB:=Ag;have Aa:=Ah;clear Ae Af Ag Ah;clear ho hb hg hat));try go_wp2_with (first|((with_reducible refine gate_builtin (b:=.append) (xs:=#[.tmp 44,.tmp 46]) rfl ?_);at_builtin;refine Kd.R_append k133 (w0:=w) w.heap.size rfl (.tmp 44) (.tmp 46) 32 133 (.agg #[(.string ⟨#[]⟩),(.int .i64 0)]) 24 rfl Tryz.underlying32 info133 rfl (by decide) (by omega) u5 X (⟨Y,A1⟩:S133) [.string Y,.int .i64 A1] (fun k_=>some k_≠(.slice B8 J.length Ai:Value).ownBlock∧k_≠D) (fun _=>False) rfl rfl ?aP (fun _ hk=>hk.elim) ?aF ?aO ?aB ?aS ?aL ?_;(case aP=>exact k133_mkM _ _ _ (⟨Y,A1⟩:S133));(case aB=>exact bl);(case aF=>exact(fun k_ hk=>⟨Kd.fresh' (Kd.R_lt (rpR Z.o)) k_ hk,Kd.freshB (g:=D) (o:=.cells #[.string Y,.int .i64 A1] 133 (0,0)) bk k_ hk⟩));(case aO=>exact(rpR A5.o));(case aS=>exact(below_size bl));(case aL=>have:=BF.o;omega);intro Ay B7 ho hb hg hat;rw[←BH.o]at ho;have Ae:=aK (Kd.R_after (ok:=(fun k_=>k_≠D)) (rpR (rM Z.o (fun _ hk=>⟨hk.2,hk.1⟩))) hg hat);have Af:=aK (blk_grown (g:=D) (o:=.cells #[.string Y,.int .i64 A1] 133 (0,0)) bk hg (Kd.R_away A5.o (fun _ hk=>hk.2)));have Ag:=aK (hb);have Ah:=aK (ho);clear Z;clear A4;clear HB;clear A5;have Z:=Ae;have A4:=Af;have HB:=Ag;have Aa:=Ah;clear Ae Af Ag Ah;clear ho hb hg hat)))
      go_ret
      exact⟨_,fe,rpR (rM Aa.o (fun _ hk=>trivial)),bl⟩
     ·rw[if_neg Ck]at H;exact absurd H (by simp)
mutual
def spec_l4Apply.j0:Nat→List (S133)→Int→Bool→Int→ByteArray→ByteArray→Int→Option ((List (S133))×Bool)
 | 0,_,_,_,_,_,_,_=>none
 |k+1,x0,x6,Bc,A5,Y,Z,A1=>if Bc=true then((spec_l4With.f k x0 Y A1).bind fun Az=>(some (Az,true)))else(if A5=2 then(if A1=0 then(if x6≥0 then((spec_l4Name.f k Z).bind fun A_=>(if A_=true then(spec_l4Apply.j1 k x0 x6 (Z.toList != Y.toList) A5 Y Z A1)else(spec_l4Apply.j1 k x0 x6 false A5 Y Z A1)))else(spec_l4Apply.j1 k x0 x6 false A5 Y Z A1))else(spec_l4Apply.j1 k x0 x6 false A5 Y Z A1))else(spec_l4Apply.j1 k x0 x6 false A5 Y Z A1))
def spec_l4Apply.j1:Nat→List (S133)→Int→Bool→Int→ByteArray→ByteArray→Int→Option ((List (S133))×Bool)
 | 0,_,_,_,_,_,_,_=>none
 |k+1,x0,x6,Bd,A5,Y,Z,A1=>if Bd=true then((spec_l4Without.f k x0 Y).bind fun Av=>(if 0≤x6 then(if x6<(x0.length:Int)then((spec_l4With.f k Av Z ((rd_T133 x0 x6).f1)).bind fun AA=>(some (AA,true)))else(none))else(none)))else(if A5=3 then(if A1=0 then(if Z.toList=([]:List UInt8)then(if x6≥0 then((spec_l4Without.f k x0 Y).bind fun AB=>(some (AB,true)))else(some (x0,false)))else(some (x0,false)))else(some (x0,false)))else(some (x0,false)))
end
def spec_l4Apply.f (k:Nat) (l0:List (S133)) (A7:Int) (A0:ByteArray) (A2:ByteArray) (A8:Int):Option ((List (S133))×Bool):=(spec_l4At.f k l0 A0).bind fun X=>((spec_l4Name.f k A0).bind fun AC=>(if AC=true then(if A7=1 then(if A2.toList=([]:List UInt8)then(spec_l4Apply.j0 k l0 X (decide (X<0)) A7 A0 A2 A8)else(spec_l4Apply.j0 k l0 X false A7 A0 A2 A8))else(spec_l4Apply.j0 k l0 X false A7 A0 A2 A8))else(some (l0,false))))
def spec_l4Apply.T7:Bool×List (List Nat×List Nat):=(true,[([],[]),([],[]),([1],[1]),([0,2],[0,2]),([],[]),([4],[4]),([],[]),([],[]),([6,7],[6,7]),([8],[8]),([9],[9]),([5,10],[5,10]),([3,11,3],[3,11]),([12,12,0,1,2,3,4,5,6,7,8,9,10,11,12],[12]),([13,0,1,2,3,4,5,6,7,8,9,10,11,12,13],[])])
def spec_l4Apply.B7:List Nat:=[0,0,2,7,0,16,0,0,192,448,960,2032,4095,8191,16383]
theorem spec_l4Apply.tab7:rtab .any (opsOf Tryz.f105 7)=spec_l4Apply.T7:=by kernel_rfl
theorem spec_l4Apply.bits7:waitsOk spec_l4Apply.T7.2 spec_l4Apply.B7=true:=by kernel_rfl
theorem spec_l4Apply.calls (k:Nat) (A6:Nat→Prop) (Ah:Value) (l0:List (S133)) (A7:Int) (A0:ByteArray) (A2:ByteArray) (A8:Int) (r1:List (S133)) (r2:Bool) (w0 w:World) (hB:Below w0.heap.size w0 w) (Aa:Kd.R k133 133 w w0.heap.size A6 Ah l0) (h:spec_l4Apply.f k l0 A7 A0 A2 A8=some (r1,r2)) :
 Calls Tryz.prog 105 #[Ah,.agg #[.int .i64 A7,.string A0,.string A2,.int .i64 A8]] w fun e w'=>∃B5:Value,e = .returned (.tuple #[B5,.bool r2])∧Kd.R k133 133 w' w0.heap.size (fun k_=>(A6 k_∨w.heap.size≤k_)) B5 r1∧Below w0.heap.size w0 w'∧Kept w w' (fun k_=>A6 k_):=by
 have Be:=Tryz.underlying135;have Bf:=Tryz.underlying133;have Ac:=aK (show Kd.R k133 133 w w0.heap.size (fun k_=>(A6 k_∨w.heap.size≤k_)) Ah l0 from rM Aa (fun k_ hk=>(.inl hk)));have HK:=aK (Kept.refl w (fun k_=>A6 k_));have Bz:=aK hB.size;have HB:=aK hB;clear hB;have H:=h;unfold spec_l4Apply.f at H;clear h;obtain⟨X,A3,H⟩:=bd H;obtain⟨AC,A4,H⟩:=bd H;by_cases c5:AC=true
 ·subst c5;replace H:=iT H;have AW:=aK H;clear H
  go_enter Tryz.func105,Tryz.ntmps105
  go_upto_region 4 with(first|((with_reducible refine gD 3 rfl ?_);refine boxW ?_;intro A9 hg Bg hbox hb;replace Ac:=rb Ac hb;have D:=aK hbox;have J:=aK ((by rw[hg];exact(by first|exact HK.out.1|exact(show Kept w _ (fun k_=>A6 k_)from by repeat (first|(with_reducible first|exact HK.o|apply Kept.alloc|apply Kept.drewN|apply Kept.drew)|exact HK.o)).1):w.heap.size≤A9));replace HK:=aK (Kept.below (S:=(fun k_=>A6 k_)) (by repeat (first|(with_reducible first|exact HK.o|apply Kept.alloc|apply Kept.drewN|apply Kept.drew)|exact HK.o)) hb);have J:=gw (w:=w0) hg;replace HB:=bs (w:=w0) hb;clear hb hbox hg;have:=cf4 D;obtain⟨AD,AE,rfl⟩:=rs Ac)|((with_reducible refine gC 160 rfl ?_);refine goesW Tryz.func160 ?_;(with_reducible refine(spec_l4At.calls k _ _ l0 A0 X _ ?_ ?_ A3.o).mono ?_);exact ca (cR Ac.o);exact cl Ac;rintro e w' ⟨rfl,⟨nd,rfl⟩⟩;refine⟨_,rfl,?_⟩)|((with_reducible refine gC 103 rfl ?_);refine goesW Tryz.func103 ?_;(with_reducible refine(spec_l4Name.calls k A0 _ _ A4.o).mono ?_);rintro e w' ⟨rfl,⟨nd,rfl⟩⟩;refine⟨_,rfl,?_⟩))
  (try simp only[Act.put,List.setIfInBounds_toArray,List.set_cons_zero,List.set_cons_succ])
  go_cut [17] (fun Bh wc=>∃(kq:Nat) (Ai:Bool),Bh = .bool Ai∧Aside0 (spec_l4Apply.j0 kq l0 X Ai A7 A0 A2 A8=some (r1,r2))∧Aside0 (kq≤k)∧Aside0 (Kd.R k133 133 wc w0.heap.size (fun k_=>(A6 k_∨w.heap.size≤k_)) (.slice AD l0.length AE) l0)∧Aside0 (wc.heap[A9]? = some (.cells #[.int .i64 A7,.string A0,.string A2,.int .i64 A8] 135 (0,0)))∧Aside0 (Kept w wc (fun k_=>A6 k_))∧Aside0 (Below w0.heap.size w0 wc))
  case first=>
   have H:=AW.o;clear AW;by_cases c10:A7=1
   ·rw[if_pos c10]at H;have Ab:=bT c10;have Am:=bE c10;clear c10;(first|rw[Ab]|(simp only[i64_w,i32_w];rw[Ab])|skip);by_cases Aj:A2.toList=([]:List UInt8)
    ·rw[if_pos Aj]at H;have Ag:=bT Aj;have An:=Ag;simp only[show ∀l_:List UInt8,(l_ == [])=l_.isEmpty from fun l_=>by cases l_<;>rfl]at An;have Ao:=bE Aj;clear Aj;have H':=aK H;clear H;have:=cf4 D;go_wp2
     go_meet
     case rel=>exact⟨_,(decide (X<0)),fa,H',⟨by first|omega|exact Nat.le_refl _⟩,⟨rpR Ac.o⟩,⟨bw D⟩,⟨by repeat (first|(with_reducible first|exact HK.o|apply Kept.alloc|apply Kept.drewN|apply Kept.drew|refine Kept.setCell ?_ (.inr J.o) _)|exact HK.o)⟩,⟨bl⟩⟩
    ·rw[if_neg Aj]at H;have Ag:=bN Aj;have An:=Ag;simp only[show ∀l_:List UInt8,(l_ == [])=l_.isEmpty from fun l_=>by cases l_<;>rfl]at An;have Ao:=bQ Aj;have H':=aK H;clear H;have:=cf4 D;go_wp2
     go_meet
     case rel=>exact⟨_,(false),fa,H',⟨by first|omega|exact Nat.le_refl _⟩,⟨rpR Ac.o⟩,⟨bw D⟩,⟨by repeat (first|(with_reducible first|exact HK.o|apply Kept.alloc|apply Kept.drewN|apply Kept.drew|refine Kept.setCell ?_ (.inr J.o) _)|exact HK.o)⟩,⟨bl⟩⟩
   ·rw[if_neg c10]at H;have Ab:=bN c10;have Am:=bQ c10;(first|rw[Ab]|(simp only[i64_w,i32_w];rw[Ab])|skip);have H':=aK H;clear H;have:=cf4 D;go_wp2
    go_meet
    case rel=>exact⟨_,(false),fa,H',⟨by first|omega|exact Nat.le_refl _⟩,⟨rpR Ac.o⟩,⟨bw D⟩,⟨by repeat (first|(with_reducible first|exact HK.o|apply Kept.alloc|apply Kept.drewN|apply Kept.drew|refine Kept.setCell ?_ (.inr J.o) _)|exact HK.o)⟩,⟨bl⟩⟩
  case rest=>
   clear AW;(try clear c1);(try clear p2);(try clear c5);(try clear c10);(try clear Ab);(try clear Am);(try clear Aj);(try clear Ag);(try clear Ao);obtain⟨kq,Ai,rfl,HA,AF,U,D,HK,HB⟩:=hcut;cases kq with
   |zero=>exact absurd HA.o (by simp[spec_l4Apply.j0])
   |succ AR=>
    have H:=HA.o;clear HA;simp only[spec_l4Apply.j0]at H;by_cases AG:Ai=true
    ·subst AG;replace H:=iT H;obtain⟨Az,Bi,H⟩:=bd H;simp only[Option.some.injEq,Prod.mk.injEq]at H;obtain⟨rfl,rfl⟩:=H;have:=cf4 D;go_wp2_with (first|((with_reducible refine gC 161 rfl ?_);refine goesW Tryz.func161 ?_;(with_reducible refine(spec_l4With.calls AR _ _ l0 A0 A8 Az _ ?_ ?_ Bi.o).mono ?_);exact ca (cR U.o);exact cl U;rintro e B_ ⟨BA,rfl,Aa,hb⟩;refine⟨_,rfl,?_⟩;have B6:=rl HB (Kd.R_new' (Kd.R_newM (M:=fun k_=>(A6 k_∨w.heap.size≤k_)) Aa (by first|exact HK.out.1|exact(show Kept w _ (fun k_=>A6 k_)from by repeat (first|(with_reducible first|exact HK.o|apply Kept.alloc|apply Kept.drewN|apply Kept.drew|refine Kept.setCell ?_ (.inr J.o) _)|exact HK.o)).1) (fun k_ h_=>.inr h_)) (Kd.R_lt (rpR U.o)));replace U:=re U.o Aa hb;replace D:=bv D hb;replace HK:=aK (Kept.below (S:=(fun k_=>A6 k_)) (by repeat (first|(with_reducible first|exact HK.o|apply Kept.alloc|apply Kept.drewN|apply Kept.drew|refine Kept.setCell ?_ (.inr J.o) _)|exact HK.o)) hb);replace HB:=bs (w:=w0) hb;(try clear hb Aa)))
     go_ret2
     exact⟨_,fe,rpR (rM B6.o (fun _ hk=>hk.1.1)),bl,by repeat (first|(with_reducible first|exact HK.o|apply Kept.alloc|apply Kept.drewN|apply Kept.drew|refine Kept.setCell ?_ (.inr J.o) _)|exact HK.o)⟩
    ·replace AG:=bF AG;subst AG;replace H:=iF H;have AH:=aK H;clear H;go_upto_region 6 with(fail)
     go_cut [37] (fun Bj wc=>∃(kq:Nat) (Af:Bool),Bj = .bool Af∧Aside0 (spec_l4Apply.j1 kq l0 X Af A7 A0 A2 A8=some (r1,r2))∧Aside0 (kq≤AR)∧Aside0 (Kd.R k133 133 wc w0.heap.size (fun k_=>(A6 k_∨w.heap.size≤k_)) (.slice AD l0.length AE) l0)∧Aside0 (wc.heap[A9]? = some (.cells #[.int .i64 A7,.string A0,.string A2,.int .i64 A8] 135 (0,0)))∧Aside0 (Kept w wc (fun k_=>A6 k_))∧Aside0 (Below w0.heap.size w0 wc))
     case first=>
      have H:=AH.o;clear AH;by_cases Ak:A7=2
      ·rw[if_pos Ak]at H;have Ad:=bT Ak;have AI:=bE Ak;clear Ak;(first|rw[Ad]|(simp only[i64_w,i32_w];rw[Ad])|skip);by_cases Al:A8=0
       ·rw[if_pos Al]at H;have AJ:=bT Al;have AK:=bE Al;clear Al;by_cases Ap:X≥0
        ·rw[if_pos Ap]at H;have AL:=dt Ap;clear Ap;obtain⟨A_,B8,H⟩:=bd H;by_cases AM:A_=true
         ·subst AM;replace H:=iT H;have H':=aK H;clear H;have:=cf4 D;go_wp2_with (first|(go_at_call 103;(with_reducible refine(spec_l4Name.calls AR A2 _ _ B8.o).mono ?_);rintro e w' ⟨rfl,⟨nd,rfl⟩⟩))
          go_meet
          case rel=>exact⟨_,((A2.toList != A0.toList)),fa,H',⟨by have:=AF.o;first|omega|exact Nat.le_refl _⟩,⟨rpR U.o⟩,⟨bw D⟩,⟨by repeat (first|(with_reducible first|exact HK.o|apply Kept.alloc|apply Kept.drewN|apply Kept.drew|refine Kept.setCell ?_ (.inr J.o) _)|exact HK.o)⟩,⟨bl⟩⟩
         ·replace AM:=bF AM;subst AM;replace H:=iF H;have H':=aK H;clear H;have:=cf4 D;go_wp2_with (first|(go_at_call 103;(with_reducible refine(spec_l4Name.calls AR A2 _ _ B8.o).mono ?_);rintro e w' ⟨rfl,⟨nd,rfl⟩⟩))
          go_meet
          case rel=>exact⟨_,(false),fa,H',⟨by have:=AF.o;first|omega|exact Nat.le_refl _⟩,⟨rpR U.o⟩,⟨bw D⟩,⟨by repeat (first|(with_reducible first|exact HK.o|apply Kept.alloc|apply Kept.drewN|apply Kept.drew|refine Kept.setCell ?_ (.inr J.o) _)|exact HK.o)⟩,⟨bl⟩⟩
        ·rw[if_neg Ap]at H;have AL:=df Ap;clear Ap;have H':=aK H;clear H;have:=cf4 D;go_wp2
         go_meet
         case rel=>exact⟨_,(false),fa,H',⟨by have:=AF.o;first|omega|exact Nat.le_refl _⟩,⟨rpR U.o⟩,⟨bw D⟩,⟨by repeat (first|(with_reducible first|exact HK.o|apply Kept.alloc|apply Kept.drewN|apply Kept.drew|refine Kept.setCell ?_ (.inr J.o) _)|exact HK.o)⟩,⟨bl⟩⟩
       ·rw[if_neg Al]at H;have AJ:=bN Al;have AK:=bQ Al;have H':=aK H;clear H;have:=cf4 D;go_wp2
        go_meet
        case rel=>exact⟨_,(false),fa,H',⟨by have:=AF.o;first|omega|exact Nat.le_refl _⟩,⟨rpR U.o⟩,⟨bw D⟩,⟨by repeat (first|(with_reducible first|exact HK.o|apply Kept.alloc|apply Kept.drewN|apply Kept.drew|refine Kept.setCell ?_ (.inr J.o) _)|exact HK.o)⟩,⟨bl⟩⟩
      ·rw[if_neg Ak]at H;have Ad:=bN Ak;have AI:=bQ Ak;(first|rw[Ad]|(simp only[i64_w,i32_w];rw[Ad])|skip);have H':=aK H;clear H;have:=cf4 D;go_wp2
       go_meet
       case rel=>exact⟨_,(false),fa,H',⟨by have:=AF.o;first|omega|exact Nat.le_refl _⟩,⟨rpR U.o⟩,⟨bw D⟩,⟨by repeat (first|(with_reducible first|exact HK.o|apply Kept.alloc|apply Kept.drewN|apply Kept.drew|refine Kept.setCell ?_ (.inr J.o) _)|exact HK.o)⟩,⟨bl⟩⟩
     case rest=>
      clear AH;(try clear c1);(try clear c2);(try clear p2);(try clear c5);(try clear c10);(try clear Ab);(try clear Am);(try clear Aj);(try clear Ag);(try clear Ao);(try clear AG);(try clear BB);(try clear Ak);(try clear Ad);(try clear AI);(try clear Al);(try clear AJ);(try clear AK);(try clear Ap);(try clear AL);(try clear AM);(try clear p2);obtain⟨kq,Af,rfl,HA,Bw,U,D,HK,HB⟩:=hcut;cases kq with
      |zero=>exact absurd HA.o (by simp[spec_l4Apply.j1])
      |succ AN=>
       have H:=HA.o;clear HA;simp only[spec_l4Apply.j1]at H;by_cases AS:Af=true
       ·subst AS;replace H:=iT H;obtain⟨Av,Bk,H⟩:=bd H;by_cases AT:0≤X
        ·rw[if_pos AT]at H;have Bl:=dt AT;clear AT;by_cases AU:X<(l0.length:Int)
         ·rw[if_pos AU]at H;have Bm:=dt AU;clear AU;obtain⟨AA,Bn,H⟩:=bd H;simp only[Option.some.injEq,Prod.mk.injEq]at H;obtain⟨rfl,rfl⟩:=H;(try go_wp2);replace U:=dR U;replace D:=dB D;replace HK:=aK (Kept.drew HK.o);replace HB:=dW HB;have AX:0≤(X:Int):=dT am;have AY:X<(l0.length:Int):=dT am;obtain⟨AO,Bo,Aw,Ax⟩:=at_T133 (Kd.R_reads' U.o).2.2 X AX AY;cases Bo;replace AX:=eq_true AX;replace AY:=eq_true AY;refine start_ (n:=15) (S:=fun w'=>w'.cell? ⟨A9,0,none⟩=some (.int .i64 A7)∧w'.cell? ⟨A9,1,none⟩=some (.string A0)∧w'.cell? ⟨A9,2,none⟩=some (.string A2)∧w'.cell? ⟨A9,3,none⟩=some (.int .i64 A8)∧w'.cell? (AO.add ((X).toNat*2))=some (.string ((rd_T133 l0 X).f0))∧w'.cell? ⟨(AO.add ((X).toNat*2)).block,(AO.add ((X).toNat*2)).off+1,none⟩=some (.int .i64 ((rd_T133 l0 X).f1))) (ds:=[]) (bo 15 0) (by kernel_rfl) rfl rfl ⟨cb 0 D,cb 1 D,cb 2 D,cb 3 D,Aw,Ax⟩ (fun hHeld=>?_);refine with_tabW spec_l4Apply.tab7 spec_l4Apply.bits7 (fun HT_ HW_=>?_);generalize wc.drew=Bp at U D HK HB Aw Ax hHeld ⊢;refine pV 0 62 (bo 15 1) ?_;refine pV 1 63 (bo 15 3) ?_;refine pV 4 66 (bo 15 19) ?_;refine pV 6 68 (bo 15 83) ?_;refine pV 7 69 (bo 15 211) ?_
          refine pV 8 70 (bo 15 467) ?_;refine pV 9 71 (bo 15 979) ?_;refine tV 2 64 (bo 15 983) ?_;refine tV 5 67 (bo 15 1015) ?_;refine tV 10 72 (bo 15 2039) ?_;refine pV 11 73 (bo 15 4087) ?_;refine o1 3 65 (bo 15 4095) (fun K hK=>?_);refine goesV Tryz.func162 ?_;(with_reducible refine(spec_l4Without.calls AN _ _ l0 A0 Av _ ?_ ?_ Bk.o).mono ?_);exact ca (cR U.o);exact cl U;rintro e BC ⟨Bq,rfl,Aa,hb⟩;have AP:=(hb.cell (bL _ _ (hHeld.2.2.2.2.1))).trans (hHeld.2.2.2.2.1);have AQ:=(hb.cell (bL _ _ (hHeld.2.2.2.2.2))).trans (hHeld.2.2.2.2.2);refine⟨_,rfl,?_⟩;have Ae:=rl HB (Kd.R_new' (Kd.R_newM (M:=fun k_=>(A6 k_∨w.heap.size≤k_)) Aa (by first|exact HK.out.1|exact(show Kept w _ (fun k_=>A6 k_)from by repeat (first|(with_reducible first|exact HK.o|apply Kept.alloc|apply Kept.drewN|apply Kept.drew|refine Kept.setCell ?_ (.inr J.o) _)|exact HK.o)).1) (fun k_ h_=>.inr h_)) (Kd.R_lt (rpR U.o)));replace U:=re U.o Aa hb;replace D:=bv D hb;replace HK:=aK (Kept.below (S:=(fun k_=>A6 k_)) (by repeat (first|(with_reducible first|exact HK.o|apply Kept.alloc|apply Kept.drewN|apply Kept.drew|refine Kept.setCell ?_ (.inr J.o) _)|exact HK.o)) hb);replace HB:=bs (w:=w0) hb;(try clear hb Br hk hi Aa);obtain⟨Bx,By,AV⟩:=rs Ae
          (first|subst AV|(injection AV with B9 Bs Ba;have Bt:=B9.symm;have Bu:=Ba.symm;clear B9 Bs Ba;subst Bt;subst Bu));refine hK.out _ _ ⟨cb 0 D,cb 1 D,cb 2 D,cb 3 D,AP,AQ⟩ (fun hHeld=>?_);clear hK K;refine nm 65 ?_;refine o1 12 74 (bo 15 8191) (fun K hK=>?_);refine goesV Tryz.func161 ?_;(with_reducible refine(spec_l4With.calls AN _ _ Av A2 ((rd_T133 l0 X).f1) AA _ ?_ ?_ Bn.o).mono ?_);exact ca (cR Ae.o);exact cl Ae;rintro e BD ⟨BE,rfl,Aa,hb⟩;have AP:=(hb.cell (bL _ _ (hHeld.2.2.2.2.1))).trans (hHeld.2.2.2.2.1);have AQ:=(hb.cell (bL _ _ (hHeld.2.2.2.2.2))).trans (hHeld.2.2.2.2.2);refine⟨_,rfl,?_⟩;have Bb:=rl HB (Kd.R_new' (Kd.R_new' (Kd.R_newM (M:=fun k_=>(A6 k_∨w.heap.size≤k_)) Aa (by first|exact HK.out.1|exact(show Kept w _ (fun k_=>A6 k_)from by repeat (first|(with_reducible first|exact HK.o|apply Kept.alloc|apply Kept.drewN|apply Kept.drew|refine Kept.setCell ?_ (.inr J.o) _)|exact HK.o)).1) (fun k_ h_=>.inr h_)) (Kd.R_lt (rpR U.o))) (Kd.R_lt (rpR Ae.o)));replace U:=re U.o Aa hb;replace Ae:=re Ae.o Aa hb;replace D:=bv D hb
          replace HK:=aK (Kept.below (S:=(fun k_=>A6 k_)) (by repeat (first|(with_reducible first|exact HK.o|apply Kept.alloc|apply Kept.drewN|apply Kept.drew|refine Kept.setCell ?_ (.inr J.o) _)|exact HK.o)) hb);replace HB:=bs (w:=w0) hb;(try clear hb Br hk hi Aa);refine hK.out _ _ ⟨cb 0 D,cb 1 D,cb 2 D,cb 3 D,AP,AQ⟩ (fun hHeld=>?_);clear hK K;refine nm 74 ?_;refine pV 13 4 (bo 15 16383) ?_;refine pV 14 5 (bo 15 32767) ?_;refine done_ (done_of HT_.o (by kernel_rfl)) ?_;(try go_wp2)
          go_ret2
          exact⟨_,fe,rpR (rM Bb.o (fun _ hk=>hk.1.1.1)),bl,by repeat (first|(with_reducible first|exact HK.o|apply Kept.alloc|apply Kept.drewN|apply Kept.drew|refine Kept.setCell ?_ (.inr J.o) _)|exact HK.o)⟩
         ·rw[if_neg AU]at H;exact absurd H (by simp)
        ·rw[if_neg AT]at H;exact absurd H (by simp)
       ·replace AS:=bF AS;subst AS;replace H:=iF H;by_cases Aq:A7=3
        ·rw[if_pos Aq]at H;have AZ:=bT Aq;have B0:=bE Aq;clear Aq;by_cases Ar:A8=0
         ·rw[if_pos Ar]at H;have B1:=bT Ar;have B2:=bE Ar;clear Ar;by_cases As:A2.toList=([]:List UInt8)
          ·rw[if_pos As]at H;have At:=bT As;have Au:=At;simp only[show ∀l_:List UInt8,(l_ == [])=l_.isEmpty from fun l_=>by cases l_<;>rfl]at Au;have B3:=bE As;clear As;by_cases Ay:X≥0
           ·rw[if_pos Ay]at H;have B4:=dt Ay;clear Ay;obtain⟨AB,Bv,H⟩:=bd H;simp only[Option.some.injEq,Prod.mk.injEq]at H;obtain⟨rfl,rfl⟩:=H;have:=cf4 D;go_wp2_with (first|((with_reducible refine gC 162 rfl ?_);refine goesW Tryz.func162 ?_;(with_reducible refine(spec_l4Without.calls AN _ _ l0 A0 AB _ ?_ ?_ Bv.o).mono ?_);exact ca (cR U.o);exact cl U;rintro e Bp ⟨Bq,rfl,Aa,hb⟩;refine⟨_,rfl,?_⟩;have Ae:=rl HB (Kd.R_new' (Kd.R_newM (M:=fun k_=>(A6 k_∨w.heap.size≤k_)) Aa (by first|exact HK.out.1|exact(show Kept w _ (fun k_=>A6 k_)from by repeat (first|(with_reducible first|exact HK.o|apply Kept.alloc|apply Kept.drewN|apply Kept.drew|refine Kept.setCell ?_ (.inr J.o) _)|exact HK.o)).1) (fun k_ h_=>.inr h_)) (Kd.R_lt (rpR U.o)));replace U:=re U.o Aa hb;replace D:=bv D hb;replace HK:=aK (Kept.below (S:=(fun k_=>A6 k_)) (by repeat (first|(with_reducible first|exact HK.o|apply Kept.alloc|apply Kept.drewN|apply Kept.drew|refine Kept.setCell ?_ (.inr J.o) _)|exact HK.o)) hb);replace HB:=bs (w:=w0) hb;(try clear hb Aa)))
            go_ret2
            exact⟨_,fe,rpR (rM Ae.o (fun _ hk=>hk.1.1)),bl,by repeat (first|(with_reducible first|exact HK.o|apply Kept.alloc|apply Kept.drewN|apply Kept.drew|refine Kept.setCell ?_ (.inr J.o) _)|exact HK.o)⟩
           ·rw[if_neg Ay]at H;have B4:=df Ay;clear Ay;simp only[Option.some.injEq,Prod.mk.injEq]at H;obtain⟨rfl,rfl⟩:=H;have:=cf4 D;go_wp2
            go_ret2
            exact⟨_,fe,rpR U.o,bl,by repeat (first|(with_reducible first|exact HK.o|apply Kept.alloc|apply Kept.drewN|apply Kept.drew|refine Kept.setCell ?_ (.inr J.o) _)|exact HK.o)⟩
          ·rw[if_neg As]at H;have At:=bN As;have Au:=At;simp only[show ∀l_:List UInt8,(l_ == [])=l_.isEmpty from fun l_=>by cases l_<;>rfl]at Au;have B3:=bQ As;simp only[Option.some.injEq,Prod.mk.injEq]at H;obtain⟨rfl,rfl⟩:=H;have:=cf4 D;go_wp2
           go_ret2
           exact⟨_,fe,rpR U.o,bl,by repeat (first|(with_reducible first|exact HK.o|apply Kept.alloc|apply Kept.drewN|apply Kept.drew|refine Kept.setCell ?_ (.inr J.o) _)|exact HK.o)⟩
         ·rw[if_neg Ar]at H;have B1:=bN Ar;have B2:=bQ Ar;simp only[Option.some.injEq,Prod.mk.injEq]at H;obtain⟨rfl,rfl⟩:=H;have:=cf4 D;go_wp2
          go_ret2
          exact⟨_,fe,rpR U.o,bl,by repeat (first|(with_reducible first|exact HK.o|apply Kept.alloc|apply Kept.drewN|apply Kept.drew|refine Kept.setCell ?_ (.inr J.o) _)|exact HK.o)⟩
        ·rw[if_neg Aq]at H;have AZ:=bN Aq;have B0:=bQ Aq;simp only[Option.some.injEq,Prod.mk.injEq]at H;obtain⟨rfl,rfl⟩:=H;have:=cf4 D;go_wp2
         go_ret2
         exact⟨_,fe,rpR U.o,bl,by repeat (first|(with_reducible first|exact HK.o|apply Kept.alloc|apply Kept.drewN|apply Kept.drew|refine Kept.setCell ?_ (.inr J.o) _)|exact HK.o)⟩
 ·replace c5:=bF c5;subst c5;replace H:=iF H;simp only[Option.some.injEq,Prod.mk.injEq]at H;obtain⟨rfl,rfl⟩:=H
  go_enter Tryz.func105,Tryz.ntmps105
  go_wp2_with (first|((with_reducible refine gD 3 rfl ?_);refine boxW ?_;intro A9 hg Bg hbox hb;replace Ac:=rb Ac hb;have D:=aK hbox;have J:=aK ((by rw[hg];exact(by first|exact HK.out.1|exact(show Kept w _ (fun k_=>A6 k_)from by repeat (first|(with_reducible first|exact HK.o|apply Kept.alloc|apply Kept.drewN|apply Kept.drew)|exact HK.o)).1):w.heap.size≤A9));replace HK:=aK (Kept.below (S:=(fun k_=>A6 k_)) (by repeat (first|(with_reducible first|exact HK.o|apply Kept.alloc|apply Kept.drewN|apply Kept.drew)|exact HK.o)) hb);have J:=gw (w:=w0) hg;replace HB:=bs (w:=w0) hb;clear hb hbox hg;have:=cf4 D;obtain⟨AD,AE,rfl⟩:=rs Ac)|((with_reducible refine gC 160 rfl ?_);refine goesW Tryz.func160 ?_;(with_reducible refine(spec_l4At.calls k _ _ l0 A0 X _ ?_ ?_ A3.o).mono ?_);exact ca (cR Ac.o);exact cl Ac;rintro e w' ⟨rfl,⟨nd,rfl⟩⟩;refine⟨_,rfl,?_⟩)|((with_reducible refine gC 103 rfl ?_);refine goesW Tryz.func103 ?_;(with_reducible refine(spec_l4Name.calls k A0 _ _ A4.o).mono ?_);rintro e w' ⟨rfl,⟨nd,rfl⟩⟩;refine⟨_,rfl,?_⟩))
  go_ret2
  exact⟨_,fe,rpR Ac.o,bl,by repeat (first|(with_reducible first|exact HK.o|apply Kept.alloc|apply Kept.drewN|apply Kept.drew|refine Kept.setCell ?_ (.inr J.o) _)|exact HK.o)⟩
end Go.Proofs.YtndbmllnkjngnaaGreat.PDs
