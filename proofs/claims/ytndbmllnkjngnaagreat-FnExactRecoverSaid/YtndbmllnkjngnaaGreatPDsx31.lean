/- Functions of the program, each with its contract, written by a program out of the translation. -/
import Derived.Test.YtndbmllnkjngnaaGreatPDsx0
import Derived.Test.YtndbmllnkjngnaaGreatPDsx29
import Derived.Test.YtndbmllnkjngnaaGreatZip
namespace Go.Proofs.YtndbmllnkjngnaaGreat.PDs
open Go.RowKit Go.Proofs.YtndbmllnkjngnaaGreatW.PrintWords Go.Proofs.YtndbmllnkjngnaaGreatW.PrintLast Go.Proofs.YtndbmllnkjngnaaGreatW.PrintMore Go.Proofs.YtndbmllnkjngnaaGreat.Zip
attribute [local go_sem] max2_int min2_int max_two min_two max_three min_three max_four min_four
set_option linter.unusedVariables false
set_option linter.unusedSimpArgs false
set_option maxHeartbeats 8000000
set_option maxRecDepth 100000
def laws_markDisk.f (k:Nat) (AD:Int) (AE:Int) (Af:List (S130)) (Ag:List (S133)) (Ah:List (S135)) (a1:Int):Option (Int×(List (S130))×(List (S133))×(List (S135))):=(laws_markInodeS.f k Af a1).bind fun AF=>((laws_markLinkS.f k Ag AF.1).bind fun AG=>((laws_markMoveS.f k Ah AG.1).bind fun AH=>(some (AH.1,AF.2,AG.2,AH.2))))
theorem laws_markDisk.calls (k:Nat) (AD:Int) (AE:Int) (J:Nat→Prop) (Ai:Value) (Af:List (S130)) (U:Nat→Prop) (Aj:Value) (Ag:List (S133)) (X:Nat→Prop) (Ak:Value) (Ah:List (S135)) (a1:Int) (r1:Int) (r2:List (S130)) (r3:List (S133)) (r4:List (S135)) (w0 w:World) (hB:Below w0.heap.size w0 w) (B6:Kd.R k130 130 w w0.heap.size J Ai Af) (B8:Kd.R k133 133 w w0.heap.size U Aj Ag) (B9:Kd.R k135 135 w w0.heap.size X Ak Ah) (h:laws_markDisk.f k AD AE Af Ag Ah a1=some (r1,r2,r3,r4)) :
 Calls Tryz.prog 15 #[.agg #[.int .i64 AD,.int .i64 AE,Ai,Aj,Ak],.int .i64 a1] w fun e w'=>e = .returned (.int .i64 r1)∧Kd.R k130 130 w' w0.heap.size (fun k_=>((J k_∨U k_∨X k_)∨w.heap.size≤k_)) Ai r2∧Kd.R k133 133 w' w0.heap.size (fun k_=>((J k_∨U k_∨X k_)∨w.heap.size≤k_)) Aj r3∧Kd.R k135 135 w' w0.heap.size (fun k_=>((J k_∨U k_∨X k_)∨w.heap.size≤k_)) Ak r4∧Below w0.heap.size w0 w'∧Kept w w' (fun k_=>J k_∨U k_∨X k_):=by
 have BC:=Tryz.underlying35;have Y:=aK (show Kd.R k130 130 w w0.heap.size (fun k_=>((J k_∨U k_∨X k_)∨w.heap.size≤k_)) Ai Af from rM B6 (fun k_ hk=>(.inl (.inl hk))));have Z:=aK (show Kd.R k133 133 w w0.heap.size (fun k_=>((J k_∨U k_∨X k_)∨w.heap.size≤k_)) Aj Ag from rM B8 (fun k_ hk=>(.inl (.inr (.inl hk)))));have A1:=aK (show Kd.R k135 135 w w0.heap.size (fun k_=>((J k_∨U k_∨X k_)∨w.heap.size≤k_)) Ak Ah from rM B9 (fun k_ hk=>(.inl (.inr (.inr hk)))));have HK:=aK (Kept.refl w (fun k_=>J k_∨U k_∨X k_));have HW0:=aK hB.size;have HB:=aK hB;clear hB;have H:=h;unfold laws_markDisk.f at H;clear h;replace H:=oB H;obtain⟨⟨B3,Be⟩,Bf,H⟩:=H;dsimp only at H;have A3:=aK Bf;clear Bf;replace H:=oB H;obtain⟨⟨B5,Bg⟩,Bh,H⟩:=H;dsimp only at H
 have A4:=aK Bh;clear Bh;replace H:=oB H;obtain⟨⟨Bi,Bj⟩,Bk,H⟩:=H;dsimp only at H;have A5:=aK Bk;clear Bk;obtain⟨rfl,rfl,rfl,rfl⟩:=t4 H;obtain⟨Bl,Bm,Bx⟩:=rs Y;subst Bx;obtain⟨Bn,Bo,By⟩:=rs Z;subst By;obtain⟨Bp,Bq,Bz⟩:=rs A1;subst Bz
 go_enter Tryz.func15,Tryz.ntmps15
 go_wp2_with (first|((with_reducible refine gd 2 ?_);refine boxW ?_;intro Ba hg w9 hbox hb;replace Y:=rb Y hb;replace Z:=rb Z hb;replace A1:=rb A1 hb;have A7:=aK hbox;have A8:=aK ((by rw[hg];exact(by first|exact HK.out.1|exact(show Kept w _ (fun k_=>J k_∨U k_∨X k_)from by repeat (first|(with_reducible first|exact HK.o|apply Kept.alloc|apply Kept.drewN|apply Kept.drew)|exact HK.o)).1):w.heap.size≤Ba));replace HK:=aK (Kept.below (S:=(fun k_=>J k_∨U k_∨X k_)) (by repeat (first|(with_reducible first|exact HK.o|apply Kept.alloc|apply Kept.drewN|apply Kept.drew)|exact HK.o)) hb);have A8:=gw (w:=w0) hg;replace HB:=bs (w:=w0) hb;clear hb hbox hg;have:=cf5 A7)|((with_reducible refine gc 64 ?_);refine goesW Tryz.func64 ?_;(with_reducible refine(laws_markInodeS.calls k (fun k_=>some k_=(.slice Bl Af.length Bm:Value).ownBlock) (.slice Bl Af.length Bm) Af a1 B3 Be w0 _ ?_ ?_ A3.o).mono ?_);repeat (first|(with_reducible first|exact HB.o|apply below_alloc|apply pw_below_drewN|apply below_drew1|refine below_set ?_ A8.o)|exact HB.o);exact Kd.R_tight rfl Y.o;rintro e BD ⟨rfl,AI,hb,hkp⟩;refine⟨_,rfl,?_⟩;replace Z:=aK (rM (ok':=fun k_=>((J k_∨U k_∨X k_)∨w.heap.size≤k_)) (Kd.R_keptB ((Kd.R_apart' Z.o (Kd.R_typed Y.o) (by decide))) hkp (fun k_ hk_ hs_=>(hk_.2) hs_)) (fun k_ hk_=>hk_.1.1));replace A1:=aK (rM (ok':=fun k_=>((J k_∨U k_∨X k_)∨w.heap.size≤k_)) (Kd.R_keptB ((Kd.R_apart' A1.o (Kd.R_typed Y.o) (by decide))) hkp (fun k_ hk_ hs_=>(hk_.2) hs_)) (fun k_ hk_=>hk_.1.1));replace A7:=aK (blk_kept bk hkp (fun hs_=>(fun e_=>(Kd.R_ne Y.o A7.o (by decide)) e_) hs_));replace HK:=aK (Kept.then_ (S:=(fun k_=>J k_∨U k_∨X k_)) (by repeat (first|(with_reducible first|exact HK.o|apply Kept.alloc|apply Kept.drewN|apply Kept.drew|refine Kept.setCell ?_ (.inr A8.o) _)|exact HK.o)) hkp (fun k_ hs_=>(fun e_=>(Y.out.1 k_ e_.symm)) hs_));replace Y:=aK (Kd.R_reok rfl AI (fun k_ e_=>Y.out.1 k_ e_));replace HB:=aK (hb);have:=cf5 A7)|((with_reducible refine gc 65 ?_);refine goesW Tryz.func65 ?_;(with_reducible refine(laws_markLinkS.calls k (fun k_=>some k_=(.slice Bn Ag.length Bo:Value).ownBlock) (.slice Bn Ag.length Bo) Ag B3 B5 Bg w0 _ ?_ ?_ A4.o).mono ?_);repeat (first|(with_reducible first|exact HB.o|apply below_alloc|apply pw_below_drewN|apply below_drew1|refine below_set ?_ A8.o)|exact HB.o);exact Kd.R_tight rfl Z.o;rintro e BE ⟨rfl,AI,hb,hkp⟩;refine⟨_,rfl,?_⟩;replace Y:=aK (rM (ok':=fun k_=>((J k_∨U k_∨X k_)∨w.heap.size≤k_)) (Kd.R_keptB ((Kd.R_apart' Y.o (Kd.R_typed Z.o) (by decide))) hkp (fun k_ hk_ hs_=>(hk_.2) hs_)) (fun k_ hk_=>hk_.1.1));replace A1:=aK (rM (ok':=fun k_=>((J k_∨U k_∨X k_)∨w.heap.size≤k_)) (Kd.R_keptB ((Kd.R_apart' A1.o (Kd.R_typed Z.o) (by decide))) hkp (fun k_ hk_ hs_=>(hk_.2) hs_)) (fun k_ hk_=>hk_.1.1));replace A7:=aK (blk_kept bk hkp (fun hs_=>(fun e_=>(Kd.R_ne Z.o A7.o (by decide)) e_) hs_));replace HK:=aK (Kept.then_ (S:=(fun k_=>J k_∨U k_∨X k_)) (by repeat (first|(with_reducible first|exact HK.o|apply Kept.alloc|apply Kept.drewN|apply Kept.drew|refine Kept.setCell ?_ (.inr A8.o) _)|exact HK.o)) hkp (fun k_ hs_=>(fun e_=>(Z.out.1 k_ e_.symm)) hs_));replace Z:=aK (Kd.R_reok rfl AI (fun k_ e_=>Z.out.1 k_ e_));replace HB:=aK (hb);have:=cf5 A7)|((with_reducible refine gc 66 ?_);refine goesW Tryz.func66 ?_;(with_reducible refine(laws_markMoveS.calls k (fun k_=>some k_=(.slice Bp Ah.length Bq:Value).ownBlock) (.slice Bp Ah.length Bq) Ah B5 Bi Bj w0 _ ?_ ?_ A5.o).mono ?_);repeat (first|(with_reducible first|exact HB.o|apply below_alloc|apply pw_below_drewN|apply below_drew1|refine below_set ?_ A8.o)|exact HB.o);exact Kd.R_tight rfl A1.o;rintro e BF ⟨rfl,AI,hb,hkp⟩;refine⟨_,rfl,?_⟩;replace Y:=aK (rM (ok':=fun k_=>((J k_∨U k_∨X k_)∨w.heap.size≤k_)) (Kd.R_keptB ((Kd.R_apart' Y.o (Kd.R_typed A1.o) (by decide))) hkp (fun k_ hk_ hs_=>(hk_.2) hs_)) (fun k_ hk_=>hk_.1.1));replace Z:=aK (rM (ok':=fun k_=>((J k_∨U k_∨X k_)∨w.heap.size≤k_)) (Kd.R_keptB ((Kd.R_apart' Z.o (Kd.R_typed A1.o) (by decide))) hkp (fun k_ hk_ hs_=>(hk_.2) hs_)) (fun k_ hk_=>hk_.1.1));replace A7:=aK (blk_kept bk hkp (fun hs_=>(fun e_=>(Kd.R_ne A1.o A7.o (by decide)) e_) hs_));replace HK:=aK (Kept.then_ (S:=(fun k_=>J k_∨U k_∨X k_)) (by repeat (first|(with_reducible first|exact HK.o|apply Kept.alloc|apply Kept.drewN|apply Kept.drew|refine Kept.setCell ?_ (.inr A8.o) _)|exact HK.o)) hkp (fun k_ hs_=>(fun e_=>(A1.out.1 k_ e_.symm)) hs_));replace A1:=aK (Kd.R_reok rfl AI (fun k_ e_=>A1.out.1 k_ e_));replace HB:=aK (hb)))
 go_ret
 exact⟨fe,rpR Y.o,rpR Z.o,rpR A1.o,bl,by repeat (first|(with_reducible first|exact HK.o|apply Kept.alloc|apply Kept.drewN|apply Kept.drew|refine Kept.setCell ?_ (.inr A8.o) _)|exact HK.o)⟩
def spec_l1In.f (a0:Int) (a1:Int) (a2:Int):Option (Bool):=if a0≥a1 then(some (decide (a0≤a2)))else(some false)
theorem spec_l1In.calls (a0:Int) (a1:Int) (a2:Int) (r:Bool) (w:World) (h:spec_l1In.f a0 a1 a2=some r) :
 Calls Tryz.prog 99 #[.int .i64 a0,.int .i64 a1,.int .i64 a2] w fun e w'=>e = .returned (.bool r)∧Drawn0 w w':=by
 have H:=h;unfold spec_l1In.f at H;clear h;by_cases c4:a0≥a1
 ·rw[if_pos c4]at H;have Ap:=dt c4;clear c4;obtain rfl:=oj H
  go_enter Tryz.func99,Tryz.ntmps99
  go_wp2
  go_ret
  exact⟨fa,fd⟩
 ·rw[if_neg c4]at H;have Ap:=df c4;clear c4;obtain rfl:=oj H
  go_enter Tryz.func99,Tryz.ntmps99
  go_wp2
  go_ret
  exact⟨fa,fd⟩
def spec_l4Bytes.l0:Nat→Int→Int→Int→Int→List (S130)→List (S133)→List (S135)→Option (Int)
 | 0,_,_,_,_,_,_,_=>none
 |k+1,x3,x4,Bv,Bw,Az,Bx,By=>if x4<(Az.length:Int)then(if 0≤x4 then(spec_l4Bytes.l0 k (wrap64 (x3+(((rd_T130 Az x4).f1).size:Int))) (wrap64 (x4+1)) Bv Bw Az Bx By)else(none))else(some x3)
def spec_l4Bytes.f (k:Nat) (Af:Int) (Ag:Int) (A8:List (S130)) (A9:List (S133)) (Aa:List (S135)):Option (Int):=spec_l4Bytes.l0 k 0 0 Af Ag A8 A9 Aa
theorem spec_l4Bytes.calls (k:Nat) (Af:Int) (Ag:Int) (A_:Option Addr) (AA:Nat) (A8:List (S130)) (AB:Option Addr) (AC:Nat) (A9:List (S133)) (AD:Option Addr) (AE:Nat) (Aa:List (S135)) (r:Int) (w:World) (AF:Kd.C k130 w A_ A8.length A8) (AG:A8.length≤AA) (AH:Kd.C k133 w AB A9.length A9) (AI:A9.length≤AC) (AJ:Kd.C k135 w AD Aa.length Aa) (AK:Aa.length≤AE) (h:spec_l4Bytes.f k Af Ag A8 A9 Aa=some r) :
 Calls Tryz.prog 100 #[.agg #[.int .i64 Af,.int .i64 Ag,.slice A_ A8.length AA,.slice AB A9.length AC,.slice AD Aa.length AE]] w fun e w'=>e = .returned (.int .i64 r)∧Below w.heap.size w w':=by
 have Cx:=Tryz.underlying35;have Bb:=aK AF;have C8:=aK AG;clear AF AG;have C9:=aK AH;have Ca:=aK AI;clear AH AI;have Cb:=aK AJ;have Cc:=aK AK;clear AJ AK;have HB:=aK (Below.refl w.heap.size w);have H:=h;unfold spec_l4Bytes.f at H;clear h;have H':=aK H;clear H
 go_enter Tryz.func100,Tryz.ntmps100
 go_wp2_with (first|((with_reducible refine gd 1 ?_);refine boxQ HB ?_;clear HB;intro Cd hg w2 AL CZ HB hb;clear hb hg))
 go_loopg [3,4] k (fun kq v3 v4 w'=>∃(Z:Int) (An:Int),v3 = .int .i64 Z∧v4 = .int .i64 An∧Aside0 (spec_l4Bytes.l0 kq Z An Af Ag A8 A9 Aa=some r)∧Aside0 (kq≤k)∧Aside0 (w'.heap[Cd]? = some (.cells #[.int .i64 Af,.int .i64 Ag,(.slice A_ A8.length AA),(.slice AB A9.length AC),(.slice AD Aa.length AE)] 35 (0,0)))∧Aside0 (Below w.heap.size w w'))
 case atStart=>exact⟨(0),(0),fa,fa,H',⟨Nat.le_refl _⟩,⟨bw AL⟩,⟨bl⟩⟩
 case round=>
  clear H';obtain⟨Z,An,rfl,rfl,HA,A4,AL,HB⟩:=hrel;cases gk with
  |zero=>exact absurd HA.o (by simp[spec_l4Bytes.l0])
  |succ k1=>
   have H:=HA.o;clear HA;simp only[spec_l4Bytes.l0]at H;by_cases c3:An<(A8.length:Int)
   ·rw[if_pos c3]at H;have AM:=dt c3;clear c3;by_cases c4:0≤An
    ·rw[if_pos c4]at H;have Ap:=dt c4;clear c4;have H':=aK H;clear H;have:=cf5 AL;have Ai:0≤(An:Int):=dT am;have Aj:An<(A8.length:Int):=dT am;obtain⟨At,AX,Ad,Ae,Br⟩:=at_T130 Bb.o An Ai Aj;cases AX;replace Ad:=cz HB Ad;replace Ae:=cz HB Ae;replace Br:=cz HB Br;replace Ai:=eq_true Ai;replace Aj:=eq_true Aj;go_wp2
     go_roundg k1
     case measure=>have:=A4.o;omega
     case rel=>exact⟨(wrap64 (Z+(((rd_T130 A8 An).f1).size:Int))),(wrap64 (An+1)),fa,fa,H',⟨by have:=A4.o;omega⟩,⟨bw AL⟩,⟨bl⟩⟩
    ·exact no c4 H
   ·rw[if_neg c3]at H;have AM:=df c3;clear c3;obtain rfl:=oj H;have:=cf5 AL;go_wp2
    go_ret
    exact⟨fe,bl⟩
def spec_l4Linked.l0:Nat→List (S133)→Int→Int→Option (Bool)
 | 0,_,_,_=>none
 |k+1,x0,x1,x5=>if x5<(x0.length:Int)then(if 0≤x5 then(if((rd_T133 x0 x5).f1)=x1 then(some true)else(spec_l4Linked.l0 k x0 x1 (wrap64 (x5+1))))else(none))else(some false)
def spec_l4Linked.f (k:Nat) (l0:List (S133)) (a1:Int):Option (Bool):=spec_l4Linked.l0 k l0 a1 0
theorem spec_l4Linked.calls (k:Nat) (A0:Option Addr) (c0:Nat) (l0:List (S133)) (a1:Int) (r:Bool) (w:World) (Aq:Kd.C k133 w A0 l0.length l0) (Ar:l0.length≤c0) (h:spec_l4Linked.f k l0 a1=some r) :
 Calls Tryz.prog 101 #[.slice A0 l0.length c0,.int .i64 a1] w fun e w'=>e = .returned (.bool r)∧Drawn0 w w':=by
 have AN:=aK Aq;have Bz:=aK Ar;clear Aq Ar;have H:=h;unfold spec_l4Linked.f at H;clear h;have H':=aK H;clear H
 go_enter Tryz.func101,Tryz.ntmps101
 go_wp2
 go_loopg [5] k (fun kq v5 w'=>∃(D:Int),v5 = .int .i64 D∧Aside0 (spec_l4Linked.l0 kq l0 a1 D=some r)∧Aside0 (kq≤k)∧Drawn0 w w')
 case atStart=>exact⟨(0),fa,H',⟨Nat.le_refl _⟩,fd⟩
 case round=>
  clear H';obtain⟨D,rfl,HA,A4,⟨m1,rfl⟩⟩:=hrel;cases gk with
  |zero=>exact absurd HA.o (by simp[spec_l4Linked.l0])
  |succ k1=>
   have H:=HA.o;clear HA;simp only[spec_l4Linked.l0]at H;by_cases c3:D<(l0.length:Int)
   ·rw[if_pos c3]at H;have AM:=dt c3;clear c3;by_cases c4:0≤D
    ·rw[if_pos c4]at H;have Ap:=dt c4;clear c4;have Hq_:=aK H;clear H;have B_:0≤(D:Int):=dT am;have BA:D<(l0.length:Int):=dT am;obtain⟨D0,Cy,Cz,C_⟩:=at_T133 AN.o D B_ BA;cases Cy;replace B_:=eq_true B_;replace BA:=eq_true BA;have H:=Hq_.o;clear Hq_;by_cases c5:((rd_T133 l0 D).f1)=a1
     ·rw[if_pos c5]at H;have Ac:=bT c5;(try rw[Ac]);have Ak:=bE c5;(try rw[Ak]);clear c5;obtain rfl:=oj H;go_wp2
      go_ret
      exact⟨fa,fd⟩
     ·rw[if_neg c5]at H;have Ac:=bN c5;(try rw[Ac]);have Ak:=bQ c5;(try rw[Ak]);have H':=aK H;clear H;go_wp2
      go_roundg k1
      case measure=>have:=A4.o;omega
      case rel=>exact⟨(wrap64 (D+1)),fa,H',⟨by have:=A4.o;omega⟩,fd⟩
    ·exact no c4 H
   ·rw[if_neg c3]at H;have AM:=df c3;clear c3;obtain rfl:=oj H;go_wp2
    go_ret
    exact⟨fa,fd⟩
def spec_l4Made.l0:Nat→List (S135)→Int→Int→Option (Bool)
 | 0,_,_,_=>none
 |k+1,x0,x1,x5=>if x5<(x0.length:Int)then(if 0≤x5 then(if((rd_T135 x0 x5).f0)=1 then(if((rd_T135 x0 x5).f3)=x1 then(some true)else(spec_l4Made.l0 k x0 x1 (wrap64 (x5+1))))else(spec_l4Made.l0 k x0 x1 (wrap64 (x5+1))))else(none))else(some false)
def spec_l4Made.f (k:Nat) (l0:List (S135)) (a1:Int):Option (Bool):=spec_l4Made.l0 k l0 a1 0
theorem spec_l4Made.calls (k:Nat) (A0:Option Addr) (c0:Nat) (l0:List (S135)) (a1:Int) (r:Bool) (w:World) (Aq:Kd.C k135 w A0 l0.length l0) (Ar:l0.length≤c0) (h:spec_l4Made.f k l0 a1=some r) :
 Calls Tryz.prog 102 #[.slice A0 l0.length c0,.int .i64 a1] w fun e w'=>e = .returned (.bool r)∧Drawn0 w w':=by
 have AN:=aK Aq;have Bz:=aK Ar;clear Aq Ar;have H:=h;unfold spec_l4Made.f at H;clear h;have H':=aK H;clear H
 go_enter Tryz.func102,Tryz.ntmps102
 go_wp2
 go_loopg [5] k (fun kq v5 w'=>∃(D:Int),v5 = .int .i64 D∧Aside0 (spec_l4Made.l0 kq l0 a1 D=some r)∧Aside0 (kq≤k)∧Drawn0 w w')
 case atStart=>exact⟨(0),fa,H',⟨Nat.le_refl _⟩,fd⟩
 case round=>
  clear H';obtain⟨D,rfl,HA,A4,⟨m1,rfl⟩⟩:=hrel;cases gk with
  |zero=>exact absurd HA.o (by simp[spec_l4Made.l0])
  |succ k1=>
   have H:=HA.o;clear HA;simp only[spec_l4Made.l0]at H;by_cases c3:D<(l0.length:Int)
   ·rw[if_pos c3]at H;have AM:=dt c3;clear c3;by_cases c4:0≤D
    ·rw[if_pos c4]at H;have Ap:=dt c4;clear c4;have Hq_:=aK H;clear H;have BB:0≤(D:Int):=dT am;have BC:D<(l0.length:Int):=dT am;obtain⟨Ce,CA,CB,CC,CD,CE⟩:=at_T135 AN.o D BB BC;cases CA;replace BB:=eq_true BB;replace BC:=eq_true BC;have H:=Hq_.o;clear Hq_;by_cases c5:((rd_T135 l0 D).f0)=1
     ·rw[if_pos c5]at H;have Ac:=bT c5;(try rw[Ac]);have Ak:=bE c5;(try rw[Ak]);clear c5;have Hq_:=aK H;clear H;have BD:0≤(D:Int):=dT am;have BE:D<(l0.length:Int):=dT am;obtain⟨Cf,CF,CG,CH,CI,CJ⟩:=at_T135 AN.o D BD BE;obtain rfl:Ce=Cf:=(by injection CF);replace BD:=eq_true BD;replace BE:=eq_true BE;have H:=Hq_.o;clear Hq_;by_cases c6:((rd_T135 l0 D).f3)=a1
      ·rw[if_pos c6]at H;have Au:=bT c6;(try rw[Au]);have AO:=bE c6;(try rw[AO]);clear c6;obtain rfl:=oj H;go_wp2
       go_ret
       exact⟨fa,fd⟩
      ·rw[if_neg c6]at H;have Au:=bN c6;(try rw[Au]);have AO:=bQ c6;(try rw[AO]);have H':=aK H;clear H;go_wp2
       go_roundg k1
       case measure=>have:=A4.o;omega
       case rel=>exact⟨(wrap64 (D+1)),fa,H',⟨by have:=A4.o;omega⟩,fd⟩
     ·rw[if_neg c5]at H;have Ac:=bN c5;(try rw[Ac]);have Ak:=bQ c5;(try rw[Ak]);have H':=aK H;clear H;go_wp2
      go_roundg k1
      case measure=>have:=A4.o;omega
      case rel=>exact⟨(wrap64 (D+1)),fa,H',⟨by have:=A4.o;omega⟩,fd⟩
    ·exact no c4 H
   ·rw[if_neg c3]at H;have AM:=df c3;clear c3;obtain rfl:=oj H;go_wp2
    go_ret
    exact⟨fa,fd⟩
def spec_l4Name.l0:Nat→ByteArray→Int→Option (Bool)
 | 0,_,_=>none
 |k+1,x0,x3=>if x3<(x0.size:Int)then(if 0≤x3 then(if(bt x0 x3)≥97 then(if(bt x0 x3)≤122 then(spec_l4Name.l0 k x0 (wrap64 (x3+1)))else(if(bt x0 x3)≥48 then(if(bt x0 x3)≤57 then(spec_l4Name.l0 k x0 (wrap64 (x3+1)))else(if((bt x0 x3)=46)then(spec_l4Name.l0 k x0 (wrap64 (x3+1)))else(some false)))else(if((bt x0 x3)=46)then(spec_l4Name.l0 k x0 (wrap64 (x3+1)))else(some false))))else(if(bt x0 x3)≥48 then(if(bt x0 x3)≤57 then(spec_l4Name.l0 k x0 (wrap64 (x3+1)))else(if((bt x0 x3)=46)then(spec_l4Name.l0 k x0 (wrap64 (x3+1)))else(some false)))else(if((bt x0 x3)=46)then(spec_l4Name.l0 k x0 (wrap64 (x3+1)))else(some false))))else(none))else(some true)
def spec_l4Name.f (k:Nat) (a0:ByteArray):Option (Bool):=(spec_l1In.f (a0.size:Int) 1 12).bind fun BF=>(if BF=true then(spec_l4Name.l0 k a0 0)else(some false))
theorem spec_l4Name.calls (k:Nat) (a0:ByteArray) (r:Bool) (w:World) (h:spec_l4Name.f k a0=some r) :
 Calls Tryz.prog 103 #[.string a0] w fun e w'=>e = .returned (.bool r)∧Drawn0 w w':=by
 have H:=h;unfold spec_l4Name.f at H;clear h;obtain⟨BF,A2,H⟩:=bd H;by_cases c3:BF=true
 ·subst c3;replace H:=iT H;have H':=aK H;clear H
  go_enter Tryz.func103,Tryz.ntmps103
  go_wp2_with (first|((with_reducible refine gc 99 ?_);refine goesW Tryz.func99 ?_;(with_reducible refine mo (spec_l1In.calls (a0.size:Int) 1 12 _ _ A2.o) ?_);rintro _ ⟨nd,rfl⟩))
  go_loopg [3] k (fun kq v3 w'=>∃(Z:Int),v3 = .int .i64 Z∧Aside0 (spec_l4Name.l0 kq a0 Z=some r)∧Aside0 (kq≤k)∧Drawn0 w w')
  case atStart=>exact⟨(0),fa,H',⟨Nat.le_refl _⟩,fd⟩
  case round=>
   clear H';obtain⟨Z,rfl,HA,A4,⟨m1,rfl⟩⟩:=hrel;cases gk with
   |zero=>exact absurd HA.o (by simp[spec_l4Name.l0])
   |succ k1=>
    have H:=HA.o;clear HA;simp only[spec_l4Name.l0]at H;by_cases c4:Z<(a0.size:Int)
    ·rw[if_pos c4]at H;have Ap:=dt c4;clear c4;by_cases c5:0≤Z
     ·rw[if_pos c5]at H;have Ac:=dt c5;clear c5;have Hq_:=aK H;clear H;have p6:0≤(Z:Int):=dT am;have q6:Z<(a0.size:Int):=dT am;have D9:=bt_at a0 Z;replace p6:=eq_true p6;replace q6:=eq_true q6;have H:=Hq_.o;clear Hq_;by_cases c7:(bt a0 Z)≥97
      ·rw[if_pos c7]at H;have AP:=dt c7;(try rw[AP]);clear c7;by_cases c8:(bt a0 Z)≤122
       ·rw[if_pos c8]at H;have BG:=dt c8;(try rw[BG]);clear c8;have H':=aK H;clear H;go_wp2
        go_roundg k1
        case measure=>have:=A4.o;omega
        case rel=>exact⟨(wrap64 (Z+1)),fa,H',⟨by have:=A4.o;omega⟩,fd⟩
       ·rw[if_neg c8]at H;have BG:=df c8;(try rw[BG]);clear c8;by_cases c9:(bt a0 Z)≥48
        ·rw[if_pos c9]at H;have B1:=dt c9;(try rw[B1]);clear c9;by_cases c10:(bt a0 Z)≤57
         ·rw[if_pos c10]at H;have Bc:=dt c10;(try rw[Bc]);clear c10;have H':=aK H;clear H;go_wp2
          go_roundg k1
          case measure=>have:=A4.o;omega
          case rel=>exact⟨(wrap64 (Z+1)),fa,H',⟨by have:=A4.o;omega⟩,fd⟩
         ·rw[if_neg c10]at H;have Bc:=df c10;(try rw[Bc]);clear c10;by_cases Aw:((bt a0 Z)=46)
          ·rw[if_pos Aw]at H;have AY:=bT Aw;(try rw[AY]);have Bd:=bE Aw;(try rw[Bd]);clear Aw;have H':=aK H;clear H;go_wp2
           go_roundg k1
           case measure=>have:=A4.o;omega
           case rel=>exact⟨(wrap64 (Z+1)),fa,H',⟨by have:=A4.o;omega⟩,fd⟩
          ·rw[if_neg Aw]at H;have AY:=bN Aw;(try rw[AY]);have Bd:=bQ Aw;(try rw[Bd]);obtain rfl:=oj H;go_wp2
           go_ret
           exact⟨fa,fd⟩
        ·rw[if_neg c9]at H;have B1:=df c9;(try rw[B1]);clear c9;by_cases Ax:((bt a0 Z)=46)
         ·rw[if_pos Ax]at H;have Be:=bT Ax;(try rw[Be]);have Bf:=bE Ax;(try rw[Bf]);clear Ax;have H':=aK H;clear H;go_wp2
          go_roundg k1
          case measure=>have:=A4.o;omega
          case rel=>exact⟨(wrap64 (Z+1)),fa,H',⟨by have:=A4.o;omega⟩,fd⟩
         ·rw[if_neg Ax]at H;have Be:=bN Ax;(try rw[Be]);have Bf:=bQ Ax;(try rw[Bf]);obtain rfl:=oj H;go_wp2
          go_ret
          exact⟨fa,fd⟩
      ·rw[if_neg c7]at H;have AP:=df c7;(try rw[AP]);clear c7;by_cases Bt:(bt a0 Z)≥48
       ·rw[if_pos Bt]at H;have Bg:=dt Bt;(try rw[Bg]);clear Bt;by_cases Bu:(bt a0 Z)≤57
        ·rw[if_pos Bu]at H;have Bh:=dt Bu;(try rw[Bh]);clear Bu;have H':=aK H;clear H;go_wp2
         go_roundg k1
         case measure=>have:=A4.o;omega
         case rel=>exact⟨(wrap64 (Z+1)),fa,H',⟨by have:=A4.o;omega⟩,fd⟩
        ·rw[if_neg Bu]at H;have Bh:=df Bu;(try rw[Bh]);clear Bu;by_cases Ay:((bt a0 Z)=46)
         ·rw[if_pos Ay]at H;have AZ:=bT Ay;(try rw[AZ]);have Bi:=bE Ay;(try rw[Bi]);clear Ay;have H':=aK H;clear H;go_wp2
          go_roundg k1
          case measure=>have:=A4.o;omega
          case rel=>exact⟨(wrap64 (Z+1)),fa,H',⟨by have:=A4.o;omega⟩,fd⟩
         ·rw[if_neg Ay]at H;have AZ:=bN Ay;(try rw[AZ]);have Bi:=bQ Ay;(try rw[Bi]);obtain rfl:=oj H;go_wp2
          go_ret
          exact⟨fa,fd⟩
       ·rw[if_neg Bt]at H;have Bg:=df Bt;(try rw[Bg]);clear Bt;by_cases As:((bt a0 Z)=46)
        ·rw[if_pos As]at H;have Ao:=bT As;(try rw[Ao]);have Bj:=bE As;(try rw[Bj]);clear As;have H':=aK H;clear H;go_wp2
         go_roundg k1
         case measure=>have:=A4.o;omega
         case rel=>exact⟨(wrap64 (Z+1)),fa,H',⟨by have:=A4.o;omega⟩,fd⟩
        ·rw[if_neg As]at H;have Ao:=bN As;(try rw[Ao]);have Bj:=bQ As;(try rw[Bj]);obtain rfl:=oj H;go_wp2
         go_ret
         exact⟨fa,fd⟩
     ·exact no c5 H
    ·rw[if_neg c4]at H;have Ap:=df c4;clear c4;obtain rfl:=oj H;go_wp2
     go_ret
     exact⟨fa,fd⟩
 ·replace c3:=bF c3;subst c3;replace H:=iF H;obtain rfl:=oj H
  go_enter Tryz.func103,Tryz.ntmps103
  go_wp2_with (first|((with_reducible refine gc 99 ?_);refine goesW Tryz.func99 ?_;(with_reducible refine mo (spec_l1In.calls (a0.size:Int) 1 12 _ _ A2.o) ?_);rintro _ ⟨nd,rfl⟩))
  go_ret
  exact⟨fa,fd⟩
def spec_l4Inode.l0:Nat→Int→Int→Int→Int→List (S130)→List (S133)→List (S135)→Option (Int)
 | 0,_,_,_,_,_,_,_=>none
 |k+1,x1,x5,BH,BI,AQ,BJ,BK=>if x5<(AQ.length:Int)then(if 0≤x5 then(if((rd_T130 AQ x5).f0)=x1 then(some x5)else(spec_l4Inode.l0 k x1 (wrap64 (x5+1)) BH BI AQ BJ BK))else(none))else(some (-1))
def spec_l4Inode.f (k:Nat) (Af:Int) (Ag:Int) (A8:List (S130)) (A9:List (S133)) (Aa:List (S135)) (a1:Int):Option (Int):=spec_l4Inode.l0 k a1 0 Af Ag A8 A9 Aa
theorem spec_l4Inode.calls (k:Nat) (Af:Int) (Ag:Int) (A_:Option Addr) (AA:Nat) (A8:List (S130)) (AB:Option Addr) (AC:Nat) (A9:List (S133)) (AD:Option Addr) (AE:Nat) (Aa:List (S135)) (a1:Int) (r:Int) (w:World) (AF:Kd.C k130 w A_ A8.length A8) (AG:A8.length≤AA) (AH:Kd.C k133 w AB A9.length A9) (AI:A9.length≤AC) (AJ:Kd.C k135 w AD Aa.length Aa) (AK:Aa.length≤AE) (h:spec_l4Inode.f k Af Ag A8 A9 Aa a1=some r) :
 Calls Tryz.prog 104 #[.agg #[.int .i64 Af,.int .i64 Ag,.slice A_ A8.length AA,.slice AB A9.length AC,.slice AD Aa.length AE],.int .i64 a1] w fun e w'=>e = .returned (.int .i64 r)∧Below w.heap.size w w':=by
 have Cx:=Tryz.underlying35;have Bb:=aK AF;have C8:=aK AG;clear AF AG;have C9:=aK AH;have Ca:=aK AI;clear AH AI;have Cb:=aK AJ;have Cc:=aK AK;clear AJ AK;have HB:=aK (Below.refl w.heap.size w);have H:=h;unfold spec_l4Inode.f at H;clear h;have H':=aK H;clear H
 go_enter Tryz.func104,Tryz.ntmps104
 go_wp2_with (first|((with_reducible refine gd 2 ?_);refine boxQ HB ?_;clear HB;intro Cg hg w3 AR D1 HB hb;clear hb hg))
 go_loopg [5] k (fun kq v5 w'=>∃(D:Int),v5 = .int .i64 D∧Aside0 (spec_l4Inode.l0 kq a1 D Af Ag A8 A9 Aa=some r)∧Aside0 (kq≤k)∧Aside0 (w'.heap[Cg]? = some (.cells #[.int .i64 Af,.int .i64 Ag,(.slice A_ A8.length AA),(.slice AB A9.length AC),(.slice AD Aa.length AE)] 35 (0,0)))∧Aside0 (Below w.heap.size w w'))
 case atStart=>exact⟨(0),fa,H',⟨Nat.le_refl _⟩,⟨bw AR⟩,⟨bl⟩⟩
 case round=>
  clear H';obtain⟨D,rfl,HA,A4,AR,HB⟩:=hrel;cases gk with
  |zero=>exact absurd HA.o (by simp[spec_l4Inode.l0])
  |succ k1=>
   have H:=HA.o;clear HA;simp only[spec_l4Inode.l0]at H;by_cases c4:D<(A8.length:Int)
   ·rw[if_pos c4]at H;have Ap:=dt c4;clear c4;by_cases c5:0≤D
    ·rw[if_pos c5]at H;have Ac:=dt c5;clear c5;have Hq_:=aK H;clear H;have:=cf5 AR;have BL:0≤(D:Int):=dT am;have BM:D<(A8.length:Int):=dT am;obtain⟨D2,CK,B2,B3,B4⟩:=at_T130 Bb.o D BL BM;cases CK;replace B2:=cz HB B2;replace B3:=cz HB B3;replace B4:=cz HB B4;replace BL:=eq_true BL;replace BM:=eq_true BM;have H:=Hq_.o;clear Hq_;by_cases c6:((rd_T130 A8 D).f0)=a1
     ·rw[if_pos c6]at H;have Au:=bT c6;(try rw[Au]);have AO:=bE c6;(try rw[AO]);clear c6;obtain rfl:=oj H;go_wp2
      go_ret
      exact⟨fe,bl⟩
     ·rw[if_neg c6]at H;have Au:=bN c6;(try rw[Au]);have AO:=bQ c6;(try rw[AO]);have H':=aK H;clear H;go_wp2
      go_roundg k1
      case measure=>have:=A4.o;omega
      case rel=>exact⟨(wrap64 (D+1)),fa,H',⟨by have:=A4.o;omega⟩,⟨bw AR⟩,⟨bl⟩⟩
    ·exact no c5 H
   ·rw[if_neg c4]at H;have Ap:=df c4;clear c4;obtain rfl:=oj H;have:=cf5 AR;go_wp2
    go_ret
    exact⟨fe,bl⟩
def spec_l4At.l0:Nat→List (S133)→ByteArray→Int→Option (Int)
 | 0,_,_,_=>none
 |k+1,x0,x1,x5=>if x5<(x0.length:Int)then(if 0≤x5 then(if((rd_T133 x0 x5).f0).toList=x1.toList then(some x5)else(spec_l4At.l0 k x0 x1 (wrap64 (x5+1))))else(none))else(some (-1))
def spec_l4At.f (k:Nat) (l0:List (S133)) (a1:ByteArray):Option (Int):=spec_l4At.l0 k l0 a1 0
theorem spec_l4At.calls (k:Nat) (A0:Option Addr) (c0:Nat) (l0:List (S133)) (a1:ByteArray) (r:Int) (w:World) (Aq:Kd.C k133 w A0 l0.length l0) (Ar:l0.length≤c0) (h:spec_l4At.f k l0 a1=some r) :
 Calls Tryz.prog 160 #[.slice A0 l0.length c0,.string a1] w fun e w'=>e = .returned (.int .i64 r)∧Drawn0 w w':=by
 have AN:=aK Aq;have Bz:=aK Ar;clear Aq Ar;have H:=h;unfold spec_l4At.f at H;clear h;have H':=aK H;clear H
 go_enter Tryz.func160,Tryz.ntmps160
 go_wp2
 go_loopg [5] k (fun kq v5 w'=>∃(D:Int),v5 = .int .i64 D∧Aside0 (spec_l4At.l0 kq l0 a1 D=some r)∧Aside0 (kq≤k)∧Drawn0 w w')
 case atStart=>exact⟨(0),fa,H',⟨Nat.le_refl _⟩,fd⟩
 case round=>
  clear H';obtain⟨D,rfl,HA,A4,⟨m1,rfl⟩⟩:=hrel;cases gk with
  |zero=>exact absurd HA.o (by simp[spec_l4At.l0])
  |succ k1=>
   have H:=HA.o;clear HA;simp only[spec_l4At.l0]at H;by_cases c3:D<(l0.length:Int)
   ·rw[if_pos c3]at H;have AM:=dt c3;clear c3;by_cases c4:0≤D
    ·rw[if_pos c4]at H;have Ap:=dt c4;clear c4;have Hq_:=aK H;clear H;have BN:0≤(D:Int):=dT am;have BO:D<(l0.length:Int):=dT am;obtain⟨D3,CL,CM,CN⟩:=at_T133 AN.o D BN BO;cases CL;replace BN:=eq_true BN;replace BO:=eq_true BO;have H:=Hq_.o;clear Hq_;by_cases c5:((rd_T133 l0 D).f0).toList=a1.toList
     ·rw[if_pos c5]at H;have Ac:=bT c5;(try rw[Ac]);have Ak:=bE c5;(try rw[Ak]);clear c5;obtain rfl:=oj H;go_wp2
      go_ret
      exact⟨fa,fd⟩
     ·rw[if_neg c5]at H;have Ac:=bN c5;(try rw[Ac]);have Ak:=bQ c5;(try rw[Ak]);have H':=aK H;clear H;go_wp2
      go_roundg k1
      case measure=>have:=A4.o;omega
      case rel=>exact⟨(wrap64 (D+1)),fa,H',⟨by have:=A4.o;omega⟩,fd⟩
    ·exact no c4 H
   ·rw[if_neg c3]at H;have AM:=df c3;clear c3;obtain rfl:=oj H;go_wp2
    go_ret
    exact⟨fa,fd⟩
def spec_l4Without.l0:Nat→List (S133)→ByteArray→List (S133)→Int→Option ((List (S133)))
 | 0,_,_,_,_=>none
 |k+1,x0,x1,x5,x6=>if x6<(x0.length:Int)then(if 0≤x6 then(if((rd_T133 x0 x6).f0).toList=x1.toList then(spec_l4Without.l0 k x0 x1 x5 (wrap64 (x6+1)))else(if x5.length<5864062014805 then(spec_l4Without.l0 k x0 x1 (x5 ++ [(⟨(rd_T133 x0 x6).f0,(rd_T133 x0 x6).f1⟩:S133)]) (wrap64 (x6+1)))else(none)))else(none))else(some x5)
def spec_l4Without.f (k:Nat) (l0:List (S133)) (a1:ByteArray):Option ((List (S133))):=spec_l4Without.l0 k l0 a1 (([]:List (S133))) 0
theorem spec_l4Without.calls (k:Nat) (A0:Option Addr) (c0:Nat) (l0:List (S133)) (a1:ByteArray) (r:List (S133)) (w:World) (Aq:Kd.C k133 w A0 l0.length l0) (Ar:l0.length≤c0) (h:spec_l4Without.f k l0 a1=some r) :
 Calls Tryz.prog 162 #[.slice A0 l0.length c0,.string a1] w fun e w'=>∃BP:Value,e = .returned (BP)∧Kd.R k133 133 w' w.heap.size (fun _=>True) BP r∧Below w.heap.size w w':=by
 have Ch:=Tryz.underlying133;have AN:=aK Aq;have Bz:=aK Ar;clear Aq Ar;have HB:=aK (Below.refl w.heap.size w);have H:=h;unfold spec_l4Without.f at H;clear h;obtain⟨C5,AS⟩:∃y_:List (S133),y_=(([]:List (S133))):=⟨_,rfl⟩;replace H:(spec_l4Without.l0 k l0 a1 C5 0)=some r:=by first|(rw[AS];with_reducible exact H)|(have Bk:=(Option.bind_some _ _).symm.trans H;rw[AS];with_reducible exact Bk)|(have Bk:=(Option.bind_some _ _).symm.trans H;with_reducible exact Bk)|with_reducible exact H|(rw[AS];exact H)|exact H
 have BQ:=aK AS;clear AS;have H':=aK H;clear H
 go_enter Tryz.func162,Tryz.ntmps162
 go_wp2_with (first|((with_reducible refine gd 7 ?_);refine Kd.R_lit k133 _ 133 ?hg (N:=7) ?hd (xs:=([]:List (S133))) (inner:=[]) (ok:=fun _=>True) (okp:=fun _=>True) ?hr ?hp (fun _ hk=>hk) trivial (Below.refl _ _) (Nat.le_refl _) (by simp) ?_;(case hd=>rfl);(case hg=>rfl);(case hr=>first|(go_simp;done)|(go_simp;rfl));(case hp=>exact(Reps.none _ _));intro D6 w3 BR hb hg_ hnew_;clear hg_ hnew_;(first|rw[←BQ.o]at BR|(simp only[Int.reduceToNat]at BR;rw[←BQ.o]at BR));have Ci:=rl HB BR;replace HB:=bS HB hb;clear hb BR))
 go_loopg [5,6] k (fun kq v5 v6 w'=>∃(D:List (S133)) (A5:Int),v6 = .int .i64 A5∧Aside0 (spec_l4Without.l0 kq l0 a1 D A5=some r)∧Aside0 (kq≤k)∧Aside0 (Kd.R k133 133 w' w.heap.size (fun _=>True) v5 D)∧Aside0 (Below w.heap.size w w'))
 case atStart=>exact⟨(C5),(0),fa,H',⟨Nat.le_refl _⟩,⟨rpR Ci.o⟩,⟨bl⟩⟩
 case round=>
  clear H';obtain⟨D,A5,rfl,HA,A4,Ab,HB⟩:=hrel;cases gk with
  |zero=>exact absurd HA.o (by simp[spec_l4Without.l0])
  |succ k1=>
   have H:=HA.o;clear HA;simp only[spec_l4Without.l0]at H;by_cases c5:A5<(l0.length:Int)
   ·rw[if_pos c5]at H;have Ac:=dt c5;clear c5;by_cases c6:0≤A5
    ·rw[if_pos c6]at H;have Au:=dt c6;clear c6;have Hq_:=aK H;clear H;have BS:0≤(A5:Int):=dT am;have BT:A5<(l0.length:Int):=dT am;obtain⟨Cj,CO,B5,B6⟩:=at_T133 AN.o A5 BS BT;cases CO;replace B5:=cz HB B5;replace B6:=cz HB B6;replace BS:=eq_true BS;replace BT:=eq_true BT;have H:=Hq_.o;clear Hq_;by_cases c7:((rd_T133 l0 A5).f0).toList=a1.toList
     ·rw[if_pos c7]at H;have AP:=bT c7;(try rw[AP]);have BU:=bE c7;(try rw[BU]);clear c7;have H':=aK H;clear H;go_wp2
      go_roundg k1
      case measure=>have:=A4.o;omega
      case rel=>exact⟨(D),(wrap64 (A5+1)),fa,H',⟨by have:=A4.o;omega⟩,⟨rpR Ab.o⟩,⟨bl⟩⟩
     ·rw[if_neg c7]at H;have AP:=bN c7;(try rw[AP]);have BU:=bQ c7;(try rw[BU]);by_cases c8:D.length<5864062014805
      ·rw[if_pos c8]at H;have CP:=aK c8;clear c8;obtain⟨CQ,Bl⟩:=yy (D ++ [(⟨(rd_T133 l0 A5).f0,(rd_T133 l0 A5).f1⟩:S133)]);rw[←Bl]at H;(try rw[obs]at H)
       have Ck:=aK Bl;clear Bl;have H':=aK H;clear H;have Ai:0≤(A5:Int):=dT am;have Aj:A5<(l0.length:Int):=dT am;obtain⟨At,AX,Ad,Ae⟩:=at_T133 AN.o A5 Ai Aj;obtain rfl:Cj=At:=(by injection AX);replace Ad:=cz HB Ad;replace Ae:=cz HB Ae;replace Ai:=eq_true Ai;replace Aj:=eq_true Aj;go_wp2_with (first|((with_reducible refine gate_builtin (b:=.append) (xs:=#[.tmp 21,.tmp 26]) rfl ?_);at_builtin;refine Kd.R_append k133 (w0:=w) w.heap.size rfl (.tmp 21) (.tmp 26) 32 133 (.agg #[(.string ⟨#[]⟩),(.int .i64 0)]) 24 rfl Tryz.underlying32 info133 rfl (by decide) (by omega) u5 D (⟨(rd_T133 l0 A5).f0,(rd_T133 l0 A5).f1⟩:S133) [.string ((rd_T133 l0 A5).f0),.int .i64 ((rd_T133 l0 A5).f1)] (fun _=>True) (fun _=>False) rfl rfl ?aP (fun _ hk=>hk.elim) ?aF ?aO ?aB ?aS ?aL ?_;(case aP=>exact k133_mkM _ _ _ (⟨(rd_T133 l0 A5).f0,(rd_T133 l0 A5).f1⟩:S133));(case aB=>exact bl);(case aF=>exact(fun _ _=>trivial));(case aO=>exact(rpR Ab.o));(case aS=>exact(below_size bl));(case aL=>have:=CP.o;omega);intro BV D4 ho hb hg hat;rw[←Ck.o]at ho;replace HB:=aK (hb);have Al:=aK (ho);clear Ab;clear ho hb hg hat))
       go_roundg k1
       case measure=>have:=A4.o;omega
       case rel=>exact⟨(CQ),(wrap64 (A5+1)),fa,H',⟨by have:=A4.o;omega⟩,⟨rpR Al.o⟩,⟨bl⟩⟩
      ·exact no c8 H
    ·exact no c6 H
   ·rw[if_neg c5]at H;have Ac:=df c5;clear c5;obtain rfl:=oj H;go_wp2
    go_ret
    exact⟨_,fe,rpR Ab.o,bl⟩
def spec_l4With.l0:Nat→List (S133)→List (S133)→Bool→Int→ByteArray→Int→Option ((List (S133)))
 | 0,_,_,_,_,_,_=>none
 |k+1,x0,x5,x6,x7,Ah,Am=>if x7<(x0.length:Int)then(if x6=true then(if 0≤x7 then(if x5.length<5864062014805 then(spec_l4With.l0 k x0 (x5 ++ [(⟨(rd_T133 x0 x7).f0,(rd_T133 x0 x7).f1⟩:S133)]) x6 (wrap64 (x7+1)) Ah Am)else(none))else(none))else(if 0≤x7 then(if(Op.bytesLess Ah.toList (((rd_T133 x0 x7).f0).toList))=true then(if x5.length<5864062014805 then((some (x5 ++ [(⟨Ah,Am⟩:S133)]:List (S133))).bind fun AW=>(if AW.length<5864062014805 then(spec_l4With.l0 k x0 (AW ++ [(⟨(rd_T133 x0 x7).f0,(rd_T133 x0 x7).f1⟩:S133)]) true (wrap64 (x7+1)) Ah Am)else(none)))else(none))else(if x5.length<5864062014805 then(spec_l4With.l0 k x0 (x5 ++ [(⟨(rd_T133 x0 x7).f0,(rd_T133 x0 x7).f1⟩:S133)]) x6 (wrap64 (x7+1)) Ah Am)else(none)))else(none)))else(if x6=true then(some x5)else(if x5.length<5864062014805 then(some (x5 ++ [(⟨Ah,Am⟩:S133)]))else(none)))
def spec_l4With.f (k:Nat) (l0:List (S133)) (Y:ByteArray) (A6:Int):Option ((List (S133))):=(spec_l4Without.f k l0 Y).bind fun U=>(spec_l4With.l0 k U (([]:List (S133))) false 0 Y A6)
theorem spec_l4With.calls (k:Nat) (A0:Option Addr) (c0:Nat) (l0:List (S133)) (Y:ByteArray) (A6:Int) (r:List (S133)) (w:World) (Aq:Kd.C k133 w A0 l0.length l0) (Ar:l0.length≤c0) (h:spec_l4With.f k l0 Y A6=some r) :
 Calls Tryz.prog 161 #[.slice A0 l0.length c0,.agg #[.string Y,.int .i64 A6]] w fun e w'=>∃BP:Value,e = .returned (BP)∧Kd.R k133 133 w' w.heap.size (fun _=>True) BP r∧Below w.heap.size w w':=by
 have Ch:=Tryz.underlying133;have AN:=aK Aq;have Bz:=aK Ar;clear Aq Ar;have HB:=aK (Below.refl w.heap.size w);have H:=h;unfold spec_l4With.f at H;clear h;obtain⟨C6,AT⟩:∃y_:List (S133),y_=(([]:List (S133))):=⟨_,rfl⟩;replace H:((spec_l4Without.f k l0 Y).bind fun U=>(spec_l4With.l0 k U C6 false 0 Y A6))=some r:=by first|(rw[AT];with_reducible exact H)|(have Bk:=(Option.bind_some _ _).symm.trans H;rw[AT];with_reducible exact Bk)|(have Bk:=(Option.bind_some _ _).symm.trans H;with_reducible exact Bk)|with_reducible exact H|(rw[AT];exact H)|exact H
 have BW:=aK AT;clear AT;obtain⟨U,A3,H⟩:=bd H;have H':=aK H;clear H
 go_enter Tryz.func161,Tryz.ntmps161
 go_wp2_with (first|((with_reducible refine gd 3 ?_);refine boxQ HB ?_;clear HB;intro X hg w4 A7 D5 HB hb;clear hb hg)|((with_reducible refine gd 8 ?_);refine Kd.R_lit k133 _ 133 ?hg (N:=8) ?hd (xs:=([]:List (S133))) (inner:=[]) (ok:=fun _=>True) (okp:=fun _=>True) ?hr ?hp (fun _ hk=>hk) trivial (Below.refl _ _) (Nat.le_refl _) (by simp) ?_;(case hd=>rfl);(case hg=>rfl);(case hr=>first|(go_simp;done)|(go_simp;rfl));(case hp=>exact(Reps.none _ _));intro D7 w5 BX hb hg_ hnew_;clear hg_ hnew_;(first|rw[←BW.o]at BX|(simp only[Int.reduceToNat]at BX;rw[←BW.o]at BX));have B0:=rl HB (Kd.R_newB BX (g:=X) (o:=.cells #[.string Y,.int .i64 A6] 133 (0,0)) bk);replace A7:=bv A7 hb;replace HB:=bS HB hb;clear hb BX;have:=cf2 A7)|(go_at_call 162;(with_reducible refine(spec_l4Without.calls k _ _ l0 Y U _ ?_ ?_ A3.o).mono ?_);exact cB AN HB;exact Bz.o;rintro e w8 ⟨C7,rfl,CR,hb⟩;have Cl:=rl HB (Kd.R_newB (Kd.R_new' CR (Kd.R_lt (rpR B0.o))) (g:=X) (o:=.cells #[.string Y,.int .i64 A6] 133 (0,0)) bk);replace B0:=re B0.o CR hb;replace A7:=bv A7 hb;replace HB:=bS HB hb))
 go_loopg [5,6,7] k (fun kq v5 v6 v7 w'=>∃(D:List (S133)) (A5:Bool) (J:Int),v6 = .bool A5∧v7 = .int .i64 J∧Aside0 (spec_l4With.l0 kq U D A5 J Y A6=some r)∧Aside0 (kq≤k)∧Aside0 (Kd.R k133 133 w' w.heap.size (fun k_=>some k_≠(v5:Value).ownBlock∧k_≠X) C7 U)∧Aside0 (Kd.R k133 133 w' w.heap.size (fun k_=>some k_≠(C7:Value).ownBlock∧k_≠X) v5 D)∧Aside0 (w'.heap[X]? = some (.cells #[.string Y,.int .i64 A6] 133 (0,0)))∧Aside0 (Below w.heap.size w w'))
 case atStart=>exact⟨(C6),(false),(0),fa,fa,H',⟨Nat.le_refl _⟩,⟨rpR (rM Cl.o (fun _ hk=>⟨hk.1.2,hk.2⟩))⟩,⟨rpR (rM B0.o (fun _ hk=>⟨hk.2,hk.1.2⟩))⟩,⟨bw A7⟩,⟨bl⟩⟩
 case round=>
  clear H';obtain⟨D,A5,J,rfl,rfl,HA,A4,A1,Ab,A7,HB⟩:=hrel;cases gk with
  |zero=>exact absurd HA.o (by simp[spec_l4With.l0])
  |succ k1=>
   have H:=HA.o;clear HA;simp only[spec_l4With.l0]at H;by_cases c9:J<(U.length:Int)
   ·rw[if_pos c9]at H;have B1:=dt c9;clear c9;by_cases c10:A5=true
    ·subst c10;replace H:=iT H;by_cases Aw:0≤J
     ·rw[if_pos Aw]at H;have AY:=dt Aw;clear Aw;by_cases Ax:D.length<5864062014805
      ·rw[if_pos Ax]at H;have Cm:=aK Ax;clear Ax;obtain⟨CS,Bm⟩:=yy (D ++ [(⟨(rd_T133 U J).f0,(rd_T133 U J).f1⟩:S133)]);rw[←Bm]at H;(try rw[obs]at H)
       have Cn:=aK Bm;clear Bm;have H':=aK H;clear H;obtain⟨Bs,Av,AU⟩:=rs A1;subst AU;have Ai:0≤(J:Int):=dT am;have Aj:J<(U.length:Int):=dT am;obtain⟨At,AX,Ad,Ae⟩:=at_T133 (Kd.R_reads' A1.o).2.2 J Ai Aj;cases AX;replace Ai:=eq_true Ai;replace Aj:=eq_true Aj
       go_wp2_with (fail)
       repeat (go_quiet (fail);try go_wp2_with (first|((with_reducible refine gate_builtin (b:=.append) (xs:=#[.tmp 35,.tmp 40]) rfl ?_);at_builtin;refine Kd.R_append k133 (w0:=w) w.heap.size rfl (.tmp 35) (.tmp 40) 32 133 (.agg #[(.string ⟨#[]⟩),(.int .i64 0)]) 24 rfl Tryz.underlying32 info133 rfl (by decide) (by omega) u5 D (⟨(rd_T133 U J).f0,(rd_T133 U J).f1⟩:S133) [.string ((rd_T133 U J).f0),.int .i64 ((rd_T133 U J).f1)] (fun k_=>some k_≠(.slice (some At) U.length Av:Value).ownBlock∧k_≠X) (fun _=>False) rfl rfl ?aP (fun _ hk=>hk.elim) ?aF ?aO ?aB ?aS ?aL ?_;(case aP=>exact k133_mkM _ _ _ (⟨(rd_T133 U J).f0,(rd_T133 U J).f1⟩:S133));(case aB=>exact bl);(case aF=>exact(fun k_ hk=>⟨Kd.fresh' (Kd.R_lt (rpR A1.o)) k_ hk,Kd.freshB (g:=X) (o:=.cells #[.string Y,.int .i64 A6] 133 (0,0)) bk k_ hk⟩));(case aO=>exact(rpR Ab.o));(case aS=>exact(below_size bl));(case aL=>have:=Cm.o;omega);intro BV Co ho hb hg hat;rw[←Cn.o]at ho;have B7:=aK (Kd.R_after (ok:=(fun k_=>k_≠X)) (rpR (rM A1.o (fun _ hk=>⟨hk.2,hk.1⟩))) hg hat);have B8:=aK (blk_grown (g:=X) (o:=.cells #[.string Y,.int .i64 A6] 133 (0,0)) bk hg (Kd.R_away Ab.o (fun _ hk=>hk.2)));have B9:=aK (hb);have Ba:=aK (ho);clear A1;clear A7;clear HB;clear Ab;have A1:=B7;have A7:=B8;have HB:=B9;have Al:=Ba;clear B7 B8 B9 Ba;clear ho hb hg hat)))
       go_roundg k1
       case measure=>have:=A4.o;omega
       case rel=>exact⟨(CS),(true),(wrap64 (J+1)),fa,fa,H',⟨by have:=A4.o;omega⟩,⟨rpR (rM A1.o (fun _ hk=>⟨hk.2,hk.1⟩))⟩,⟨rpR Al.o⟩,⟨bw A7⟩,⟨bl⟩⟩
      ·exact no Ax H
     ·exact no Aw H
    ·replace c10:=bF c10;subst c10;replace H:=iF H;by_cases Ay:0≤J
     ·rw[if_pos Ay]at H;have AZ:=dt Ay;clear Ay;have Hq_:=aK H;clear H;obtain⟨Bs,Av,AU⟩:=rs A1;subst AU;have:=cf2 A7;have BY:0≤(J:Int):=dT am;have BZ:J<(U.length:Int):=dT am;obtain⟨AV,CT,CU,CV⟩:=at_T133 (Kd.R_reads' A1.o).2.2 J BY BZ;cases CT;replace BY:=eq_true BY;replace BZ:=eq_true BZ;have H:=Hq_.o;clear Hq_;by_cases As:(Op.bytesLess Y.toList (((rd_T133 U J).f0).toList))=true
      ·rw[if_pos As]at H;have Ao:(Op.bytesLess Y.toList (((rd_T133 U J).f0).toList))=true:=As;(try rw[Ao]);clear As;by_cases C0:D.length<5864062014805
       ·rw[if_pos C0]at H;have Cp:=aK C0;clear C0;obtain⟨AW,Bn⟩:=yy (D ++ [(⟨Y,A6⟩:S133)]);rw[←Bn]at H;(try rw[obs]at H)
        have Cq:=aK Bn;clear Bn;by_cases C1:AW.length<5864062014805
        ·rw[if_pos C1]at H;have Cr:=aK C1;clear C1;obtain⟨CW,Bo⟩:=yy (AW ++ [(⟨(rd_T133 U J).f0,(rd_T133 U J).f1⟩:S133)]);rw[←Bo]at H;(try rw[obs]at H)
         have Cs:=aK Bo;clear Bo;have H':=aK H;clear H
         go_wp2_with (fail)
         repeat (go_quiet (fail);try go_wp2_with (first|((with_reducible refine gate_builtin (b:=.append) (xs:=#[.tmp 31,.tmp 33]) rfl ?_);at_builtin;refine Kd.R_append k133 (w0:=w) w.heap.size rfl (.tmp 31) (.tmp 33) 32 133 (.agg #[(.string ⟨#[]⟩),(.int .i64 0)]) 24 rfl Tryz.underlying32 info133 rfl (by decide) (by omega) u5 D (⟨Y,A6⟩:S133) [.string Y,.int .i64 A6] (fun k_=>some k_≠(.slice (some AV) U.length Av:Value).ownBlock∧k_≠X) (fun _=>False) rfl rfl ?aP (fun _ hk=>hk.elim) ?aF ?aO ?aB ?aS ?aL ?_;(case aP=>exact k133_mkM _ _ _ (⟨Y,A6⟩:S133));(case aB=>exact bl);(case aF=>exact(fun k_ hk=>⟨Kd.fresh' (Kd.R_lt (rpR A1.o)) k_ hk,Kd.freshB (g:=X) (o:=.cells #[.string Y,.int .i64 A6] 133 (0,0)) bk k_ hk⟩));(case aO=>exact(rpR Ab.o));(case aS=>exact(below_size bl));(case aL=>have:=Cp.o;omega);intro BV Co ho hb hg hat;rw[←Cq.o]at ho;replace A1:=aK (Kd.R_after (ok:=(fun k_=>k_≠X)) (rpR (rM A1.o (fun _ hk=>⟨hk.2,hk.1⟩))) hg hat);replace A7:=aK (blk_grown (g:=X) (o:=.cells #[.string Y,.int .i64 A6] 133 (0,0)) bk hg (Kd.R_away Ab.o (fun _ hk=>hk.2)));replace HB:=aK (hb);have Al:=aK (ho);clear Ab;clear ho hb hg hat;have Ai:0≤(J:Int):=dT am;have Aj:J<(U.length:Int):=dT am;obtain⟨At,AX,Ad,Ae⟩:=at_T133 (Kd.R_reads' A1.o).2.2 J Ai Aj;obtain rfl:AV=At:=(by injection AX);replace Ai:=eq_true Ai;replace Aj:=eq_true Aj)|((with_reducible refine gate_builtin (b:=.append) (xs:=#[.tmp 35,.tmp 40]) rfl ?_);at_builtin;refine Kd.R_append k133 (w0:=w) w.heap.size rfl (.tmp 35) (.tmp 40) 32 133 (.agg #[(.string ⟨#[]⟩),(.int .i64 0)]) 24 rfl Tryz.underlying32 info133 rfl (by decide) (by omega) BV AW (⟨(rd_T133 U J).f0,(rd_T133 U J).f1⟩:S133) [.string ((rd_T133 U J).f0),.int .i64 ((rd_T133 U J).f1)] (fun k_=>some k_≠(.slice (some AV) U.length Av:Value).ownBlock∧k_≠X) (fun _=>False) rfl rfl ?aP (fun _ hk=>hk.elim) ?aF ?aO ?aB ?aS ?aL ?_;(case aP=>exact k133_mkM _ _ _ (⟨(rd_T133 U J).f0,(rd_T133 U J).f1⟩:S133));(case aB=>exact bl);(case aF=>exact(fun k_ hk=>⟨Kd.fresh' (Kd.R_lt (rpR A1.o)) k_ hk,Kd.freshB (g:=X) (o:=.cells #[.string Y,.int .i64 A6] 133 (0,0)) bk k_ hk⟩));(case aO=>exact(rpR Al.o));(case aS=>exact(below_size bl));(case aL=>have:=Cr.o;omega);intro Da D4 ho hb hg hat;rw[←Cs.o]at ho;have B7:=aK (Kd.R_after (ok:=(fun k_=>k_≠X)) (rpR A1.o) hg hat);have B8:=aK (blk_grown (g:=X) (o:=.cells #[.string Y,.int .i64 A6] 133 (0,0)) bk hg (Kd.R_away Al.o (fun _ hk=>hk.2)));have B9:=aK (hb);have Ba:=aK (ho);clear A1;clear A7;clear HB;clear Al;have A1:=B7;have A7:=B8;have HB:=B9;have CX:=Ba;clear B7 B8 B9 Ba;clear ho hb hg hat)))
         go_roundg k1
         case measure=>have:=A4.o;omega
         case rel=>exact⟨(CW),(true),(wrap64 (J+1)),fa,fa,H',⟨by have:=A4.o;omega⟩,⟨rpR (rM A1.o (fun _ hk=>⟨hk.2,hk.1⟩))⟩,⟨rpR CX.o⟩,⟨bw A7⟩,⟨bl⟩⟩
        ·exact no C1 H
       ·exact no C0 H
      ·rw[if_neg As]at H;have Ao:(Op.bytesLess Y.toList (((rd_T133 U J).f0).toList))=false:=by simpa using As
       (try rw[Ao]);clear As;by_cases C2:D.length<5864062014805
       ·rw[if_pos C2]at H;have Ct:=aK C2;clear C2;obtain⟨CY,Bp⟩:=yy (D ++ [(⟨(rd_T133 U J).f0,(rd_T133 U J).f1⟩:S133)]);rw[←Bp]at H;(try rw[obs]at H)
        have Cu:=aK Bp;clear Bp;have H':=aK H;clear H;have Ai:0≤(J:Int):=dT am;have Aj:J<(U.length:Int):=dT am;obtain⟨At,AX,Ad,Ae⟩:=at_T133 (Kd.R_reads' A1.o).2.2 J Ai Aj;obtain rfl:AV=At:=(by injection AX);replace Ai:=eq_true Ai;replace Aj:=eq_true Aj
        go_wp2_with (fail)
        repeat (go_quiet (fail);try go_wp2_with (first|((with_reducible refine gate_builtin (b:=.append) (xs:=#[.tmp 35,.tmp 40]) rfl ?_);at_builtin;refine Kd.R_append k133 (w0:=w) w.heap.size rfl (.tmp 35) (.tmp 40) 32 133 (.agg #[(.string ⟨#[]⟩),(.int .i64 0)]) 24 rfl Tryz.underlying32 info133 rfl (by decide) (by omega) u5 D (⟨(rd_T133 U J).f0,(rd_T133 U J).f1⟩:S133) [.string ((rd_T133 U J).f0),.int .i64 ((rd_T133 U J).f1)] (fun k_=>some k_≠(.slice (some AV) U.length Av:Value).ownBlock∧k_≠X) (fun _=>False) rfl rfl ?aP (fun _ hk=>hk.elim) ?aF ?aO ?aB ?aS ?aL ?_;(case aP=>exact k133_mkM _ _ _ (⟨(rd_T133 U J).f0,(rd_T133 U J).f1⟩:S133));(case aB=>exact bl);(case aF=>exact(fun k_ hk=>⟨Kd.fresh' (Kd.R_lt (rpR A1.o)) k_ hk,Kd.freshB (g:=X) (o:=.cells #[.string Y,.int .i64 A6] 133 (0,0)) bk k_ hk⟩));(case aO=>exact(rpR Ab.o));(case aS=>exact(below_size bl));(case aL=>have:=Ct.o;omega);intro BV Co ho hb hg hat;rw[←Cu.o]at ho;have B7:=aK (Kd.R_after (ok:=(fun k_=>k_≠X)) (rpR (rM A1.o (fun _ hk=>⟨hk.2,hk.1⟩))) hg hat);have B8:=aK (blk_grown (g:=X) (o:=.cells #[.string Y,.int .i64 A6] 133 (0,0)) bk hg (Kd.R_away Ab.o (fun _ hk=>hk.2)));have B9:=aK (hb);have Ba:=aK (ho);clear A1;clear A7;clear HB;clear Ab;have A1:=B7;have A7:=B8;have HB:=B9;have Al:=Ba;clear B7 B8 B9 Ba;clear ho hb hg hat)))
        go_roundg k1
        case measure=>have:=A4.o;omega
        case rel=>exact⟨(CY),(false),(wrap64 (J+1)),fa,fa,H',⟨by have:=A4.o;omega⟩,⟨rpR (rM A1.o (fun _ hk=>⟨hk.2,hk.1⟩))⟩,⟨rpR Al.o⟩,⟨bw A7⟩,⟨bl⟩⟩
       ·exact no C2 H
     ·exact no Ay H
   ·rw[if_neg c9]at H;have B1:=df c9;clear c9;by_cases C3:A5=true
    ·subst C3;replace H:=iT H;obtain rfl:=oj H;obtain⟨Bs,Av,AU⟩:=rs A1;subst AU;go_wp2;repeat (go_quiet (fail);try go_wp2)
     go_ret
     exact⟨_,fe,rpR (rM Ab.o (fun _ hk=>trivial)),bl⟩
    ·replace C3:=bF C3;subst C3;replace H:=iF H;by_cases C4:D.length<5864062014805
     ·rw[if_pos C4]at H;have Cv:=aK C4;clear C4;obtain⟨D8,Bq⟩:=yy (D ++ [(⟨Y,A6⟩:S133)]);rw[←Bq]at H;(try rw[obs]at H)
      have Cw:=aK Bq;clear Bq;obtain rfl:=oj H;obtain⟨Bs,Av,AU⟩:=rs A1;subst AU;have:=cf2 A7;go_wp2_with (first|((with_reducible refine gate_builtin (b:=.append) (xs:=#[.tmp 44,.tmp 46]) rfl ?_);at_builtin;refine Kd.R_append k133 (w0:=w) w.heap.size rfl (.tmp 44) (.tmp 46) 32 133 (.agg #[(.string ⟨#[]⟩),(.int .i64 0)]) 24 rfl Tryz.underlying32 info133 rfl (by decide) (by omega) u5 D (⟨Y,A6⟩:S133) [.string Y,.int .i64 A6] (fun k_=>some k_≠(.slice Bs U.length Av:Value).ownBlock∧k_≠X) (fun _=>False) rfl rfl ?aP (fun _ hk=>hk.elim) ?aF ?aO ?aB ?aS ?aL ?_;(case aP=>exact k133_mkM _ _ _ (⟨Y,A6⟩:S133));(case aB=>exact bl);(case aF=>exact(fun k_ hk=>⟨Kd.fresh' (Kd.R_lt (rpR A1.o)) k_ hk,Kd.freshB (g:=X) (o:=.cells #[.string Y,.int .i64 A6] 133 (0,0)) bk k_ hk⟩));(case aO=>exact(rpR Ab.o));(case aS=>exact(below_size bl));(case aL=>have:=Cv.o;omega);intro BV Co ho hb hg hat;rw[←Cw.o]at ho;replace A1:=aK (Kd.R_after (ok:=(fun k_=>k_≠X)) (rpR (rM A1.o (fun _ hk=>⟨hk.2,hk.1⟩))) hg hat);replace A7:=aK (blk_grown (g:=X) (o:=.cells #[.string Y,.int .i64 A6] 133 (0,0)) bk hg (Kd.R_away Ab.o (fun _ hk=>hk.2)));replace HB:=aK (hb);have Al:=aK (ho);clear Ab;clear ho hb hg hat))
      go_ret
      exact⟨_,fe,rpR (rM Al.o (fun _ hk=>trivial)),bl⟩
     ·exact no C4 H
mutual
def spec_l4Apply.j0:Nat→List (S133)→Int→Bool→Int→ByteArray→ByteArray→Int→Option ((List (S133))×Bool)
 | 0,_,_,_,_,_,_,_=>none
 |k+1,x0,x6,Bc,A5,Y,Z,A1=>if Bc=true then((spec_l4With.f k x0 Y A1).bind fun Ax=>(some (Ax,true)))else(if A5=2 then(if A1=0 then(if x6≥0 then((spec_l4Name.f k Z).bind fun Ay=>(if Ay=true then(spec_l4Apply.j1 k x0 x6 (Z.toList != Y.toList) A5 Y Z A1)else(spec_l4Apply.j1 k x0 x6 false A5 Y Z A1)))else(spec_l4Apply.j1 k x0 x6 false A5 Y Z A1))else(spec_l4Apply.j1 k x0 x6 false A5 Y Z A1))else(spec_l4Apply.j1 k x0 x6 false A5 Y Z A1))
def spec_l4Apply.j1:Nat→List (S133)→Int→Bool→Int→ByteArray→ByteArray→Int→Option ((List (S133))×Bool)
 | 0,_,_,_,_,_,_,_=>none
 |k+1,x0,x6,Bd,A5,Y,Z,A1=>if Bd=true then((spec_l4Without.f k x0 Y).bind fun As=>(if 0≤x6 then(if x6<(x0.length:Int)then((spec_l4With.f k As Z ((rd_T133 x0 x6).f1)).bind fun Az=>(some (Az,true)))else(none))else(none)))else(if A5=3 then(if A1=0 then(if Z.toList=([]:List UInt8)then(if x6≥0 then((spec_l4Without.f k x0 Y).bind fun A_=>(some (A_,true)))else(some (x0,false)))else(some (x0,false)))else(some (x0,false)))else(some (x0,false)))
end
def spec_l4Apply.f (k:Nat) (l0:List (S133)) (A7:Int) (A0:ByteArray) (A2:ByteArray) (A8:Int):Option ((List (S133))×Bool):=(spec_l4At.f k l0 A0).bind fun X=>((spec_l4Name.f k A0).bind fun AA=>(if AA=true then(if A7=1 then(if A2.toList=([]:List UInt8)then(spec_l4Apply.j0 k l0 X (decide (X<0)) A7 A0 A2 A8)else(spec_l4Apply.j0 k l0 X false A7 A0 A2 A8))else(spec_l4Apply.j0 k l0 X false A7 A0 A2 A8))else(some (l0,false))))
def spec_l4Apply.T7:Bool×List (List Nat×List Nat):=(true,[([],[]),([],[]),([1],[1]),([0,2],[0,2]),([],[]),([4],[4]),([],[]),([],[]),([6,7],[6,7]),([8],[8]),([9],[9]),([5,10],[5,10]),([3,11,3],[3,11]),([12,12,0,1,2,3,4,5,6,7,8,9,10,11,12],[12]),([13,0,1,2,3,4,5,6,7,8,9,10,11,12,13],[])])
def spec_l4Apply.B7:List Nat:=[0,0,2,7,0,16,0,0,192,448,960,2032,4095,8191,16383]
theorem spec_l4Apply.tab7:rtab .any (opsOf Tryz.f105 7)=spec_l4Apply.T7:=by kernel_rfl
theorem spec_l4Apply.bits7:waitsOk spec_l4Apply.T7.2 spec_l4Apply.B7=true:=by kernel_rfl
theorem spec_l4Apply.calls (k:Nat) (A6:Nat→Prop) (Ag:Value) (l0:List (S133)) (A7:Int) (A0:ByteArray) (A2:ByteArray) (A8:Int) (r1:List (S133)) (r2:Bool) (w0 w:World) (hB:Below w0.heap.size w0 w) (Aa:Kd.R k133 133 w w0.heap.size A6 Ag l0) (h:spec_l4Apply.f k l0 A7 A0 A2 A8=some (r1,r2)) :
 Calls Tryz.prog 105 #[Ag,.agg #[.int .i64 A7,.string A0,.string A2,.int .i64 A8]] w fun e w'=>∃B5:Value,e = .returned (.tuple #[B5,.bool r2])∧Kd.R k133 133 w' w0.heap.size (fun k_=>(A6 k_∨w.heap.size≤k_)) B5 r1∧Below w0.heap.size w0 w'∧Kept w w' (fun k_=>A6 k_):=by
 have Be:=Tryz.underlying135;have Bf:=Tryz.underlying133;have Ab:=aK (show Kd.R k133 133 w w0.heap.size (fun k_=>(A6 k_∨w.heap.size≤k_)) Ag l0 from rM Aa (fun k_ hk=>(.inl hk)));have HK:=aK (Kept.refl w (fun k_=>A6 k_));have HW0:=aK hB.size;have HB:=aK hB;clear hB;have H:=h;unfold spec_l4Apply.f at H;clear h;obtain⟨X,A3,H⟩:=bd H;obtain⟨AA,A4,H⟩:=bd H;by_cases c5:AA=true
 ·subst c5;replace H:=iT H;have AQ:=aK H;clear H
  go_enter Tryz.func105,Tryz.ntmps105
  go_upto_region 4 with(first|((with_reducible refine gd 3 ?_);refine boxW ?_;intro A9 hg Bg hbox hb;replace Ab:=rb Ab hb;have D:=aK hbox;have J:=aK ((by rw[hg];exact(by first|exact HK.out.1|exact(show Kept w _ (fun k_=>A6 k_)from by repeat (first|(with_reducible first|exact HK.o|apply Kept.alloc|apply Kept.drewN|apply Kept.drew)|exact HK.o)).1):w.heap.size≤A9));replace HK:=aK (Kept.below (S:=(fun k_=>A6 k_)) (by repeat (first|(with_reducible first|exact HK.o|apply Kept.alloc|apply Kept.drewN|apply Kept.drew)|exact HK.o)) hb);have J:=gw (w:=w0) hg;replace HB:=bs (w:=w0) hb;clear hb hbox hg;have:=cf4 D;obtain⟨AB,AC,rfl⟩:=rs Ab)|((with_reducible refine gc 160 ?_);refine goesW Tryz.func160 ?_;(with_reducible refine mo (spec_l4At.calls k _ _ l0 A0 X _ ?_ ?_ A3.o) ?_);exact ca (cR Ab.o);exact cl Ab;rintro _ ⟨nd,rfl⟩)|((with_reducible refine gc 103 ?_);refine goesW Tryz.func103 ?_;(with_reducible refine mo (spec_l4Name.calls k A0 _ _ A4.o) ?_);rintro _ ⟨nd,rfl⟩))
  (try simp only[Act.put,List.setIfInBounds_toArray,List.set_cons_zero,List.set_cons_succ])
  go_cut [17] (fun Bh wc=>∃(kq:Nat) (Ah:Bool),Bh = .bool Ah∧Aside0 (spec_l4Apply.j0 kq l0 X Ah A7 A0 A2 A8=some (r1,r2))∧Aside0 (kq≤k)∧Aside0 (Kd.R k133 133 wc w0.heap.size (fun k_=>(A6 k_∨w.heap.size≤k_)) (.slice AB l0.length AC) l0)∧Aside0 (wc.heap[A9]? = some (.cells #[.int .i64 A7,.string A0,.string A2,.int .i64 A8] 135 (0,0)))∧Aside0 (Kept w wc (fun k_=>A6 k_))∧Aside0 (Below w0.heap.size w0 wc))
  case first=>
   have H:=AQ.o;clear AQ;by_cases c10:A7=1
   ·rw[if_pos c10]at H;have Ae:=bT c10;have AR:=bE c10;clear c10;(first|rw[Ae]|(simp only[i64_w,i32_w];rw[Ae])|skip);by_cases Ai:A2.toList=([]:List UInt8)
    ·rw[if_pos Ai]at H;have Aj:=bT Ai;have Ak:=Aj;simp only[show ∀l_:List UInt8,(l_ == [])=l_.isEmpty from fun l_=>by cases l_<;>rfl]at Ak;have AS:=bE Ai;clear Ai;have H':=aK H;clear H;have:=cf4 D;go_wp2
     go_meet
     case rel=>exact⟨_,(decide (X<0)),fa,H',⟨by first|omega|exact Nat.le_refl _⟩,⟨rpR Ab.o⟩,⟨bw D⟩,⟨by repeat (first|(with_reducible first|exact HK.o|apply Kept.alloc|apply Kept.drewN|apply Kept.drew|refine Kept.setCell ?_ (.inr J.o) _)|exact HK.o)⟩,⟨bl⟩⟩
    ·rw[if_neg Ai]at H;have Aj:=bN Ai;have Ak:=Aj;simp only[show ∀l_:List UInt8,(l_ == [])=l_.isEmpty from fun l_=>by cases l_<;>rfl]at Ak;have AS:=bQ Ai;have H':=aK H;clear H;have:=cf4 D;go_wp2
     go_meet
     case rel=>exact⟨_,(false),fa,H',⟨by first|omega|exact Nat.le_refl _⟩,⟨rpR Ab.o⟩,⟨bw D⟩,⟨by repeat (first|(with_reducible first|exact HK.o|apply Kept.alloc|apply Kept.drewN|apply Kept.drew|refine Kept.setCell ?_ (.inr J.o) _)|exact HK.o)⟩,⟨bl⟩⟩
   ·rw[if_neg c10]at H;have Ae:=bN c10;have AR:=bQ c10;(first|rw[Ae]|(simp only[i64_w,i32_w];rw[Ae])|skip);have H':=aK H;clear H;have:=cf4 D;go_wp2
    go_meet
    case rel=>exact⟨_,(false),fa,H',⟨by first|omega|exact Nat.le_refl _⟩,⟨rpR Ab.o⟩,⟨bw D⟩,⟨by repeat (first|(with_reducible first|exact HK.o|apply Kept.alloc|apply Kept.drewN|apply Kept.drew|refine Kept.setCell ?_ (.inr J.o) _)|exact HK.o)⟩,⟨bl⟩⟩
  case rest=>
   clear AQ;obtain⟨kq,Ah,rfl,HA,AD,U,D,HK,HB⟩:=hcut;cases kq with
   |zero=>exact absurd HA.o (by simp[spec_l4Apply.j0])
   |succ AJ=>
    have H:=HA.o;clear HA;simp only[spec_l4Apply.j0]at H;by_cases AK:Ah=true
    ·subst AK;replace H:=iT H;obtain⟨Ax,Bi,H⟩:=bd H;obtain⟨rfl,rfl⟩:=t2 H;have:=cf4 D;go_wp2_with (first|((with_reducible refine gc 161 ?_);refine goesW Tryz.func161 ?_;(with_reducible refine(spec_l4With.calls AJ _ _ l0 A0 A8 Ax _ ?_ ?_ Bi.o).mono ?_);exact ca (cR U.o);exact cl U;rintro e By ⟨Bz,rfl,Aa,hb⟩;refine⟨_,rfl,?_⟩;have B6:=rl HB (Kd.R_new' (Kd.R_newM (M:=fun k_=>(A6 k_∨w.heap.size≤k_)) Aa (by first|exact HK.out.1|exact(show Kept w _ (fun k_=>A6 k_)from by repeat (first|(with_reducible first|exact HK.o|apply Kept.alloc|apply Kept.drewN|apply Kept.drew|refine Kept.setCell ?_ (.inr J.o) _)|exact HK.o)).1) (fun k_ h_=>.inr h_)) (Kd.R_lt (rpR U.o)));replace U:=re U.o Aa hb;replace D:=bv D hb;replace HK:=aK (Kept.below (S:=(fun k_=>A6 k_)) (by repeat (first|(with_reducible first|exact HK.o|apply Kept.alloc|apply Kept.drewN|apply Kept.drew|refine Kept.setCell ?_ (.inr J.o) _)|exact HK.o)) hb);replace HB:=bs (w:=w0) hb))
     go_ret2
     exact⟨_,fe,rpR (rM B6.o (fun _ hk=>hk.1.1)),bl,by repeat (first|(with_reducible first|exact HK.o|apply Kept.alloc|apply Kept.drewN|apply Kept.drew|refine Kept.setCell ?_ (.inr J.o) _)|exact HK.o)⟩
    ·replace AK:=bF AK;subst AK;replace H:=iF H;have AE:=aK H;clear H;go_upto_region 6 with(fail)
     go_cut [37] (fun Bj wc=>∃(kq:Nat) (Ad:Bool),Bj = .bool Ad∧Aside0 (spec_l4Apply.j1 kq l0 X Ad A7 A0 A2 A8=some (r1,r2))∧Aside0 (kq≤AJ)∧Aside0 (Kd.R k133 133 wc w0.heap.size (fun k_=>(A6 k_∨w.heap.size≤k_)) (.slice AB l0.length AC) l0)∧Aside0 (wc.heap[A9]? = some (.cells #[.int .i64 A7,.string A0,.string A2,.int .i64 A8] 135 (0,0)))∧Aside0 (Kept w wc (fun k_=>A6 k_))∧Aside0 (Below w0.heap.size w0 wc))
     case first=>
      have H:=AE.o;clear AE;by_cases Al:A7=2
      ·rw[if_pos Al]at H;have Af:=bT Al;have AT:=bE Al;clear Al;(first|rw[Af]|(simp only[i64_w,i32_w];rw[Af])|skip);by_cases Am:A8=0
       ·rw[if_pos Am]at H;have AU:=bT Am;have AV:=bE Am;clear Am;by_cases Av:X≥0
        ·rw[if_pos Av]at H;have AW:=dt Av;clear Av;obtain⟨Ay,B8,H⟩:=bd H;by_cases AL:Ay=true
         ·subst AL;replace H:=iT H;have H':=aK H;clear H;have:=cf4 D;go_wp2_with (first|(go_at_call 103;(with_reducible refine(spec_l4Name.calls AJ A2 _ _ B8.o).mono ?_);rintro e w' ⟨rfl,⟨nd,rfl⟩⟩))
          go_meet
          case rel=>exact⟨_,((A2.toList != A0.toList)),fa,H',⟨by have:=AD.o;first|omega|exact Nat.le_refl _⟩,⟨rpR U.o⟩,⟨bw D⟩,⟨by repeat (first|(with_reducible first|exact HK.o|apply Kept.alloc|apply Kept.drewN|apply Kept.drew|refine Kept.setCell ?_ (.inr J.o) _)|exact HK.o)⟩,⟨bl⟩⟩
         ·replace AL:=bF AL;subst AL;replace H:=iF H;have H':=aK H;clear H;have:=cf4 D;go_wp2_with (first|(go_at_call 103;(with_reducible refine(spec_l4Name.calls AJ A2 _ _ B8.o).mono ?_);rintro e w' ⟨rfl,⟨nd,rfl⟩⟩))
          go_meet
          case rel=>exact⟨_,(false),fa,H',⟨by have:=AD.o;first|omega|exact Nat.le_refl _⟩,⟨rpR U.o⟩,⟨bw D⟩,⟨by repeat (first|(with_reducible first|exact HK.o|apply Kept.alloc|apply Kept.drewN|apply Kept.drew|refine Kept.setCell ?_ (.inr J.o) _)|exact HK.o)⟩,⟨bl⟩⟩
        ·rw[if_neg Av]at H;have AW:=df Av;clear Av;have H':=aK H;clear H;have:=cf4 D;go_wp2
         go_meet
         case rel=>exact⟨_,(false),fa,H',⟨by have:=AD.o;first|omega|exact Nat.le_refl _⟩,⟨rpR U.o⟩,⟨bw D⟩,⟨by repeat (first|(with_reducible first|exact HK.o|apply Kept.alloc|apply Kept.drewN|apply Kept.drew|refine Kept.setCell ?_ (.inr J.o) _)|exact HK.o)⟩,⟨bl⟩⟩
       ·rw[if_neg Am]at H;have AU:=bN Am;have AV:=bQ Am;have H':=aK H;clear H;have:=cf4 D;go_wp2
        go_meet
        case rel=>exact⟨_,(false),fa,H',⟨by have:=AD.o;first|omega|exact Nat.le_refl _⟩,⟨rpR U.o⟩,⟨bw D⟩,⟨by repeat (first|(with_reducible first|exact HK.o|apply Kept.alloc|apply Kept.drewN|apply Kept.drew|refine Kept.setCell ?_ (.inr J.o) _)|exact HK.o)⟩,⟨bl⟩⟩
      ·rw[if_neg Al]at H;have Af:=bN Al;have AT:=bQ Al;(first|rw[Af]|(simp only[i64_w,i32_w];rw[Af])|skip);have H':=aK H;clear H;have:=cf4 D;go_wp2
       go_meet
       case rel=>exact⟨_,(false),fa,H',⟨by have:=AD.o;first|omega|exact Nat.le_refl _⟩,⟨rpR U.o⟩,⟨bw D⟩,⟨by repeat (first|(with_reducible first|exact HK.o|apply Kept.alloc|apply Kept.drewN|apply Kept.drew|refine Kept.setCell ?_ (.inr J.o) _)|exact HK.o)⟩,⟨bl⟩⟩
     case rest=>
      clear AE;obtain⟨kq,Ad,rfl,HA,Bv,U,D,HK,HB⟩:=hcut;cases kq with
      |zero=>exact absurd HA.o (by simp[spec_l4Apply.j1])
      |succ AF=>
       have H:=HA.o;clear HA;simp only[spec_l4Apply.j1]at H;by_cases AM:Ad=true
       ·subst AM;replace H:=iT H;obtain⟨As,Bk,H⟩:=bd H;by_cases AN:0≤X
        ·rw[if_pos AN]at H;have Bl:=dt AN;clear AN;by_cases AO:X<(l0.length:Int)
         ·rw[if_pos AO]at H;have Bm:=dt AO;clear AO;obtain⟨Az,Bn,H⟩:=bd H;obtain⟨rfl,rfl⟩:=t2 H;(try go_wp2);replace U:=dR U;replace D:=dB D;replace HK:=aK (Kept.drew HK.o);replace HB:=dW HB;have AX:0≤(X:Int):=dT am;have AY:X<(l0.length:Int):=dT am;obtain⟨AG,Bo,At,Au⟩:=at_T133 (Kd.R_reads' U.o).2.2 X AX AY;cases Bo;replace AX:=eq_true AX;replace AY:=eq_true AY;refine start_ (n:=15) (S:=fun w'=>w'.cell? ⟨A9,0,none⟩=some (.int .i64 A7)∧w'.cell? ⟨A9,1,none⟩=some (.string A0)∧w'.cell? ⟨A9,2,none⟩=some (.string A2)∧w'.cell? ⟨A9,3,none⟩=some (.int .i64 A8)∧w'.cell? (AG.add ((X).toNat*2))=some (.string ((rd_T133 l0 X).f0))∧w'.cell? ⟨(AG.add ((X).toNat*2)).block,(AG.add ((X).toNat*2)).off+1,none⟩=some (.int .i64 ((rd_T133 l0 X).f1))) (ds:=[]) (bo 15 0) (by kernel_rfl) rfl rfl ⟨cb 0 D,cb 1 D,cb 2 D,cb 3 D,At,Au⟩ (fun hHeld=>?_);refine with_tabW spec_l4Apply.tab7 spec_l4Apply.bits7 (fun HT_ HW_=>?_);generalize wc.drew=Bp at U D HK HB At Au hHeld ⊢;refine pv 0 ?_;refine pv 1 ?_;refine pv 4 ?_;refine pv 6 ?_;refine pv 7 ?_
          refine pv 8 ?_;refine pv 9 ?_;refine tv 2 ?_;refine tv 5 ?_;refine tv 10 ?_;refine pv 11 ?_;refine oo 3 (fun K hK=>?_);refine goesV Tryz.func162 ?_;(with_reducible refine(spec_l4Without.calls AF _ _ l0 A0 As _ ?_ ?_ Bk.o).mono ?_);exact ca (cR U.o);exact cl U;rintro e B_ ⟨Bq,rfl,Aa,hb⟩;have AH:=(hb.cell (bL _ _ (hHeld.2.2.2.2.1))).trans (hHeld.2.2.2.2.1);have AI:=(hb.cell (bL _ _ (hHeld.2.2.2.2.2))).trans (hHeld.2.2.2.2.2);refine⟨_,rfl,?_⟩;have Ac:=rl HB (Kd.R_new' (Kd.R_newM (M:=fun k_=>(A6 k_∨w.heap.size≤k_)) Aa (by first|exact HK.out.1|exact(show Kept w _ (fun k_=>A6 k_)from by repeat (first|(with_reducible first|exact HK.o|apply Kept.alloc|apply Kept.drewN|apply Kept.drew|refine Kept.setCell ?_ (.inr J.o) _)|exact HK.o)).1) (fun k_ h_=>.inr h_)) (Kd.R_lt (rpR U.o)));replace U:=re U.o Aa hb;replace D:=bv D hb;replace HK:=aK (Kept.below (S:=(fun k_=>A6 k_)) (by repeat (first|(with_reducible first|exact HK.o|apply Kept.alloc|apply Kept.drewN|apply Kept.drew|refine Kept.setCell ?_ (.inr J.o) _)|exact HK.o)) hb);replace HB:=bs (w:=w0) hb;obtain⟨Bw,Bx,AP⟩:=rs Ac
          (first|subst AP|(injection AP with B9 Br Ba;have Bs:=B9.symm;have Bt:=Ba.symm;clear B9 Br Ba;subst Bs;subst Bt));refine hK.out _ _ ⟨cb 0 D,cb 1 D,cb 2 D,cb 3 D,AH,AI⟩ (fun hHeld=>?_);clear hK K;refine nm 65 ?_;refine oo 12 (fun K hK=>?_);refine goesV Tryz.func161 ?_;(with_reducible refine(spec_l4With.calls AF _ _ As A2 ((rd_T133 l0 X).f1) Az _ ?_ ?_ Bn.o).mono ?_);exact ca (cR Ac.o);exact cl Ac;rintro e BA ⟨BB,rfl,Aa,hb⟩;have AH:=(hb.cell (bL _ _ (hHeld.2.2.2.2.1))).trans (hHeld.2.2.2.2.1);have AI:=(hb.cell (bL _ _ (hHeld.2.2.2.2.2))).trans (hHeld.2.2.2.2.2);refine⟨_,rfl,?_⟩;have Bb:=rl HB (Kd.R_new' (Kd.R_new' (Kd.R_newM (M:=fun k_=>(A6 k_∨w.heap.size≤k_)) Aa (by first|exact HK.out.1|exact(show Kept w _ (fun k_=>A6 k_)from by repeat (first|(with_reducible first|exact HK.o|apply Kept.alloc|apply Kept.drewN|apply Kept.drew|refine Kept.setCell ?_ (.inr J.o) _)|exact HK.o)).1) (fun k_ h_=>.inr h_)) (Kd.R_lt (rpR U.o))) (Kd.R_lt (rpR Ac.o)));replace U:=re U.o Aa hb;replace Ac:=re Ac.o Aa hb;replace D:=bv D hb
          replace HK:=aK (Kept.below (S:=(fun k_=>A6 k_)) (by repeat (first|(with_reducible first|exact HK.o|apply Kept.alloc|apply Kept.drewN|apply Kept.drew|refine Kept.setCell ?_ (.inr J.o) _)|exact HK.o)) hb);replace HB:=bs (w:=w0) hb;refine hK.out _ _ ⟨cb 0 D,cb 1 D,cb 2 D,cb 3 D,AH,AI⟩ (fun hHeld=>?_);clear hK K;refine nm 74 ?_;refine pv 13 ?_;refine pv 14 ?_;refine done_ (done_of HT_.o (by kernel_rfl)) ?_;(try go_wp2)
          go_ret2
          exact⟨_,fe,rpR (rM Bb.o (fun _ hk=>hk.1.1.1)),bl,by repeat (first|(with_reducible first|exact HK.o|apply Kept.alloc|apply Kept.drewN|apply Kept.drew|refine Kept.setCell ?_ (.inr J.o) _)|exact HK.o)⟩
         ·exact no AO H
        ·exact no AN H
       ·replace AM:=bF AM;subst AM;replace H:=iF H;by_cases An:A7=3
        ·rw[if_pos An]at H;have AZ:=bT An;have B0:=bE An;clear An;by_cases Ao:A8=0
         ·rw[if_pos Ao]at H;have B1:=bT Ao;have B2:=bE Ao;clear Ao;by_cases Ap:A2.toList=([]:List UInt8)
          ·rw[if_pos Ap]at H;have Aq:=bT Ap;have Ar:=Aq;simp only[show ∀l_:List UInt8,(l_ == [])=l_.isEmpty from fun l_=>by cases l_<;>rfl]at Ar;have B3:=bE Ap;clear Ap;by_cases Aw:X≥0
           ·rw[if_pos Aw]at H;have B4:=dt Aw;clear Aw;obtain⟨A_,Bu,H⟩:=bd H;obtain⟨rfl,rfl⟩:=t2 H;have:=cf4 D;go_wp2_with (first|((with_reducible refine gc 162 ?_);refine goesW Tryz.func162 ?_;(with_reducible refine(spec_l4Without.calls AF _ _ l0 A0 A_ _ ?_ ?_ Bu.o).mono ?_);exact ca (cR U.o);exact cl U;rintro e Bp ⟨Bq,rfl,Aa,hb⟩;refine⟨_,rfl,?_⟩;have Ac:=rl HB (Kd.R_new' (Kd.R_newM (M:=fun k_=>(A6 k_∨w.heap.size≤k_)) Aa (by first|exact HK.out.1|exact(show Kept w _ (fun k_=>A6 k_)from by repeat (first|(with_reducible first|exact HK.o|apply Kept.alloc|apply Kept.drewN|apply Kept.drew|refine Kept.setCell ?_ (.inr J.o) _)|exact HK.o)).1) (fun k_ h_=>.inr h_)) (Kd.R_lt (rpR U.o)));replace U:=re U.o Aa hb;replace D:=bv D hb;replace HK:=aK (Kept.below (S:=(fun k_=>A6 k_)) (by repeat (first|(with_reducible first|exact HK.o|apply Kept.alloc|apply Kept.drewN|apply Kept.drew|refine Kept.setCell ?_ (.inr J.o) _)|exact HK.o)) hb);replace HB:=bs (w:=w0) hb))
            go_ret2
            exact⟨_,fe,rpR (rM Ac.o (fun _ hk=>hk.1.1)),bl,by repeat (first|(with_reducible first|exact HK.o|apply Kept.alloc|apply Kept.drewN|apply Kept.drew|refine Kept.setCell ?_ (.inr J.o) _)|exact HK.o)⟩
           ·rw[if_neg Aw]at H;have B4:=df Aw;clear Aw;obtain⟨rfl,rfl⟩:=t2 H;have:=cf4 D;go_wp2
            go_ret2
            exact⟨_,fe,rpR U.o,bl,by repeat (first|(with_reducible first|exact HK.o|apply Kept.alloc|apply Kept.drewN|apply Kept.drew|refine Kept.setCell ?_ (.inr J.o) _)|exact HK.o)⟩
          ·rw[if_neg Ap]at H;have Aq:=bN Ap;have Ar:=Aq;simp only[show ∀l_:List UInt8,(l_ == [])=l_.isEmpty from fun l_=>by cases l_<;>rfl]at Ar;have B3:=bQ Ap;obtain⟨rfl,rfl⟩:=t2 H;have:=cf4 D;go_wp2
           go_ret2
           exact⟨_,fe,rpR U.o,bl,by repeat (first|(with_reducible first|exact HK.o|apply Kept.alloc|apply Kept.drewN|apply Kept.drew|refine Kept.setCell ?_ (.inr J.o) _)|exact HK.o)⟩
         ·rw[if_neg Ao]at H;have B1:=bN Ao;have B2:=bQ Ao;obtain⟨rfl,rfl⟩:=t2 H;have:=cf4 D;go_wp2
          go_ret2
          exact⟨_,fe,rpR U.o,bl,by repeat (first|(with_reducible first|exact HK.o|apply Kept.alloc|apply Kept.drewN|apply Kept.drew|refine Kept.setCell ?_ (.inr J.o) _)|exact HK.o)⟩
        ·rw[if_neg An]at H;have AZ:=bN An;have B0:=bQ An;obtain⟨rfl,rfl⟩:=t2 H;have:=cf4 D;go_wp2
         go_ret2
         exact⟨_,fe,rpR U.o,bl,by repeat (first|(with_reducible first|exact HK.o|apply Kept.alloc|apply Kept.drewN|apply Kept.drew|refine Kept.setCell ?_ (.inr J.o) _)|exact HK.o)⟩
 ·replace c5:=bF c5;subst c5;replace H:=iF H;obtain⟨rfl,rfl⟩:=t2 H
  go_enter Tryz.func105,Tryz.ntmps105
  go_wp2_with (first|((with_reducible refine gd 3 ?_);refine boxW ?_;intro A9 hg Bg hbox hb;replace Ab:=rb Ab hb;have D:=aK hbox;have J:=aK ((by rw[hg];exact(by first|exact HK.out.1|exact(show Kept w _ (fun k_=>A6 k_)from by repeat (first|(with_reducible first|exact HK.o|apply Kept.alloc|apply Kept.drewN|apply Kept.drew)|exact HK.o)).1):w.heap.size≤A9));replace HK:=aK (Kept.below (S:=(fun k_=>A6 k_)) (by repeat (first|(with_reducible first|exact HK.o|apply Kept.alloc|apply Kept.drewN|apply Kept.drew)|exact HK.o)) hb);have J:=gw (w:=w0) hg;replace HB:=bs (w:=w0) hb;clear hb hbox hg;have:=cf4 D;obtain⟨AB,AC,rfl⟩:=rs Ab)|((with_reducible refine gc 160 ?_);refine goesW Tryz.func160 ?_;(with_reducible refine mo (spec_l4At.calls k _ _ l0 A0 X _ ?_ ?_ A3.o) ?_);exact ca (cR Ab.o);exact cl Ab;rintro _ ⟨nd,rfl⟩)|((with_reducible refine gc 103 ?_);refine goesW Tryz.func103 ?_;(with_reducible refine mo (spec_l4Name.calls k A0 _ _ A4.o) ?_);rintro _ ⟨nd,rfl⟩))
  go_ret2
  exact⟨_,fe,rpR Ab.o,bl,by repeat (first|(with_reducible first|exact HK.o|apply Kept.alloc|apply Kept.drewN|apply Kept.drew|refine Kept.setCell ?_ (.inr J.o) _)|exact HK.o)⟩
end Go.Proofs.YtndbmllnkjngnaaGreat.PDs
