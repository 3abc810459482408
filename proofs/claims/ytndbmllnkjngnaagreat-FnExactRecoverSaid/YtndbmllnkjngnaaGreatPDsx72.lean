/- Functions of the program, each with its contract, written by a program out of the translation. -/
import Derived.Test.YtndbmllnkjngnaaGreatPDsx0
import Derived.Test.YtndbmllnkjngnaaGreatPDsx16
import Derived.Test.YtndbmllnkjngnaaGreatPDsx70
import Derived.Test.YtndbmllnkjngnaaGreatPDsx68
import Derived.Test.YtndbmllnkjngnaaGreatPDsx52
import Derived.Test.YtndbmllnkjngnaaGreatZip
namespace Go.Proofs.YtndbmllnkjngnaaGreat.PDs
open Go.RowKit Go.Proofs.YtndbmllnkjngnaaGreatW.PrintWords Go.Proofs.YtndbmllnkjngnaaGreatW.PrintLast Go.Proofs.YtndbmllnkjngnaaGreatW.PrintMore Go.Proofs.YtndbmllnkjngnaaGreat.Zip
attribute [local go_sem] max2_int min2_int max_two min_two max_three min_three max_four min_four
set_option linter.unusedVariables false
set_option linter.unusedSimpArgs false
set_option maxHeartbeats 8000000
set_option maxRecDepth 100000
def impl_ReadSnap.j0:Nat→ByteArray→ByteArray→Int→Bool→Option (Int×Int×ByteArray×Bool)
 | 0,_,_,_,_=>none
 |k+1,x0,x4,x5,B_=>if B_=true then(some (0,0,(⟨#[]⟩:ByteArray),false))else(if 0≤x5 then(if x5≤(x0.size:Int)then((impl_ReadFixed.f k x4 4).bind fun Aw=>(if 4≤(x4.size:Int)then((impl_ReadFixed.f k (x4.extract 4 x4.size) 4).bind fun Ax=>(if(Aw.1==0&&(Ax.1==0&&(((x0.extract (x5:Int).toNat x0.size).toList)==([]:List UInt8))))=true then(some (0,0,(⟨#[]⟩:ByteArray),false))else((impl_ShowSnap.f k Aw.1 Ax.1 (x0.extract (x5:Int).toNat x0.size)).bind fun As=>(if As.toList=x0.toList then(some (Aw.1,Ax.1,x0.extract (x5:Int).toNat x0.size,true))else(some (0,0,(⟨#[]⟩:ByteArray),false))))))else(none)))else(none))else(none))
def impl_ReadSnap.f (k:Nat) (a0:ByteArray):Option (Int×Int×ByteArray×Bool):=(impl_Unframe.f k a0).bind fun Ag=>(if Ag.2.2=0 then(impl_ReadSnap.j0 k a0 Ag.1 Ag.2.1 ((Ag.1.size:Int) != 16))else(impl_ReadSnap.j0 k a0 Ag.1 Ag.2.1 true))
theorem impl_ReadSnap.calls (k:Nat) (a0:ByteArray) (r1:Int) (r2:Int) (r3:ByteArray) (r4:Bool) (w:World) (h:impl_ReadSnap.f k a0=some (r1,r2,r3,r4)) :
 Calls Tryz.prog 91 #[.string a0] w fun e w'=>e = .returned (.tuple #[.agg #[.int .i64 r1,.int .i64 r2,.string r3],.bool r4])∧Below w.heap.size w w':=by
 have BL:=Tryz.underlying69;have HB:=aK (Below.refl w.heap.size w);have H:=h;unfold impl_ReadSnap.f at H;clear h;replace H:=oB H;obtain⟨⟨A9,A5,B9⟩,Bp,H⟩:=H;dsimp only at H;have A2:=aK Bp;clear Bp;have Bg:=aK H;clear H
 go_enter Tryz.func91,Tryz.ntmps91
 go_upto_region 2 with(first|((with_reducible refine gd 2 ?_);(try (refine gate_guard rfl ?_;dsimp only));refine boxQ HB ?_;clear HB;intro X hg w4 D BA HB hb;clear hb hg)|((with_reducible refine gc 155 ?_);refine goesW Tryz.func155 ?_;(with_reducible refine mo (impl_Unframe.calls k a0 A9 A5 B9 _ A2.o) ?_);intro w5 hb;replace D:=bv D hb;replace HB:=bS HB hb))
 (try simp only[Act.put,List.setIfInBounds_toArray,List.set_cons_zero,List.set_cons_succ])
 go_cut [20] (fun BB wc=>∃(kq:Nat) (Ar:Bool),BB = .bool Ar∧Aside0 (impl_ReadSnap.j0 kq a0 A9 A5 Ar=some (r1,r2,r3,r4))∧Aside0 (kq≤k)∧Aside0 (wc.heap[X]? = some (.cells #[.int .i64 0,.int .i64 0,.string (⟨#[]⟩:ByteArray)] 69 (0,0)))∧Aside0 (Below w.heap.size w wc))
 case first=>
  have H:=Bg.o;clear Bg;by_cases c6:B9=0
  ·rw[if_pos c6]at H;have At:=bT c6;have Bq:=bE c6;clear c6;(first|rw[At]|(simp only[i64_w,i32_w];rw[At])|skip);have H':=aK H;clear H
   go_wp2
   go_meet
   case rel=>exact⟨_,(((A9.size:Int) != 16)),fa,H',⟨by first|omega|exact Nat.le_refl _⟩,⟨bw D⟩,⟨bl⟩⟩
  ·rw[if_neg c6]at H;have At:=bN c6;have Bq:=bQ c6;(first|rw[At]|(simp only[i64_w,i32_w];rw[At])|skip);have H':=aK H;clear H
   go_wp2
   go_meet
   case rel=>exact⟨_,(true),fa,H',⟨by first|omega|exact Nat.le_refl _⟩,⟨bw D⟩,⟨bl⟩⟩
 case rest=>
  clear Bg;obtain⟨kq,Ar,rfl,HA,BS,D,HB⟩:=hcut
  cases kq with
  |zero=>exact absurd HA.o (by simp[impl_ReadSnap.j0])
  |succ Au=>
   have H:=HA.o;clear HA;simp only[impl_ReadSnap.j0]at H;by_cases c7:Ar=true
   ·subst c7;replace H:=iT H;obtain⟨rfl,rfl,rfl,rfl⟩:=t4 H;have:=cf3 D
    go_wp2
    refine bodyPost_ret (results_ct rfl _ _ X 69 #[.int .i64 0,.int .i64 0,.string (⟨#[]⟩:ByteArray)] (0,0) _ rfl bkk Tryz.underlying69 rfl (by kernel_rfl)) rfl ?_;exact⟨fe,bl⟩
   ·replace c7:=bF c7;subst c7;replace H:=iF H;by_cases c9:0≤A5
    ·rw[if_pos c9]at H;have Ba:=eq_true c9;have Bb:=dt c9;clear c9;by_cases c10:A5≤(a0.size:Int)
     ·rw[if_pos c10]at H;have BC:=eq_true c10;have BD:=dt c10;clear c10;replace H:=oB H;obtain⟨⟨Z,AP⟩,Bc,H⟩:=H;dsimp only at H;have Bh:=aK Bc;clear Bc;by_cases Ai:4≤(A9.size:Int)
      ·rw[if_pos Ai]at H;have Bi:=eq_true Ai;have Bj:=dt Ai;clear Ai;replace H:=oB H;obtain⟨⟨Aa,AQ⟩,Bd,H⟩:=H;dsimp only at H;have AR:=aK Bd;clear Bd;by_cases AO:(Z==0&&(Aa==0&&(((a0.extract (A5:Int).toNat a0.size).toList)==([]:List UInt8))))=true
       ·rw[if_pos AO]at H;obtain⟨Bk,Br,BE⟩:((Z=0)=True)∧((Aa=0)=True)∧(((a0.extract (A5:Int).toNat a0.size).toList = [])=True):=(by simpa using AO);clear AO;obtain⟨rfl,rfl,rfl,rfl⟩:=t4 H
        go_wp2_with (first|((with_reducible refine gd 7 ?_);(try (refine gate_guard rfl ?_;dsimp only));refine boxQ HB ?_;clear HB;intro Y hg BT Ad AS HB hb;have A6:=nL D hg;have Aj:=nR D hg;replace D:=bv D hb;clear hb hg;have:=cf3 Ad)|((with_reducible refine gc 156 ?_);refine goesY (some 28) rfl Tryz.func156 ?_;(with_reducible refine mo (impl_ReadFixed.calls Au A9 4 Z AP _ Bh.o) ?_);rintro _ ⟨nd,rfl⟩)|((with_reducible refine gc 156 ?_);refine goesY (some 35) rfl Tryz.func156 ?_;(with_reducible refine mo (impl_ReadFixed.calls Au (A9.extract 4 A9.size) 4 Aa AQ _ AR.o) ?_);rintro _ ⟨nd,rfl⟩;generalize hq_:World.drewN _ nd=U;have A0:U.heap[Y]? = some (.cells #[.int .i64 Z,.int .i64 0,.string (a0.extract (A5:Int).toNat a0.size)] 69 (0,0)):=(by rw[←hq_];exact bkk);have A3:U.heap[X]? = some (.cells #[.int .i64 0,.int .i64 0,.string (⟨#[]⟩:ByteArray)] 69 (0,0)):=(by rw[←hq_];exact(by repeat (first|exact D.o|(with_reducible refine blk_drewN ?_ _)|(with_reducible refine blk_drew ?_)|refine blk_far ?_ A6 _)));have AA:U.cell? ⟨Y,0,none⟩=some (.int .i64 Z):=(blk_cell A0 0).trans rfl;have AB:=blk_frozen A0 0;have AC:U.cell? ⟨Y,1,none⟩=some (.int .i64 0):=(blk_cell A0 1).trans rfl;have AD:=blk_frozen A0 1;have AE:U.cell? ⟨Y,2,none⟩=some (.string (a0.extract (A5:Int).toNat a0.size)):=(blk_cell A0 2).trans rfl;have AF:=blk_frozen A0 2;have AG:U.cell? ⟨X,0,none⟩=some (.int .i64 0):=(blk_cell A3 0).trans rfl;have AH:=blk_frozen A3 0;have AI:U.cell? ⟨X,1,none⟩=some (.int .i64 0):=(blk_cell A3 1).trans rfl;have AJ:=blk_frozen A3 1;have AK:U.cell? ⟨X,2,none⟩=some (.string (⟨#[]⟩:ByteArray)):=(blk_cell A3 2).trans rfl;have AL:=blk_frozen A3 2))
        subst hq_;refine bodyPost_ret (results_ct rfl _ _ X 69 #[.int .i64 0,.int .i64 0,.string (⟨#[]⟩:ByteArray)] (0,0) _ rfl bkk Tryz.underlying69 rfl (by kernel_rfl)) rfl ?_;exact⟨fe,bl⟩
       ·rw[if_neg AO]at H;have q_:((Z=0)=True∧(Aa=0)=True∧((a0.extract (A5:Int).toNat a0.size).toList = [])=False)∨((Z=0)=True∧(Aa=0)=False)∨((Z=0)=False):=by
         by_cases a:Z=0
         ·by_cases b:Aa=0
          ·exact .inl ⟨eq_true a,eq_true b,eq_false fun c=>AO (by simp[a,b,c])⟩
          ·exact .inr (.inl ⟨eq_true a,eq_false b⟩)
         ·exact .inr (.inr (eq_false a))
        clear AO;obtain⟨As,Bs,H⟩:=bd H
        rcases q_ with⟨Bk,Br,BE⟩|⟨Bk,Br⟩|Bk
        all_goals
         by_cases Ay:As.toList=a0.toList
         ·rw[if_pos Ay]at H;have Bl:=bT Ay;have Bm:=bE Ay;clear Ay;obtain⟨rfl,rfl,rfl,rfl⟩:=t4 H
          go_wp2_with (first|((with_reducible refine gd 7 ?_);(try (refine gate_guard rfl ?_;dsimp only));refine boxQ HB ?_;clear HB;intro Y hg BU Ad AS HB hb;have A6:=nL D hg;have Aj:=nR D hg;replace D:=bv D hb;clear hb hg;have:=cf3 Ad)|((with_reducible refine gc 156 ?_);refine goesY (some 28) rfl Tryz.func156 ?_;(with_reducible refine mo (impl_ReadFixed.calls Au A9 4 Z AP _ Bh.o) ?_);rintro _ ⟨nd,rfl⟩)|((with_reducible refine gc 156 ?_);refine goesY (some 35) rfl Tryz.func156 ?_;(with_reducible refine mo (impl_ReadFixed.calls Au (A9.extract 4 A9.size) 4 Aa AQ _ AR.o) ?_);rintro _ ⟨nd,rfl⟩;generalize hq_:World.drewN _ nd=U;have A0:U.heap[Y]? = some (.cells #[.int .i64 Z,.int .i64 0,.string (a0.extract (A5:Int).toNat a0.size)] 69 (0,0)):=(by rw[←hq_];exact bkk);have A3:U.heap[X]? = some (.cells #[.int .i64 0,.int .i64 0,.string (⟨#[]⟩:ByteArray)] 69 (0,0)):=(by rw[←hq_];exact(by repeat (first|exact D.o|(with_reducible refine blk_drewN ?_ _)|(with_reducible refine blk_drew ?_)|refine blk_far ?_ A6 _)));have AA:U.cell? ⟨Y,0,none⟩=some (.int .i64 Z):=(blk_cell A0 0).trans rfl;have AB:=blk_frozen A0 0;have AC:U.cell? ⟨Y,1,none⟩=some (.int .i64 0):=(blk_cell A0 1).trans rfl;have AD:=blk_frozen A0 1;have AE:U.cell? ⟨Y,2,none⟩=some (.string (a0.extract (A5:Int).toNat a0.size)):=(blk_cell A0 2).trans rfl;have AF:=blk_frozen A0 2;have AG:U.cell? ⟨X,0,none⟩=some (.int .i64 0):=(blk_cell A3 0).trans rfl;have AH:=blk_frozen A3 0;have AI:U.cell? ⟨X,1,none⟩=some (.int .i64 0):=(blk_cell A3 1).trans rfl;have AJ:=blk_frozen A3 1;have AK:U.cell? ⟨X,2,none⟩=some (.string (⟨#[]⟩:ByteArray)):=(blk_cell A3 2).trans rfl;have AL:=blk_frozen A3 2)|(subst hq_;go_at_call 85;(with_reducible refine(impl_ShowSnap.calls Au Z Aa (a0.extract (A5:Int).toNat a0.size) As _ Bs.o).mono ?_);rintro e BV ⟨rfl,hb⟩;replace D:=aK (blk_below (g:=X) (o:=.cells #[.int .i64 0,.int .i64 0,.string (⟨#[]⟩:ByteArray)] 69 (0,0)) bkk hb);replace Ad:=aK (blk_below (g:=Y) (o:=.cells #[.int .i64 Z,.int .i64 Aa,.string (a0.extract (A5:Int).toNat a0.size)] 69 (0,0)) bkk hb);replace HB:=bS HB hb;have:=cf3 Ad;have:=cf3 D))
          refine bodyPost_ret (results_ct rfl _ _ X 69 #[.int .i64 Z,.int .i64 Aa,.string (a0.extract (A5:Int).toNat a0.size)] (0,0) _ rfl bkk Tryz.underlying69 rfl (by kernel_rfl)) rfl ?_;exact⟨fe,bl⟩
         ·rw[if_neg Ay]at H;have Bl:=bN Ay;have Bm:=bQ Ay;obtain⟨rfl,rfl,rfl,rfl⟩:=t4 H
          go_wp2_with (first|((with_reducible refine gd 7 ?_);(try (refine gate_guard rfl ?_;dsimp only));refine boxQ HB ?_;clear HB;intro Y hg BW Ad AS HB hb;have A6:=nL D hg;have Aj:=nR D hg;replace D:=bv D hb;clear hb hg;have:=cf3 Ad)|((with_reducible refine gc 156 ?_);refine goesY (some 28) rfl Tryz.func156 ?_;(with_reducible refine mo (impl_ReadFixed.calls Au A9 4 Z AP _ Bh.o) ?_);rintro _ ⟨nd,rfl⟩)|((with_reducible refine gc 156 ?_);refine goesY (some 35) rfl Tryz.func156 ?_;(with_reducible refine mo (impl_ReadFixed.calls Au (A9.extract 4 A9.size) 4 Aa AQ _ AR.o) ?_);rintro _ ⟨nd,rfl⟩;generalize hq_:World.drewN _ nd=U;have A0:U.heap[Y]? = some (.cells #[.int .i64 Z,.int .i64 0,.string (a0.extract (A5:Int).toNat a0.size)] 69 (0,0)):=(by rw[←hq_];exact bkk);have A3:U.heap[X]? = some (.cells #[.int .i64 0,.int .i64 0,.string (⟨#[]⟩:ByteArray)] 69 (0,0)):=(by rw[←hq_];exact(by repeat (first|exact D.o|(with_reducible refine blk_drewN ?_ _)|(with_reducible refine blk_drew ?_)|refine blk_far ?_ A6 _)));have AA:U.cell? ⟨Y,0,none⟩=some (.int .i64 Z):=(blk_cell A0 0).trans rfl;have AB:=blk_frozen A0 0;have AC:U.cell? ⟨Y,1,none⟩=some (.int .i64 0):=(blk_cell A0 1).trans rfl;have AD:=blk_frozen A0 1;have AE:U.cell? ⟨Y,2,none⟩=some (.string (a0.extract (A5:Int).toNat a0.size)):=(blk_cell A0 2).trans rfl;have AF:=blk_frozen A0 2;have AG:U.cell? ⟨X,0,none⟩=some (.int .i64 0):=(blk_cell A3 0).trans rfl;have AH:=blk_frozen A3 0;have AI:U.cell? ⟨X,1,none⟩=some (.int .i64 0):=(blk_cell A3 1).trans rfl;have AJ:=blk_frozen A3 1;have AK:U.cell? ⟨X,2,none⟩=some (.string (⟨#[]⟩:ByteArray)):=(blk_cell A3 2).trans rfl;have AL:=blk_frozen A3 2)|(subst hq_;go_at_call 85;(with_reducible refine(impl_ShowSnap.calls Au Z Aa (a0.extract (A5:Int).toNat a0.size) As _ Bs.o).mono ?_);rintro e BX ⟨rfl,hb⟩;replace D:=aK (blk_below (g:=X) (o:=.cells #[.int .i64 0,.int .i64 0,.string (⟨#[]⟩:ByteArray)] 69 (0,0)) bkk hb);replace Ad:=aK (blk_below (g:=Y) (o:=.cells #[.int .i64 Z,.int .i64 Aa,.string (a0.extract (A5:Int).toNat a0.size)] 69 (0,0)) bkk hb);replace HB:=bS HB hb;have:=cf3 D))
          refine bodyPost_ret (results_ct rfl _ _ X 69 #[.int .i64 0,.int .i64 0,.string (⟨#[]⟩:ByteArray)] (0,0) _ rfl bkk Tryz.underlying69 rfl (by kernel_rfl)) rfl ?_;exact⟨fe,bl⟩
      ·exact no Ai H
     ·exact no c10 H
    ·exact no c9 H
def impl_behind.f (AT:Int) (AU:Int) (Ab:Int) (AV:Int) (J:List (S115)) (a1:Int) (a2:Int):Option ((List (S115))):=(impl_from.f (wrap64 ((wrap64 (a1-Ab))-1)) 0 (wrap64 ((J.length:Int)-1))).bind fun AW=>(if AW=true then(if 0≤(wrap64 ((wrap64 (a1-Ab))-1))then(if(wrap64 ((wrap64 (a1-Ab))-1))<(J.length:Int)then(if((rd_T115 J (wrap64 ((wrap64 (a1-Ab))-1))).f0)=a2 then(if 0≤(wrap64 ((wrap64 ((wrap64 (a1-Ab))-1))+1))then(if(wrap64 ((wrap64 ((wrap64 (a1-Ab))-1))+1))≤(J.length:Int)then((impl_Entry.f (J.drop ((wrap64 ((wrap64 ((wrap64 (a1-Ab))-1))+1)):Int).toNat)).bind fun AX=>(some AX))else(none))else(none))else(some ([]:List (S115))))else(none))else(none))else(some ([]:List (S115))))
theorem impl_behind.calls (AT:Int) (AU:Int) (Ab:Int) (AV:Int) (Be:Option Addr) (Ak:Nat) (J:List (S115)) (a1:Int) (a2:Int) (r:List (S115)) (w:World) (AY:Kd.C k115 w Be J.length J) (AZ:J.length≤Ak) (h:impl_behind.f AT AU Ab AV J a1 a2=some r) :
 Calls Tryz.prog 93 #[.agg #[.int .i64 AT,.int .i64 AU,.int .i64 Ab,.int .i64 AV,.slice Be J.length Ak],.int .i64 a1,.int .i64 a2] w fun e w'=>∃Bt:Value,e = .returned (Bt)∧Kd.R k115 115 w' w.heap.size (fun _=>True) Bt r∧Below w.heap.size w w':=by
 have BM:=Tryz.underlying52;have Az:=aK AY;have Bn:=aK AZ;clear AY AZ;have HB:=aK (Below.refl w.heap.size w);have H:=h;unfold impl_behind.f at H;clear h;obtain⟨AW,A4,H⟩:=bd H;by_cases c5:AW=true
 ·subst c5;replace H:=iT H;obtain⟨Ae,Ah⟩:∃j_:Int,(wrap64 ((wrap64 (a1-Ab))-1))=j_:=⟨_,rfl⟩;(first|rw[Ah]at H|simp only[Ah]at H)
  (try rw[Ah]at A4);have BF:(IntKind.i64.wrap ((wrap64 (a1-Ab))-1))=Ae:=(i64_w _).trans Ah;by_cases c7:0≤(Ae)
  ·rw[if_pos c7]at H;have BN:=dt c7;clear c7;by_cases c8:(Ae)<(J.length:Int)
   ·rw[if_pos c8]at H;have BO:=dt c8;clear c8;by_cases c9:((rd_T115 J (Ae)).f0)=a2
    ·rw[if_pos c9]at H;have Ba:=bT c9;have Bb:=bE c9;clear c9;obtain⟨Ac,Al⟩:∃j_:Int,(wrap64 ((Ae)+1))=j_:=⟨_,rfl⟩;(first|rw[Al]at H|simp only[Al]at H)
     (try rw[Al]at A4);have Bz:(IntKind.i64.wrap ((Ae)+1))=Ac:=(i64_w _).trans Al;by_cases B0:0≤(Ac)
     ·rw[if_pos B0]at H;have BG:=eq_true B0;have BH:=dt B0;clear B0;by_cases Ai:(Ac)≤(J.length:Int)
      ·rw[if_pos Ai]at H;have Bi:=eq_true Ai;have Bj:=dt Ai;clear Ai;obtain⟨Aq,A_⟩:=yy (J.drop ((Ac):Int).toNat);rw[←A_]at H;(try rw[obs]at H)
       have B1:=aK A_;clear A_;obtain⟨AX,AR,H⟩:=bd H;obtain rfl:=oj H
       go_enter Tryz.func93,Tryz.ntmps93
       go_wp2_with (first|((with_reducible refine gd 3 ?_);refine boxQ HB ?_;clear HB;intro B2 hg Bu Af B3 HB hb;clear hb hg;have:=cf5 Af)|((with_reducible refine gc 119 ?_);refine goesL_ (some 18) rfl rfl Tryz.func119 (by kernel_rfl) rfl #[.int .i64 Ae,.int .i64 0,.int .i64 (wrap64 ((J.length:Int)-1))] rfl (by(try simp only[List.map_toArray,List.map_cons,List.map_nil]);first|done|(simp only[Ah];rfl)|rfl|(simp only[List.length_drop,List.length_take];rfl)) ?_;(with_reducible refine mo (impl_from.calls Ae 0 (wrap64 ((J.length:Int)-1)) _ _ A4.o) ?_);rintro _ ⟨nd,rfl⟩;have Am:0≤((Ae):Int):=dT am;have An:(Ae)<(J.length:Int):=dT am;obtain⟨Ao,B4,A7,A8⟩:=at_T115 Az.o (Ae) Am An;cases B4;replace A7:=(HB.out.cell (bL w _ A7)).trans A7;replace A8:=(HB.out.cell (bL w _ A8)).trans A8;replace Am:=eq_true Am;replace An:=eq_true An;have Bo:((Ac):Int)≤((J.length:Int):Int):=dT am;obtain⟨BP,B5,_,B6,_⟩:=info_parts info115;have Ap:J.length≤Ak:=Bn.o;have Bf:Kd.C k115 _ (some Ao) J.length J:=Az.o;have BI:(0:Int)≤((Ac):Int):=dT am;have B8:=cut_from (P:=Tryz.prog) 50 115 .i64 Tryz.underlying50 B5 2 B6 (some Ao) J.length Ak (Ac) BI Bo;have Av:=Kd.C_drop (m:=((Ac):Int).toNat) (c:=Ak) Bf (by omega) Ap;obtain⟨BJ,AM⟩:∃A1,A1=(if Ak=((Ac):Int).toNat then(some Ao)else((some Ao):Option Addr).map (·.add (((Ac):Int).toNat*2))):=⟨_,rfl⟩;obtain⟨BK,B7⟩:∃c1,c1=Ak-((Ac):Int).toNat:=⟨_,rfl⟩;have AN:Aq.length=J.length-((Ac):Int).toNat:=(by rw[B1.o,List.length_drop]<;>omega);rw[show(J).drop ((Ac):Int).toNat=Aq from B1.out.symm]at Av;replace Av:Kd.C k115 _ BJ Aq.length Aq:=(by rw[AM];exact Av);rw[←AN,←AM,←B7]at B8;have Bv:=aK Av;have Bw:=aK (show Aq.length≤BK from by rw[AN,B7];exact Nat.sub_le_sub_right Ap _);clear Av Bf Ap B5 B6 B7;have BQ:=aK AN;have BR:=aK AM;clear AN AM;replace Bo:=eq_true Bo)|((with_reducible refine gc 158 ?_);refine goesW Tryz.func158 ?_;(with_reducible refine(impl_Entry.calls _ _ Aq AX _ ?_ ?_ AR.o).mono ?_);exact ca (Kd.C_below Bv.o bl);exact Bw.o;rintro e BY ⟨BZ,rfl,Bx,hb⟩;refine⟨_,rfl,?_⟩;have By:=rl HB Bx;replace Af:=bv Af hb;replace HB:=bS HB hb))
       go_ret
       exact⟨_,by first|rfl|(simp[errW_none,errW_some]<;>rfl)|(simp only[←Ah,←Al];first|rfl|(simp[errW_none,errW_some]<;>rfl))|(simp[*,errW_none,errW_some]<;>rfl),rpR By.o,bl⟩
      ·exact no Ai H
     ·exact no B0 H
    ·rw[if_neg c9]at H;have Ba:=bN c9;have Bb:=bQ c9;obtain rfl:=oj H
     go_enter Tryz.func93,Tryz.ntmps93
     go_wp2_with (first|((with_reducible refine gd 3 ?_);refine boxQ HB ?_;clear HB;intro B2 hg Bu Af B3 HB hb;clear hb hg;have:=cf5 Af)|((with_reducible refine gc 119 ?_);refine goesL_ (some 18) rfl rfl Tryz.func119 (by kernel_rfl) rfl #[.int .i64 Ae,.int .i64 0,.int .i64 (wrap64 ((J.length:Int)-1))] rfl (by(try simp only[List.map_toArray,List.map_cons,List.map_nil]);first|done|(simp only[Ah];rfl)|rfl|(simp only[List.length_drop,List.length_take];rfl)) ?_;(with_reducible refine mo (impl_from.calls Ae 0 (wrap64 ((J.length:Int)-1)) _ _ A4.o) ?_);rintro _ ⟨nd,rfl⟩;have Am:0≤((Ae):Int):=dT am;have An:(Ae)<(J.length:Int):=dT am;obtain⟨Ao,B4,A7,A8⟩:=at_T115 Az.o (Ae) Am An;cases B4;replace A7:=(HB.out.cell (bL w _ A7)).trans A7;replace A8:=(HB.out.cell (bL w _ A8)).trans A8;replace Am:=eq_true Am;replace An:=eq_true An))
     go_ret
     exact⟨_,by first|rfl|(simp[errW_none,errW_some]<;>rfl)|(simp only[←Ah];first|rfl|(simp[errW_none,errW_some]<;>rfl))|(simp[*,errW_none,errW_some]<;>rfl),by first|exact Kd.R_nil _ _ _ _ _|exact Kd.N_nil _ _ _ _ _|exact Kd.V_nil _ _ _ _ _|exact Kd.Q_nil _ _ _ _ _|exact Kd.S_nil _ _ _ _ _,bl⟩
   ·exact no c8 H
  ·exact no c7 H
 ·replace c5:=bF c5;subst c5;replace H:=iF H;obtain rfl:=oj H
  go_enter Tryz.func93,Tryz.ntmps93
  go_wp2_with (first|((with_reducible refine gd 3 ?_);refine boxQ HB ?_;clear HB;intro B2 hg Bu Af B3 HB hb;clear hb hg;have:=cf5 Af)|((with_reducible refine gc 119 ?_);refine goesW Tryz.func119 ?_;(with_reducible refine mo (impl_from.calls (wrap64 ((wrap64 (a1-Ab))-1)) 0 (wrap64 ((J.length:Int)-1)) _ _ A4.o) ?_);rintro _ ⟨nd,rfl⟩))
  go_ret
  exact⟨_,fe,by first|exact Kd.R_nil _ _ _ _ _|exact Kd.N_nil _ _ _ _ _|exact Kd.V_nil _ _ _ _ _|exact Kd.Q_nil _ _ _ _ _|exact Kd.S_nil _ _ _ _ _,bl⟩
end Go.Proofs.YtndbmllnkjngnaaGreat.PDs
