/- Functions of the program, each with its contract, written by a program out of the translation. -/
import Derived.Test.YtndbmllnkjngnaaPDsx0
import Derived.Test.YtndbmllnkjngnaaZup
namespace Go.Proofs.Ytndbmllnkjngnaa.PDs
open Go.RowKit Go.Proofs.YtndbmllnkjngnaaW.PrintWords Go.Proofs.YtndbmllnkjngnaaW.PrintLast Go.Proofs.YtndbmllnkjngnaaW.PrintMore Go.Proofs.Ytndbmllnkjngnaa.Zip
attribute [local go_sem] max2_int min2_int max_two min_two max_three min_three max_four min_four
set_option linter.unusedVariables false
set_option linter.unusedSimpArgs false
set_option maxHeartbeats 8000000
set_option maxRecDepth 100000
def laws_big.f (l0:List Int):Option (Bool):=some (decide ((l0.length:Int)>1048576))
theorem laws_big.calls (U:Option Addr) (X:Nat) (l0:List Int) (r:Bool) (w:World) (D:Kd.C (Kd.int .u8) w U l0.length l0) (J:l0.length≤X) (h:laws_big.f l0=some r) :
 Calls Try.prog 6 #[.slice U l0.length X] w fun e w'=>e = .returned (.bool r)∧Drawn0 w w':=by
 have Y:=aK D;have Z:=aK J;clear D J;have H:=h;unfold laws_big.f at H;clear h;obtain rfl:=oj H
 go_enter Try.func6,Try.ntmps6
 go_wp2
 go_ret
 exact⟨fa,fd⟩
def impl_Link_71.f (l0:List (S37)):Option ((List (S37))):=if l0.length<5864062014805 then some l0 else none
theorem impl_Link_71.calls (X:Option Addr) (c0:Nat) (l0:List (S37)) (r:List (S37)) (w:World) (D:Kd.C k37 w X l0.length l0) (J:l0.length≤c0) (h:impl_Link_71.f l0=some r) :
 Calls Try.prog 71 #[.slice X l0.length c0] w fun e w'=>∃U:Value,e = .returned (U)∧Kd.R k37 37 w' w.heap.size (fun _=>True) U r∧Below w.heap.size w w':=by
 have Y:l0.length<5864062014805:=by
  by_cases c:l0.length<5864062014805
  ·exact c
  ·simp[impl_Link_71.f,c]at h
 obtain rfl:l0=r:=by simpa [impl_Link_71.f,Y] using h
 have LMc:=aK Y;clear Y h;have HB:=aK (Below.refl w.heap.size w);cases X with
 |none=>
  have hl:l0 = []:=by
   rcases Nat.eq_zero_or_pos l0.length with g|g
   ·exact List.length_eq_zero_iff.1 g
   ·obtain⟨ad,e,_⟩:=D.2.2 g;cases e
  subst hl;clear D J;have hq:=fun(w:World) (n c:Nat)=>Lib.run_eql_slice_nil (P:=Try.prog) w 25 37 none n c 0 0 Try.underlying25
  simp only[Option.isNone_none]at hq
  go_enter Try.func71,Try.ntmps71
  go_wp2
  go_ret
  exact⟨_,rfl,Kd.R_nil _ _ _ _ _,bl⟩
 |some ad=>
  have Z:=aK D;clear D J;have hq:=fun(w:World) (n c:Nat)=>Lib.run_eql_slice_nil (P:=Try.prog) w 25 37 (some ad) n c 0 0 Try.underlying25
  simp only[Option.isNone_some]at hq
  go_enter Try.func71,Try.ntmps71
  go_wp2_with (first|((with_reducible refine gD 5 rfl ?_);refine Kd.R_lit k37 _ 37 ?hg (N:=5) ?hd (xs:=([]:List (S37))) (inner:=[]) (ok:=fun _=>True) (okp:=fun _=>True) ?hr ?hp (fun _ hk=>hk) trivial (Below.refl _ _) (Nat.le_refl _) (by simp) ?_;(case hd=>rfl);(case hg=>rfl);(case hr=>first|(go_simp;done)|(go_simp;rfl));(case hp=>exact(Reps.none _ _));intro v1 w1 ho hb hg_ hnew_;clear hg_ hnew_;have HO:=rl HB ho;replace HB:=bS HB hb;clear hb ho)|((with_reducible refine gate_builtin (b:=.append) (xs:=#[.tmp 5,.tmp 6]) rfl ?_);at_builtin;refine Kd.R_append_rows k37 (w0:=w) w.heap.size rfl (.tmp 5) (.tmp 6) 25 37 (.agg #[(.string ⟨#[]⟩),(.int .i64 0)]) 24 rfl Try.underlying25 info37 rfl (by decide) (by omega) v1 [] l0 _ _ _ (fun _=>True) (fun _=>False) rfl rfl ?aO ?aR (fun _ _ h=>h) (fun _ h=>h.elim) ?aF ?aB ?aS ?aL ?_;(case aR=>exact(Kd.C_below Z.o bl));(case aB=>exact bl);(case aF=>exact(fun _ _=>trivial));(case aO=>exact HO.o);(case aS=>exact(below_size bl));(case aL=>have:=LMc.o;simp;omega);intro v2 w2 ho hb hg hat;clear HO HB hg hat;have HO:=aK ho;have HB:=aK hb;clear ho hb;obtain⟨Ao,co,eo⟩:=rs HO;subst eo))
  go_ret
  exact⟨_,rfl,HO.o,bl⟩
def impl_from.f (D:Int) (J:Int) (X:Int):Option (Bool):=if D≥J then(some (decide (D≤X)))else(some false)
theorem impl_from.calls (D:Int) (J:Int) (X:Int) (r:Bool) (w:World) (h:impl_from.f D J X=some r) :
 Calls Try.prog 42 #[.int .i64 D,.int .i64 J,.int .i64 X] w fun e w'=>e = .returned (.bool r)∧Drawn0 w w':=by
 have H:=h;unfold impl_from.f at H;clear h;by_cases c4:D≥J
 ·rw[if_pos c4]at H;have U:=dt c4;clear c4;obtain rfl:=oj H
  go_enter Try.func42,Try.ntmps42
  go_wp2
  go_ret
  exact⟨fa,fd⟩
 ·rw[if_neg c4]at H;have U:=df c4;clear c4;obtain rfl:=oj H
  go_enter Try.func42,Try.ntmps42
  go_wp2
  go_ret
  exact⟨fa,fd⟩
def impl_nameOk.l0:Nat→ByteArray→Int→Int→Option (Bool)
 | 0,_,_,_=>none
 |k+1,Y,x5,X=>if X<x5 then(if 0≤X then(if X<(Y.size:Int)then(if(bt Y X)<97 then(if(bt Y X)<48 then(if(bt Y X)=46 then(impl_nameOk.l0 k Y x5 (wrap64 (X+1)))else(some false))else(if(bt Y X)>57 then(if(bt Y X)=46 then(impl_nameOk.l0 k Y x5 (wrap64 (X+1)))else(some false))else(impl_nameOk.l0 k Y x5 (wrap64 (X+1)))))else(if(bt Y X)>122 then(if(bt Y X)<48 then(if(bt Y X)=46 then(impl_nameOk.l0 k Y x5 (wrap64 (X+1)))else(some false))else(if(bt Y X)>57 then(if(bt Y X)=46 then(impl_nameOk.l0 k Y x5 (wrap64 (X+1)))else(some false))else(impl_nameOk.l0 k Y x5 (wrap64 (X+1)))))else(impl_nameOk.l0 k Y x5 (wrap64 (X+1)))))else(none))else(none))else((impl_from.f (Y.size:Int) 1 12).bind fun Ai=>(some Ai))
def impl_nameOk.f (k:Nat) (J:ByteArray):Option (Bool):=impl_nameOk.l0 k J (J.size:Int) 0
theorem impl_nameOk.calls (k:Nat) (J:ByteArray) (r:Bool) (w:World) (h:impl_nameOk.f k J=some r) :
 Calls Try.prog 44 #[.string J] w fun e w'=>e = .returned (.bool r)∧Drawn0 w w':=by
 have H:=h;unfold impl_nameOk.f at H;clear h;have H':=aK H;clear H
 go_enter Try.func44,Try.ntmps44
 go_wp2
 go_loopg [6] k (fun kq v6 w'=>∃(D:Int),v6 = .int .i64 D∧Aside0 (impl_nameOk.l0 kq J (J.size:Int) D=some r)∧Aside0 (kq≤k)∧Drawn0 w w')
 case atStart=>exact⟨(0),fa,H',⟨Nat.le_refl _⟩,fd⟩
 case round=>
  clear H';obtain⟨D,rfl,HA,U,⟨m1,rfl⟩⟩:=hrel;cases gk with
  |zero=>exact absurd HA.o (by simp[impl_nameOk.l0])
  |succ k1=>
   have H:=HA.o;clear HA;simp only[impl_nameOk.l0]at H;by_cases c2:D<(J.size:Int)
   ·rw[if_pos c2]at H;have Al:=dt c2;clear c2;by_cases c3:0≤D
    ·rw[if_pos c3]at H;have AA:=dt c3;clear c3;by_cases c4:D<(J.size:Int)
     ·rw[if_pos c4]at H;have AB:=dt c4;clear c4;have Hq_:=aK H;clear H;have p5:0≤(D:Int):=dT am;have q5:D<(J.size:Int):=dT am;have AJ:=bt_at J D;replace p5:=eq_true p5;replace q5:=eq_true q5;have H:=Hq_.o;clear Hq_;by_cases c6:(bt J D)<97
      ·rw[if_pos c6]at H;have Aj:=dt c6;(try rw[Aj]);clear c6;have Hq_:=aK H;clear H;have p7:0≤(D:Int):=dT am;have q7:D<(J.size:Int):=dT am;have AK:=bt_at J D;replace p7:=eq_true p7;replace q7:=eq_true q7;have H:=Hq_.o;clear Hq_;by_cases c8:(bt J D)<48
       ·rw[if_pos c8]at H;have Ak:=dt c8;(try rw[Ak]);clear c8;have Hq_:=aK H;clear H;have p9:0≤(D:Int):=dT am;have q9:D<(J.size:Int):=dT am;have AL:=bt_at J D;replace p9:=eq_true p9;replace q9:=eq_true q9;have H:=Hq_.o;clear Hq_;by_cases c10:(bt J D)=46
        ·rw[if_pos c10]at H;have Z:=bT c10;(try rw[Z]);have A0:=bE c10;(try rw[A0]);clear c10;have H':=aK H;clear H;go_wp2
         go_roundg k1
         case measure=>have:=U.o;omega
         case rel=>exact⟨(wrap64 (D+1)),fa,H',⟨by have:=U.o;omega⟩,fd⟩
        ·rw[if_neg c10]at H;have Z:=bN c10;(try rw[Z]);have A0:=bQ c10;(try rw[A0]);obtain rfl:=oj H;go_wp2
         go_ret
         exact⟨fa,fd⟩
       ·rw[if_neg c8]at H;have Ak:=df c8;(try rw[Ak]);clear c8;have Hq_:=aK H;clear H;have Am:0≤(D:Int):=dT am;have An:D<(J.size:Int):=dT am;have AC:=bt_at J D;replace Am:=eq_true Am;replace An:=eq_true An;have H:=Hq_.o;clear Hq_;by_cases Ae:(bt J D)>57
        ·rw[if_pos Ae]at H;have A1:=dt Ae;(try rw[A1]);clear Ae;have Hq_:=aK H;clear H;have Ao:0≤(D:Int):=dT am;have Ap:D<(J.size:Int):=dT am;have AD:=bt_at J D;replace Ao:=eq_true Ao;replace Ap:=eq_true Ap;have H:=Hq_.o;clear Hq_;by_cases A2:(bt J D)=46
         ·rw[if_pos A2]at H;have A3:=bT A2;(try rw[A3]);have A4:=bE A2;(try rw[A4]);clear A2;have H':=aK H;clear H;go_wp2
          go_roundg k1
          case measure=>have:=U.o;omega
          case rel=>exact⟨(wrap64 (D+1)),fa,H',⟨by have:=U.o;omega⟩,fd⟩
         ·rw[if_neg A2]at H;have A3:=bN A2;(try rw[A3]);have A4:=bQ A2;(try rw[A4]);obtain rfl:=oj H;go_wp2
          go_ret
          exact⟨fa,fd⟩
        ·rw[if_neg Ae]at H;have A1:=df Ae;(try rw[A1]);clear Ae;have H':=aK H;clear H;go_wp2
         go_roundg k1
         case measure=>have:=U.o;omega
         case rel=>exact⟨(wrap64 (D+1)),fa,H',⟨by have:=U.o;omega⟩,fd⟩
      ·rw[if_neg c6]at H;have Aj:=df c6;(try rw[Aj]);clear c6;have Hq_:=aK H;clear H;have Aq:0≤(D:Int):=dT am;have Ar:D<(J.size:Int):=dT am;have AE:=bt_at J D;replace Aq:=eq_true Aq;replace Ar:=eq_true Ar;have H:=Hq_.o;clear Hq_;by_cases Af:(bt J D)>122
       ·rw[if_pos Af]at H;have A5:=dt Af;(try rw[A5]);clear Af;have Hq_:=aK H;clear H;have As:0≤(D:Int):=dT am;have At:D<(J.size:Int):=dT am;have AF:=bt_at J D;replace As:=eq_true As;replace At:=eq_true At;have H:=Hq_.o;clear Hq_;by_cases Ag:(bt J D)<48
        ·rw[if_pos Ag]at H;have A6:=dt Ag;(try rw[A6]);clear Ag;have Hq_:=aK H;clear H;have Au:0≤(D:Int):=dT am;have Av:D<(J.size:Int):=dT am;have AG:=bt_at J D;replace Au:=eq_true Au;replace Av:=eq_true Av;have H:=Hq_.o;clear Hq_;by_cases A7:(bt J D)=46
         ·rw[if_pos A7]at H;have A8:=bT A7;(try rw[A8]);have A9:=bE A7;(try rw[A9]);clear A7;have H':=aK H;clear H;go_wp2
          go_roundg k1
          case measure=>have:=U.o;omega
          case rel=>exact⟨(wrap64 (D+1)),fa,H',⟨by have:=U.o;omega⟩,fd⟩
         ·rw[if_neg A7]at H;have A8:=bN A7;(try rw[A8]);have A9:=bQ A7;(try rw[A9]);obtain rfl:=oj H;go_wp2
          go_ret
          exact⟨fa,fd⟩
        ·rw[if_neg Ag]at H;have A6:=df Ag;(try rw[A6]);clear Ag;have Hq_:=aK H;clear H;have Aw:0≤(D:Int):=dT am;have Ax:D<(J.size:Int):=dT am;have AH:=bt_at J D;replace Aw:=eq_true Aw;replace Ax:=eq_true Ax;have H:=Hq_.o;clear Hq_;by_cases Ah:(bt J D)>57
         ·rw[if_pos Ah]at H;have Aa:=dt Ah;(try rw[Aa]);clear Ah;have Hq_:=aK H;clear H;have Ay:0≤(D:Int):=dT am;have Az:D<(J.size:Int):=dT am;have AI:=bt_at J D;replace Ay:=eq_true Ay;replace Az:=eq_true Az;have H:=Hq_.o;clear Hq_;by_cases Ab:(bt J D)=46
          ·rw[if_pos Ab]at H;have Ac:=bT Ab;(try rw[Ac]);have Ad:=bE Ab;(try rw[Ad]);clear Ab;have H':=aK H;clear H;go_wp2
           go_roundg k1
           case measure=>have:=U.o;omega
           case rel=>exact⟨(wrap64 (D+1)),fa,H',⟨by have:=U.o;omega⟩,fd⟩
          ·rw[if_neg Ab]at H;have Ac:=bN Ab;(try rw[Ac]);have Ad:=bQ Ab;(try rw[Ad]);obtain rfl:=oj H;go_wp2
           go_ret
           exact⟨fa,fd⟩
         ·rw[if_neg Ah]at H;have Aa:=df Ah;(try rw[Aa]);clear Ah;have H':=aK H;clear H;go_wp2
          go_roundg k1
          case measure=>have:=U.o;omega
          case rel=>exact⟨(wrap64 (D+1)),fa,H',⟨by have:=U.o;omega⟩,fd⟩
       ·rw[if_neg Af]at H;have A5:=df Af;(try rw[A5]);clear Af;have H':=aK H;clear H;go_wp2
        go_roundg k1
        case measure=>have:=U.o;omega
        case rel=>exact⟨(wrap64 (D+1)),fa,H',⟨by have:=U.o;omega⟩,fd⟩
     ·rw[if_neg c4]at H;exact absurd H (by simp)
    ·rw[if_neg c3]at H;exact absurd H (by simp)
   ·rw[if_neg c2]at H;have Al:=df c2;clear c2;obtain⟨Ai,A_,H⟩:=bd H;obtain rfl:=oj H;go_wp2_with (first|((with_reducible refine gC 42 rfl ?_);refine goesW Try.func42 ?_;(with_reducible refine(impl_from.calls (J.size:Int) 1 12 Ai _ A_.o).mono ?_);rintro e w' ⟨rfl,⟨nd,rfl⟩⟩;refine⟨_,rfl,?_⟩))
    go_ret
    exact⟨fa,fd⟩
def slices_Index_int_int.l0:Nat→List Int→Int→Int→Int→Option (Int)
 | 0,_,_,_,_=>none
 |k+1,x0,x1,x7,x8=>if x8<x7 then(if 0≤x8 then(if x8<(x0.length:Int)then(if x1=(rd x0 x8)then(some x8)else(slices_Index_int_int.l0 k x0 x1 x7 (wrap64 (x8+1))))else(none))else(none))else(some (-1))
def slices_Index_int_int.f (k:Nat) (l0:List Int) (J:Int):Option (Int):=slices_Index_int_int.l0 k l0 J (l0.length:Int) 0
theorem slices_Index_int_int.calls (k:Nat) (A0:Option Addr) (c0:Nat) (l0:List Int) (J:Int) (r:Int) (w:World) (U:Kd.C (Kd.int .i64) w A0 l0.length l0) (X:l0.length≤c0) (h:slices_Index_int_int.f k l0 J=some r) :
 Calls Try.prog 82 #[.slice A0 l0.length c0,.int .i64 J] w fun e w'=>e = .returned (.int .i64 r)∧Drawn0 w w':=by
 have A5:=aK U;have A6:=aK X;clear U X;have H:=h;unfold slices_Index_int_int.f at H;clear h;have H':=aK H;clear H
 go_enter Try.func82,Try.ntmps82
 go_wp2
 go_loopg [8] k (fun kq v8 w'=>∃(D:Int),v8 = .int .i64 D∧Aside0 (slices_Index_int_int.l0 kq l0 J (l0.length:Int) D=some r)∧Aside0 (kq≤k)∧Drawn0 w w')
 case atStart=>exact⟨(0),fa,H',⟨Nat.le_refl _⟩,fd⟩
 case round=>
  clear H';(try clear p2);obtain⟨D,rfl,HA,A7,⟨m1,rfl⟩⟩:=hrel;cases gk with
  |zero=>exact absurd HA.o (by simp[slices_Index_int_int.l0])
  |succ k1=>
   have H:=HA.o;clear HA;simp only[slices_Index_int_int.l0]at H;by_cases c3:D<(l0.length:Int)
   ·rw[if_pos c3]at H;have A8:=dt c3;clear c3;by_cases c4:0≤D
    ·rw[if_pos c4]at H;have Ac:=dt c4;clear c4;by_cases c5:D<(l0.length:Int)
     ·rw[if_pos c5]at H;have Ad:=dt c5;clear c5;have Hq_:=aK H;clear H;have Y:0≤(D:Int):=dT am;have Z:D<(l0.length:Int):=dT am;obtain⟨Ab,A9,Aa⟩:=Kd.at_int A5.o D Y Z;cases A9;replace Y:=eq_true Y;replace Z:=eq_true Z;have H:=Hq_.o;clear Hq_;by_cases c6:J=(rd l0 D)
      ·rw[if_pos c6]at H;have A1:=bT c6;(try rw[A1]);have A2:=bE c6;(try rw[A2]);clear c6;obtain rfl:=oj H;go_wp2
       go_ret
       exact⟨fa,fd⟩
      ·rw[if_neg c6]at H;have A1:=bN c6;(try rw[A1]);have A2:=bQ c6;(try rw[A2]);have H':=aK H;clear H;go_wp2
       go_roundg k1
       case measure=>have:=A7.o;omega
       case rel=>exact⟨(wrap64 (D+1)),fa,H',⟨by have:=A7.o;omega⟩,fd⟩
     ·rw[if_neg c5]at H;exact absurd H (by simp)
    ·rw[if_neg c4]at H;exact absurd H (by simp)
   ·rw[if_neg c3]at H;have A8:=df c3;clear c3;obtain rfl:=oj H;go_wp2
    go_ret
    exact⟨fa,fd⟩
def slices_Contains_int_int.f (k:Nat) (l0:List Int) (J:Int):Option (Bool):=(slices_Index_int_int.f k l0 J).bind fun A4=>(some (decide (A4≥0)))
theorem slices_Contains_int_int.calls (k:Nat) (A0:Option Addr) (c0:Nat) (l0:List Int) (J:Int) (r:Bool) (w:World) (U:Kd.C (Kd.int .i64) w A0 l0.length l0) (X:l0.length≤c0) (h:slices_Contains_int_int.f k l0 J=some r) :
 Calls Try.prog 46 #[.slice A0 l0.length c0,.int .i64 J] w fun e w'=>e = .returned (.bool r)∧Drawn0 w w':=by
 have A5:=aK U;have A6:=aK X;clear U X;have H:=h;unfold slices_Contains_int_int.f at H;clear h;obtain⟨A4,A3,H⟩:=bd H;obtain rfl:=oj H
 go_enter Try.func46,Try.ntmps46
 go_wp2_with (first|((with_reducible refine gC 82 rfl ?_);refine goesW Try.func82 ?_;(with_reducible refine(slices_Index_int_int.calls k _ _ l0 J A4 _ ?_ ?_ A3.o).mono ?_);exact ca A5.o;exact A6.o;rintro e w' ⟨rfl,⟨nd,rfl⟩⟩;refine⟨_,rfl,?_⟩))
 go_ret
 exact⟨fa,fd⟩
def impl_used.l0:Nat→Int→List (S35)→Int→Int→Option (Int)
 | 0,_,_,_,_=>none
 |k+1,x3,x7,x8,x9=>if x9<x8 then(if 0≤x9 then(if x9<(x7.length:Int)then(impl_used.l0 k (wrap64 (x3+(((rd_T35 x7 x9).f1).size:Int))) x7 x8 (wrap64 (x9+1)))else(none))else(none))else(some x3)
def impl_used.f (k:Nat) (Z:Int) (A0:Int) (D:List (S35)) (X:List (S37)) (Y:List (S39)):Option (Int):=impl_used.l0 k 0 D (D.length:Int) 0
theorem impl_used.calls (k:Nat) (Z:Int) (A0:Int) (A7:Option Addr) (A8:Nat) (D:List (S35)) (A9:Option Addr) (Aa:Nat) (X:List (S37)) (Ab:Option Addr) (Ac:Nat) (Y:List (S39)) (r:Int) (w:World) (Ad:Kd.C k35 w A7 D.length D) (Ae:D.length≤A8) (Af:Kd.C k37 w A9 X.length X) (Ag:X.length≤Aa) (Ah:Kd.C k39 w Ab Y.length Y) (Ai:Y.length≤Ac) (h:impl_used.f k Z A0 D X Y=some r) :
 Calls Try.prog 56 #[.agg #[.int .i64 Z,.int .i64 A0,.slice A7 D.length A8,.slice A9 X.length Aa,.slice Ab Y.length Ac]] w fun e w'=>e = .returned (.int .i64 r)∧Below w.heap.size w w':=by
 have Az:=Try.underlying28;have A_:=Try.underlying35;have Aj:=aK Ad;have Aq:=aK Ae;clear Ad Ae;have Ar:=aK Af;have As:=aK Ag;clear Af Ag;have At:=aK Ah;have Au:=aK Ai;clear Ah Ai;have HB:=aK (Below.refl w.heap.size w);have H:=h;unfold impl_used.f at H;clear h;have H':=aK H;clear H
 go_enter Try.func56,Try.ntmps56
 go_wp2_with (first|((with_reducible refine gD 1 rfl ?_);refine boxW ?_;intro Ak hg w2 hbox hb;have U:=aK hbox;have Av:=gW HB hg;replace HB:=bS HB hb;clear hb hbox hg;have:=cf5 U))
 go_loopg [3,9] k (fun kq v3 v9 w'=>∃(A1:Int) (J:Int),v3 = .int .i64 A1∧v9 = .int .i64 J∧Aside0 (impl_used.l0 kq A1 D (D.length:Int) J=some r)∧Aside0 (kq≤k)∧Aside0 (w'.heap[Ak]? = some (.cells #[.int .i64 Z,.int .i64 A0,(.slice A7 D.length A8),(.slice A9 X.length Aa),(.slice Ab Y.length Ac)] 28 (0,0)))∧Aside0 (Below w.heap.size w w'))
 case atStart=>exact⟨(0),(0),fa,fa,H',⟨Nat.le_refl _⟩,⟨bw U⟩,⟨bl⟩⟩
 case round=>
  clear H';(try clear p2);obtain⟨A1,J,rfl,rfl,HA,An,U,HB⟩:=hrel;cases gk with
  |zero=>exact absurd HA.o (by simp[impl_used.l0])
  |succ k1=>
   have H:=HA.o;clear HA;simp only[impl_used.l0]at H;by_cases c4:J<(D.length:Int)
   ·rw[if_pos c4]at H;have Ao:=dt c4;clear c4;by_cases c5:0≤J
    ·rw[if_pos c5]at H;have AA:=dt c5;clear c5;by_cases c6:J<(D.length:Int)
     ·rw[if_pos c6]at H;have AB:=dt c6;clear c6;have H':=aK H;clear H;have Al:0≤(J:Int):=dT am;have Am:J<(D.length:Int):=dT am;obtain⟨AC,Aw,A2,A3,A4⟩:=at_T35 Aj.o J Al Am;cases Aw;replace A2:=cz HB A2;replace A3:=cz HB A3;replace A4:=cz HB A4;replace Al:=eq_true Al;replace Am:=eq_true Am;go_wp2_with (first|((with_reducible refine gD 5 rfl ?_);refine boxW ?_;intro AD hg AF hbox hb;have Ap:=aK hbox;have AE:=gW HB hg;replace HB:=bS HB hb;have A5:=nl U hg;have A6:=nr U hg;replace U:=bv U hb;clear hb hbox hg;have Ax:=A6.o;have Ay:=A5.o;have:=cf3 Ap))
      go_roundg k1
      case measure=>have:=An.o;omega
      case rel=>exact⟨(wrap64 (A1+(((rd_T35 D J).f1).size:Int))),(wrap64 (J+1)),fa,fa,H',⟨by have:=An.o;omega⟩,⟨bkk⟩,⟨bl⟩⟩
     ·rw[if_neg c6]at H;exact absurd H (by simp)
    ·rw[if_neg c5]at H;exact absurd H (by simp)
   ·rw[if_neg c4]at H;have Ao:=df c4;clear c4;obtain rfl:=oj H;go_wp2
    go_ret
    exact⟨fe,bl⟩
end Go.Proofs.Ytndbmllnkjngnaa.PDs
