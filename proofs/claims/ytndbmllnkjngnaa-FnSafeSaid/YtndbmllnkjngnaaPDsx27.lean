/- Functions of the program, each with its contract, written by a program out of the translation. -/
import Derived.Test.YtndbmllnkjngnaaPDsx0
import Derived.Test.YtndbmllnkjngnaaPDsx2
import Derived.Test.YtndbmllnkjngnaaPDsx23
import Derived.Test.YtndbmllnkjngnaaZup
namespace Go.Proofs.Ytndbmllnkjngnaa.PDs
open Go.RowKit Go.Proofs.YtndbmllnkjngnaaW.PrintWords Go.Proofs.YtndbmllnkjngnaaW.PrintLast Go.Proofs.YtndbmllnkjngnaaW.PrintMore Go.Proofs.Ytndbmllnkjngnaa.Zip
attribute [local go_sem] max2_int min2_int max_two min_two max_three min_three max_four min_four
set_option linter.unusedVariables false
set_option linter.unusedSimpArgs false
set_option maxHeartbeats 8000000
set_option maxRecDepth 100000
def spec_DrawHex.f (k:Nat) (l0:List Int):Option (ByteArray):=(spec_l1New.f k l0).bind fun D=>((spec_l1Text.f k D.1 D.2.1 D.2.2 40).bind fun Y=>(some Y.1))
theorem spec_DrawHex.calls (k:Nat) (A0:Option Addr) (c0:Nat) (l0:List Int) (r:ByteArray) (w:World) (Z:Kd.C (Kd.int .u8) w A0 l0.length l0) (A1:l0.length≤c0) (h:spec_DrawHex.f k l0=some r) :
 Calls Try.prog 21 #[.slice A0 l0.length c0] w fun e w'=>e = .returned (.string r)∧Below w.heap.size w w':=by
 have Aa:=aK Z;have Ab:=aK A1;clear Z A1;have HB:=aK (Below.refl w.heap.size w);have H:=h;unfold spec_DrawHex.f at H;clear h;replace H:=oB H;obtain⟨⟨J,U,X⟩,A4,H⟩:=H;dsimp only at H;have A2:=aK A4;clear A4;replace H:=oB H;obtain⟨⟨A5,A6,A7⟩,A8,H⟩:=H;dsimp only at H;have A3:=aK A8;clear A8;obtain rfl:=oj H
 go_enter Try.func21,Try.ntmps21
 go_wp2_with (first|((with_reducible refine gC 28 rfl ?_);refine goesW Try.func28 ?_;(with_reducible refine(spec_l1New.calls k _ _ l0 J U X w _ ?_ ?_ ?_ A2.o).mono ?_);exact bl;exact Aa.o;exact Ab.o;rintro e w4 ⟨A9,rfl,hi,hb,Ac⟩;refine⟨_,rfl,?_⟩;replace HB:=aK (hb);have HI952:=aK (hi);(try clear hb Ac hi))|((with_reducible refine gC 55 rfl ?_);refine goesW Try.func55 ?_;(with_reducible refine(spec_l1Text.calls k A9 J U X 40 A5 A6 A7 w _ ?_ ?_ A3.o).mono ?_);exact is86_952;exact bi86_952;rintro e w5 ⟨rfl,hi,hb,hk⟩;refine⟨_,rfl,?_⟩;replace HB:=aK (hb);replace HI952:=aK (hi);(try clear hb hk hi)))
 go_ret
 exact⟨fe,bi86_952⟩
end Go.Proofs.Ytndbmllnkjngnaa.PDs
