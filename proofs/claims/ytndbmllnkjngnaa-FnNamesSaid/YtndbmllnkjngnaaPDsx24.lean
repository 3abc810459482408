/- Functions of the program, each with its contract, written by a program out of the translation. -/
import Derived.Test.YtndbmllnkjngnaaPDsx0
import Derived.Test.YtndbmllnkjngnaaZup
namespace Go.Proofs.Ytndbmllnkjngnaa.PDs
open Go.RowKit Go.Proofs.YtndbmllnkjngnaaW.PrintWords Go.Proofs.YtndbmllnkjngnaaW.PrintLast Go.Proofs.YtndbmllnkjngnaaW.PrintMore Go.Proofs.Ytndbmllnkjngnaa.Zip
attribute [local go_sem] max2_int min2_int max_two min_two max_three min_three max_four min_four
set_option linter.unusedVariables false
set_option linter.unusedSimpArgs false
set_option maxHeartbeats 8000000
set_option maxRecDepth 100000
def laws_begins.f (D:ByteArray) (J:ByteArray):Option (Bool):=if(D.size:Int)≤(J.size:Int)then(if 0≤(D.size:Int)then(some ((J.extract 0 ((D.size:Int):Int).toNat).toList==D.toList))else(none))else(some false)
theorem laws_begins.calls (D:ByteArray) (J:ByteArray) (r:Bool) (w:World) (h:laws_begins.f D J=some r) :
 Calls Try.prog 15 #[.string D,.string J] w fun e w'=>e = .returned (.bool r)∧Drawn0 w w':=by
 have H:=h;unfold laws_begins.f at H;clear h;by_cases c3:(D.size:Int)≤(J.size:Int)
 ·rw[if_pos c3]at H;have U:=dt c3;have X:decide (D.size≤J.size)=true:=dt (Int.ofNat_le.mp c3);clear c3;by_cases c4:0≤(D.size:Int)
  ·rw[if_pos c4]at H;have Y:=eq_true c4;have Z:=dt c4;clear c4;have A0:=eq_true (dT am:(D.size:Int)≤(J.size:Int));obtain rfl:=oj H
   go_enter Try.func15,Try.ntmps15
   go_wp2
   go_ret
   exact⟨fa,fd⟩
  ·rw[if_neg c4]at H;exact absurd H (by simp)
 ·rw[if_neg c3]at H;have U:=df c3;have X:decide (D.size≤J.size)=false:=df (fun h=>c3 (Int.ofNat_le.mpr h));clear c3;obtain rfl:=oj H
  go_enter Try.func15,Try.ntmps15
  go_wp2
  go_ret
  exact⟨fa,fd⟩
end Go.Proofs.Ytndbmllnkjngnaa.PDs
