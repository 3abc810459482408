/- Plain mathematics of snapshots' texts. No condition. -/
import Derived.Test.YtndbmllnkjngnaaGreatNumFrame
import Derived.Test.YtndbmllnkjngnaaGreatNumRec
namespace Go.Proofs.YtndbmllnkjngnaaGreat.Base
open Go.RowKit Go.Proofs.YtndbmllnkjngnaaGreatW.PrintWords Go.Proofs.YtndbmllnkjngnaaGreatW.PrintLast Go.Proofs.YtndbmllnkjngnaaGreatW.PrintMore
set_option linter.unusedVariables false
set_option linter.unusedSimpArgs false
def snapHead (i t:Int) (d:ByteArray):List Int:=fixL 4 i++fixL 4 t++fixL 4 d.size++fixL 4 (crcM (bytesOf d))
def showSnapM (i t:Int) (d:ByteArray):List Int:=if snapOkM i t d.size=true∧i≠0 then frameM (snapHead i t d)++bytesOf d else[]
theorem snapHead_length (i t:Int) (d:ByteArray):(snapHead i t d).length=16:=by simp[snapHead,fixL_length]
theorem snapHead_byt (i t:Int) (d:ByteArray):Byt (snapHead i t d):=byt_append.2 ⟨byt_append.2 ⟨byt_append.2 ⟨fixL_byt _ _,fixL_byt _ _⟩,fixL_byt _ _⟩,fixL_byt _ _⟩
theorem showSnapM_byt (i t:Int) (d:ByteArray):Byt (showSnapM i t d):=by
  unfold showSnapM;split
  · exact byt_append.2 ⟨frameM_byt (snapHead_byt _ _ _),byt_bytesOf _⟩
  · exact byt_nil
theorem snapOk_small {i t:Int} {n:Nat} (h:snapOkM i t n=true):0≤i∧i≤100000∧0≤t∧t≤100000∧n≤30000∧(i=0↔(i=0∧t=0∧n=0)):=by
  unfold snapOkM at h
  simp only[decide_eq_true_eq]at h
  omega
theorem snapHead_eq (i t:Int) (d:ByteArray):strOfNums (fixL 4 i)++strOfNums (fixL 4 t)++strOfNums (fixL 4 (d.size:Int))++strOfNums (fixL 4 (crcM (bytesOf d)))=strOfNums (snapHead i t d):=by
  rw[strOfNums_append,strOfNums_append,strOfNums_append];rfl
end Go.Proofs.YtndbmllnkjngnaaGreat.Base
