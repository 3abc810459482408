/- Plain mathematics of records and snapshots. No condition. -/
import Derived.Test.YtndbmllnkjngnaaGreatNum
namespace Go.Proofs.YtndbmllnkjngnaaGreat.Base
open Go.RowKit Go.Proofs.YtndbmllnkjngnaaGreatW.PrintWords Go.Proofs.YtndbmllnkjngnaaGreatW.PrintLast Go.Proofs.YtndbmllnkjngnaaGreatW.PrintMore
set_option linter.unusedVariables false
set_option linter.unusedSimpArgs false
theorem toList_nil (s:ByteArray):(s.toList==([]:List UInt8))=decide (s.size=0):=by
  rw[ByteArray.toList_eq]
  have h:s.size=s.data.toList.length:=by rw[Array.length_toList];rfl
  rw[h]
  cases s.data.toList<;>simp
theorem size_zero {s:ByteArray} (h:s.size=0):s = ⟨#[]⟩:=bytesOf_inj (by
  have:(bytesOf s).length=0:=by rw[bytesOf_length];exact h
  rw[List.eq_nil_of_length_eq_zero this];rfl)
def placeM (i t:Int):Bool:=decide ((i=0∧t=0)∨(1≤i∧i≤100000∧1≤t∧t≤100000))
def recOkM (k t i v:Int) (n:Nat):Bool:=
  if k=1 then decide (0≤t∧t≤100000∧-1≤v∧v≤4∧i=0∧n=0)
  else if k=2 then decide (1≤t∧t≤100000∧1≤i∧i≤100000∧v=0∧n≤900)
  else if k=3 then decide (t=0∧1≤i∧i≤100000∧v=0∧n=0)
  else if k=4 then(placeM i t&&decide (v=0∧n=0))else false
def snapOkM (i t:Int) (n:Nat):Bool:=decide ((i=0∧t=0∧n=0)∨(1≤i∧i≤100000∧1≤t∧t≤100000∧n≤30000))
end Go.Proofs.YtndbmllnkjngnaaGreat.Base
