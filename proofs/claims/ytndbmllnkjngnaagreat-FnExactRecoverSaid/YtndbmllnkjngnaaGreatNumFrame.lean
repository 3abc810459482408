/- Plain mathematics of framed texts. No condition. -/
import Derived.Test.YtndbmllnkjngnaaGreatNum
import Derived.Test.YtndbmllnkjngnaaGreatNumCrc
namespace Go.Proofs.YtndbmllnkjngnaaGreat.Base
open Go.RowKit Go.Proofs.YtndbmllnkjngnaaGreatW.PrintWords Go.Proofs.YtndbmllnkjngnaaGreatW.PrintLast Go.Proofs.YtndbmllnkjngnaaGreatW.PrintMore
set_option linter.unusedVariables false
set_option linter.unusedSimpArgs false
def frameM (b:List Int):List Int:=if 1≤(b.length:Int)∧(b.length:Int)≤2000 then fixL 4 b.length++fixL 4 (crcM (fixL 4 b.length++b))++b else[]
theorem frameM_byt {b:List Int} (h:Byt b):Byt (frameM b):=by
  unfold frameM;split
  · exact byt_append.2 ⟨byt_append.2 ⟨fixL_byt _ _,fixL_byt _ _⟩,h⟩
  · exact byt_nil
theorem frameM_length {b:List Int} (h0:1≤b.length) (h1:b.length≤2000):(frameM b).length=b.length+8:=by
  unfold frameM
  rw[if_pos (by omega),List.length_append,List.length_append,fixL_length,fixL_length];omega
def unfM (s:ByteArray):ByteArray×Int×Int:=
  if(s.size:Int)<4 then(⟨#[]⟩,0,1)else
  if 1≤be ((bytesOf s).take 4)∧be ((bytesOf s).take 4)≤2000 then
    (if(s.size:Int)<be ((bytesOf s).take 4)+8 then(⟨#[]⟩,0,1)else
     if frameM (((bytesOf s).take (be ((bytesOf s).take 4)+8).toNat).drop 8)=(bytesOf s).take (be ((bytesOf s).take 4)+8).toNat
     then(s.extract 8 (be ((bytesOf s).take 4)+8).toNat,be ((bytesOf s).take 4)+8,0)else(⟨#[]⟩,0,2))
  else(⟨#[]⟩,0,2)
theorem unfM_ok {s:ByteArray} (h:(unfM s).2.2=0):9≤(unfM s).2.1∧(unfM s).2.1≤2008∧(unfM s).2.1≤(s.size:Int):=by
  unfold unfM at h ⊢
  by_cases h1:(s.size:Int)<4
  · rw[if_pos h1]at h;simp at h
  · rw[if_neg h1]at h ⊢
    by_cases h2:1≤be ((bytesOf s).take 4)∧be ((bytesOf s).take 4)≤2000
    · rw[if_pos h2]at h ⊢
      by_cases h3:(s.size:Int)<be ((bytesOf s).take 4)+8
      · rw[if_pos h3]at h;simp at h
      · rw[if_neg h3]at h ⊢
        split at h
        · rename_i h4;rw[if_pos h4];simp only;omega
        · simp at h
    · rw[if_neg h2]at h;simp at h
theorem unfM_err {s:ByteArray} (h:(unfM s).2.2≠0):(unfM s).1 = ⟨#[]⟩∧(unfM s).2.1=0:=by
  unfold unfM at h ⊢
  by_cases h1:(s.size:Int)<4
  · rw[if_pos h1];exact⟨rfl,rfl⟩
  · rw[if_neg h1]at h ⊢
    by_cases h2:1≤be ((bytesOf s).take 4)∧be ((bytesOf s).take 4)≤2000
    · rw[if_pos h2]at h ⊢
      by_cases h3:(s.size:Int)<be ((bytesOf s).take 4)+8
      · rw[if_pos h3];exact⟨rfl,rfl⟩
      · rw[if_neg h3]at h ⊢
        split at h
        · simp at h
        · rename_i h4;rw[if_neg h4];exact⟨rfl,rfl⟩
    · rw[if_neg h2];exact⟨rfl,rfl⟩
def frs:Nat→ByteArray→Int→List ByteArray×Int
  | 0,_,a=>([],a)
  |f+1,s,a=>if(unfM (s.extract a.toNat s.size)).2.2=0 then
      ((unfM (s.extract a.toNat s.size)).1::(frs f s (a+(unfM (s.extract a.toNat s.size)).2.1)).1,(frs f s (a+(unfM (s.extract a.toNat s.size)).2.1)).2)
    else([],a)
theorem extract_size (s:ByteArray) (a:Nat) (h:a≤s.size):(s.extract a s.size).size=s.size-a:=by
  rw[size_bytes,bytesOf_extract,List.length_drop,List.length_take,bytesOf_length];omega
theorem unfM_end {s:ByteArray} (h:s.size=0):(unfM s).2.2=1:=by
  unfold unfM;rw[if_pos (by omega)]
end Go.Proofs.YtndbmllnkjngnaaGreat.Base
