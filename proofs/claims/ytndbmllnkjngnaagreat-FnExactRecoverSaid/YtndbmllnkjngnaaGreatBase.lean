/- Plain lemmas on wrapped numbers, bytes and lists that the proofs of this seat's statements use. No condition. -/
import Derived.Test.YtndbmllnkjngnaaGreatWWords
import Derived.Laws.BytesArg
import Derived.Lib.Bytes
namespace Go.Proofs.YtndbmllnkjngnaaGreat.Base
set_option linter.unusedVariables false
set_option linter.unusedSimpArgs false
open Go.RowKit Go.Proofs.YtndbmllnkjngnaaGreatW.PrintWords Go.Proofs.YtndbmllnkjngnaaGreatW.PrintLast Go.Proofs.YtndbmllnkjngnaaGreatW.PrintMore
theorem w64 {n:Int} (h0 : -9223372036854775808≤n) (h1:n≤9223372036854775807):wrap64 n=n:=by
  unfold wrap64;omega
theorem wf64 {n:Int} (h:(Lit.int .i64 n).wf=true) : -9223372036854775808≤n∧n≤9223372036854775807:=by
  have h2:IntKind.i64.min = -9223372036854775808:=rfl
  have h3:IntKind.i64.max=9223372036854775807:=rfl
  simp[Lit.wf]at h
  omega
theorem tdiv_nn {a:Int} (h:0≤a) (b:Int):Int.tdiv a b=a/b:=Int.tdiv_eq_ediv_of_nonneg h
theorem tmod_nn {a:Int} (h:0≤a) (b:Int):Int.tmod a b=a%b:=Int.tmod_eq_emod_of_nonneg h
theorem data_inj {s t:ByteArray} (h:s.data.toList=t.data.toList):s=t:=by
  cases s;cases t;simp_all
theorem bytesOf_inj {s t:ByteArray} (h:bytesOf s=bytesOf t):s=t:=by
  apply data_inj
  unfold bytesOf at h
  refine List.map_inj_right (f:=fun b:UInt8=>(b.toNat:Int)) (fun a b hab=>?_) |>.1 h
  have h2:(a.toNat:Int)=(b.toNat:Int):=hab
  exact UInt8.toNat_inj.1 (by omega)
theorem toList_eq_iff {s t:ByteArray}:s.toList=t.toList↔s=t:=by
  rw[ByteArray.toList_eq,ByteArray.toList_eq]
  exact⟨data_inj,fun h=>by rw[h]⟩
def Byt (l:List Int):Prop:=∀x∈l,0≤x∧x<256
theorem byt_nil:Byt []:=fun x h=>by simp at h
theorem byt_cons {x:Int} {l:List Int}:Byt (x::l)↔(0≤x∧x<256)∧Byt l:=by simp[Byt]
theorem byt_append {a b:List Int}:Byt (a++b)↔Byt a∧Byt b:=by
  constructor
  · exact fun h=>⟨fun x hx=>h x (by simp[hx]),fun x hx=>h x (by simp[hx])⟩
  · rintro⟨h,k⟩ x hx
    rcases List.mem_append.1 hx with hx|hx
    · exact h x hx
    · exact k x hx
theorem byt_take {l:List Int} (h:Byt l) (n:Nat):Byt (l.take n):=fun x hx=>h x (List.mem_of_mem_take hx)
theorem byt_drop {l:List Int} (h:Byt l) (n:Nat):Byt (l.drop n):=fun x hx=>h x (List.mem_of_mem_drop hx)
theorem byt_bytesOf (s:ByteArray):Byt (bytesOf s):=by
  intro x hx
  obtain⟨b,_,rfl⟩:=List.mem_map.1 hx
  have:=b.toNat_lt
  omega
theorem bytesOf_strOfNums {l:List Int} (h:Byt l):bytesOf (strOfNums l)=l:=by
  unfold bytesOf
  rw[strOfNums_data,List.map_map]
  conv=>rhs;rw[←List.map_id l]
  refine List.map_congr_left fun x hx=>?_
  obtain⟨h0,h1⟩:=h x hx
  simp only[Function.comp,id_eq,UInt8.toNat_ofNat']
  omega
theorem strOfNums_bytesOf (s:ByteArray):strOfNums (bytesOf s)=s:=bytesOf_inj (bytesOf_strOfNums (byt_bytesOf s))
theorem bytesOf_append (s t:ByteArray):bytesOf (s++t)=bytesOf s++bytesOf t:=by
  simp[bytesOf]
theorem bytesOf_empty:bytesOf (⟨#[]⟩:ByteArray) = []:=rfl
theorem bytesOf_extract (s:ByteArray) (a b:Nat):bytesOf (s.extract a b)=((bytesOf s).take b).drop a:=by
  simp[bytesOf,ByteArray.data_extract,List.map_take,List.map_drop,List.extract_eq_take_drop,List.drop_take]
theorem bt_get {s:ByteArray} {i:Int} (h0:0≤i) (h1:i<(s.size:Int)):(bytesOf s)[i.toNat]? = some (bt s i):=by
  rw[←rd_bytesOf,rd,List.getD_eq_getElem?_getD]
  have:i.toNat<(bytesOf s).length:=by rw[bytesOf_length];omega
  rw[List.getElem?_eq_getElem this];rfl
theorem bt_drop {s:ByteArray} {i:Int} (h0:0≤i) (h1:i<(s.size:Int)):(bytesOf s).drop i.toNat=bt s i::(bytesOf s).drop (i.toNat+1):=by
  have:i.toNat<(bytesOf s).length:=by rw[bytesOf_length];omega
  rw[List.drop_eq_getElem_cons this]
  have h2:=bt_get h0 h1
  rw[List.getElem?_eq_getElem this]at h2
  rw[Option.some.inj h2]
theorem bt_take {s:ByteArray} {i:Int} (h0:0≤i) (h1:i<(s.size:Int)):(bytesOf s).take (i.toNat+1)=(bytesOf s).take i.toNat ++ [bt s i]:=by
  rw[List.take_add_one,bt_get h0 h1];rfl
theorem size_strOfNums (l:List Int):(strOfNums l).size=l.length:=strOfNums_size l
theorem size_bytes (s:ByteArray):s.size=(bytesOf s).length:=(bytesOf_length s).symm
theorem strOfNums_append (a b:List Int):strOfNums a++strOfNums b=strOfNums (a++b):=by
  apply data_inj
  simp[strOfNums]
theorem ev_some {α:Type} {g:Nat→Option α} {r:α} (K:Nat) (h:∀k,K≤k→g k=some r):Ev g r:=⟨K,h⟩
end Go.Proofs.YtndbmllnkjngnaaGreat.Base
