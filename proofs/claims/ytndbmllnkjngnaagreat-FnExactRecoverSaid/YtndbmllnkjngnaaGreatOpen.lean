/- How an argument of a law reads as a plain list or struct: what the rows of this seat's statements use. No condition. -/
import Derived.Test.YtndbmllnkjngnaaGreatWWords
import Derived.Deep.Slices
import Derived.Deep.Fields
import Derived.ChangeSame
import Derived.Lib.SmallJoins
import Derived.ProofKit
namespace Go.Proofs.YtndbmllnkjngnaaGreat.Open
open Go.RowKit Go.ChangeShapes Go.WideShapes Go.Deep Go.Joins Go.Proofs.YtndbmllnkjngnaaGreatW.PrintWords
set_option linter.unusedVariables false
set_option linter.unusedSimpArgs false
theorem list_of {α:Type} {P:Nat→α→Prop}:∀(n:Nat),(∀i,i<n→∃x,P i x)→∃xs:List α,xs.length=n∧∀i x,xs[i]? = some x→P i x
  | 0,_=>⟨[],rfl,fun i x h=>by simp at h⟩
  |n+1,h=>by
    obtain⟨xs,h1,h2⟩:=list_of n (fun i hi=>h i (by omega))
    obtain⟨x,hx⟩:=h n (by omega)
    refine⟨xs ++ [x],by simp[h1],fun i y hy=>?_⟩
    by_cases hi:i<n
    · rw[List.getElem?_append_left (by omega)]at hy;exact h2 i y hy
    · have:i=n:=by
        have:=(List.getElem?_eq_some_iff.1 hy).1
        simp[h1]at this;omega
      subst this
      rw[List.getElem?_append_right (by omega)]at hy
      simp[h1]at hy
      rw[←hy];exact hx
section
variable {H:Type} {enc:TypeId×Value→H} {P:Program} {w:World} {base:Nat} {spare:Nat→Bool} {held:Bool}
theorem open_rows {α:Type} (K:Kd α) (G:α→Prop) {t e:TypeId} {n:Nat} {v:Value} {y:DataW H×List MemPlace} (ht:P.underlying t=some (.slice e)) (hC:P.cellsOf e=K.sz)
    (hE:∀m cs x,DataW.trod enc P w base (fun _=>true) held m e cs=some x→∃z,K.K w z cs∧G z)
    (h:DataW.trod enc P w base (fun _=>true) held n t [v]=some y) :
    ∃(A:Option Addr) (c:Nat) (xs:List α),v = .slice A xs.length c∧K.C w A xs.length xs∧xs.length≤c∧c≤maxLen∧∀x∈xs,G x:=by
  rcases open_slice ht h with⟨hcs,_⟩|⟨a,len,cap,m,n',D,Pl,hcs,_,hl,hm,hmm,_,hi⟩
  · have hv:v = .slice none 0 0:=by simpa using hcs
    refine⟨none,0,[],hv,⟨rfl,by simp,fun h=>by simp at h⟩,Nat.le_refl _,by unfold maxLen;omega,fun x hx=>by simp at hx⟩
  · have hv:v = .slice (some a) len cap:=by simpa using hcs
    have hm2:m=cap:=by simpa using hmm
    obtain⟨xs,h1,h2⟩:=list_of (P:=fun i z=>∃c:List Value,c.length=K.sz∧K.K w z c∧(∀j u,c[j]? = some u→w.cell? (a.add (i*K.sz+j))=some u)∧G z) len (fun i hlt=>by
      obtain⟨cs',hc,ht'⟩:=hi i (by omega)
      obtain⟨z,hz,hg⟩:=hE _ _ _ ht'
      obtain⟨_,hlen,hat⟩:=World.cells?_some hc
      rw[hC]at hlen hat
      refine⟨z,cs',hlen,hz,fun j u hj=>?_,hg⟩
      have hjl:j<K.sz:=by rw[←hlen];exact(List.getElem?_eq_some_iff.1 hj).1
      have:=hat j hjl
      rw[Go.Deep.add_add]at this
      rw[this,hj])
    refine⟨some a,cap,xs,by rw[h1];exact hv,⟨rfl,by unfold maxLen at hm;omega,fun _=>⟨a,rfl,fun j p hj=>?_⟩⟩,by omega,hm,fun x hx=>?_⟩
    · obtain⟨c,c1,c2,c3,_⟩:=h2 j p hj
      exact⟨c,c1,c2,c3⟩
    · obtain⟨i,hi2⟩:=List.getElem?_of_mem hx
      obtain⟨_,_,_,_,hg⟩:=h2 i x hi2
      exact hg
theorem open_fields {t:TypeId} {fs:Array Field} {n:Nat} {cs:List Value} {x:DataW H×List MemPlace} (hs:P.underlying t=some (.struct fs)) (hone:oneCellFields P fs=true) (hC:P.cellsOf t=fs.size)
    (h:DataW.trod enc P w base spare held n t cs=some x) :
    cs.length=fs.size∧∀(j:Nat) (f:Field),fs[j]? = some f→∃(v:Value) (y:DataW H×List MemPlace) (m:Nat),cs[j]? = some v∧DataW.trod enc P w base spare held m f.type [v]=some y:=by
  obtain⟨ys,n',hn',hy,hlen,hyl,hf⟩:=DataW.trod_struct hs h
  refine⟨hlen.trans hC,fun j f hj=>?_⟩
  obtain⟨ho,hk⟩:=hone_of hone j f hj
  have hjl:j<fs.size:=(Array.getElem?_eq_some_iff.1 hj).1
  have hv:cs[j]? = some (cs[j]'(by omega)):=List.getElem?_eq_getElem (by omega)
  have h1:=hf j f hj
  rw[ho,hk]at h1
  have hone':(cs.drop j).take 1 = [cs[j]'(by omega)]:=by
    rw[List.drop_eq_getElem_cons (by omega)]
    rfl
  rw[hone']at h1
  have hys:ys[j]? = some (ys[j]'(by omega)):=List.getElem?_eq_getElem (by omega)
  exact⟨_,_,_,hv,h1.trans hys⟩
theorem open_agg {r:Reach} {b0:Nat} {t:TypeId} {fs:Array Field} {v:Value} {d:DataW H} {p:List MemPlace} (hs:P.underlying t=some (.struct fs)) (hone:oneCellFields P fs=true) (hC:P.cellsOf t=fs.size)
    (hv:Value.okWide P w r b0 t v) (h:DataW.Trod enc P w base spare held t v d p) :
    ∃cs:List Value,v = .agg cs.toArray∧cs.length=fs.size∧∀(j:Nat) (f:Field),fs[j]? = some f→∃(u:Value) (y:DataW H×List MemPlace) (m:Nat),cs[j]? = some u∧DataW.trod enc P w base spare held m f.type [u]=some y:=by
  obtain⟨cs,rfl,hsz⟩:=okWide_struct hs hv
  obtain⟨fuel,hf⟩:=h
  obtain⟨l⟩:=cs
  obtain⟨h1,h2⟩:=open_fields hs hone hC (by simpa [Value.cells] using hf)
  exact⟨l,rfl,h1,h2⟩
theorem get_int {k:IntKind} {t:TypeId} {m:Nat} {u:Value} {y:DataW H×List MemPlace} (ht:P.underlying t=some (.int k)) (h:DataW.trod enc P w base spare held m t [u]=some y):∃n,u = .int k n∧(Lit.int k n).wf=true:=by
  obtain⟨n,h1,_,h3⟩:=DataW.trod_int ht h
  exact⟨n,by simpa using h1,h3⟩
theorem get_string {t:TypeId} {m:Nat} {u:Value} {y:DataW H×List MemPlace} (ht:P.underlying t=some .string) (h:DataW.trod enc P w base spare held m t [u]=some y):∃s:ByteArray,u = .string s∧s.size≤maxLen:=by
  obtain⟨s,h1,_,h3⟩:=DataW.trod_string ht h
  exact⟨s,by simpa using h1,h3⟩
end
end Go.Proofs.YtndbmllnkjngnaaGreat.Open
