/- Plain mathematics of numbers' decimal texts. No condition. -/
import Derived.Test.YtndbmllnkjngnaaGreatBase
namespace Go.Proofs.YtndbmllnkjngnaaGreat.Base
open Go.RowKit Go.Proofs.YtndbmllnkjngnaaGreatW.PrintWords Go.Proofs.YtndbmllnkjngnaaGreatW.PrintLast Go.Proofs.YtndbmllnkjngnaaGreatW.PrintMore
set_option linter.unusedVariables false
set_option linter.unusedSimpArgs false
def decN (n:Nat):List Int:=if h:n<10 then[48+(n:Int)]else decN (n/10) ++ [48+((n%10:Nat):Int)]
termination_by n
decreasing_by omega
theorem decN_lt {n:Nat} (h:n<10):decN n = [48+(n:Int)]:=by rw[decN,dif_pos h]
theorem decN_ge {n:Nat} (h:¬n<10):decN n=decN (n/10) ++ [48+((n%10:Nat):Int)]:=by rw[decN,dif_neg h]
def decM (n:Int):List Int:=if n<0 then 45::decN (-n).toNat else decN n.toNat
theorem decN_digits (n:Nat):∀x∈decN n,48≤x∧x≤57:=by
  induction n using Nat.strongRecOn with
  | _ n ih=>
    by_cases h:n<10
    · rw[decN_lt h];intro x hx;rw[List.mem_singleton.1 hx];omega
    · rw[decN_ge h]
      intro x hx
      rcases List.mem_append.1 hx with hx|hx
      · exact ih _ (by omega) x hx
      · rw[List.mem_singleton.1 hx];omega
theorem decN_byt (n:Nat):Byt (decN n):=fun x hx=>by have:=decN_digits n x hx;omega
theorem decM_byt (n:Int):Byt (decM n):=by
  unfold decM;split
  · exact byt_cons.2 ⟨by omega,decN_byt _⟩
  · exact decN_byt _
theorem decN_ne (n:Nat):decN n≠[]:=by
  by_cases h:n<10
  · rw[decN_lt h];simp
  · rw[decN_ge h];simp
theorem pow10 (d:Nat):10 ^ (d+1)=10 ^ d*10:=Nat.pow_succ 10 d
theorem decN_length:∀(d n:Nat),n<10 ^ (d+1)→(decN n).length≤d+1
  | 0,n,h=>by rw[decN_lt (by omega)];simp
  |d+1,n,h=>by
    by_cases h2:n<10
    · rw[decN_lt h2];simp
    · rw[decN_ge h2,List.length_append]
      have:=decN_length d (n/10) (by rw[pow10]at h;omega)
      simp;omega
def isD (b:Int):Bool:=decide (48≤b∧b≤57)
def valD (l:List Int):Int:=l.foldl (fun n b=>if isD b then n*10+(b-48)else n) 0
def cntD (l:List Int):Int:=((l.filter isD).length:Int)
theorem valD_snoc (l:List Int) (b:Int):valD (l ++ [b])=if isD b then valD l*10+(b-48)else valD l:=by
  simp[valD,List.foldl_append]
theorem cntD_snoc (l:List Int) (b:Int):cntD (l ++ [b])=if isD b then cntD l+1 else cntD l:=by
  unfold cntD
  rw[List.filter_append,List.filter_cons]
  by_cases h:isD b=true<;>simp[h]
theorem snoc_ind' {α:Type} {P:List α→Prop} (h0:P []) (h1:∀l b,P l→P (l ++ [b])) (l:List α):P l:=by
  rw[←List.reverse_reverse l]
  induction l.reverse with
  |nil=>exact h0
  |cons b t ih=>rw[List.reverse_cons];exact h1 _ _ ih
theorem valD_nonneg (l:List Int):0≤valD l:=by
  refine snoc_ind' (P:=fun l=>0≤valD l) (by simp[valD]) (fun l b ih=>?_) l
  rw[valD_snoc]
  split
  · rename_i h;simp[isD]at h;omega
  · exact ih
theorem pow10i (d:Nat):(10:Int) ^ (d+1)=10 ^ d*10:=Int.pow_succ 10 d
theorem pow10_pos (d:Nat):(0:Int)<10 ^ d:=Int.pow_pos (by omega)
theorem cntD_nonneg (l:List Int):0≤cntD l:=by unfold cntD;omega
theorem valD_bound (l:List Int):valD l<10 ^ (cntD l).toNat:=by
  refine snoc_ind' (P:=fun l=>valD l<10 ^ (cntD l).toNat) (by simp[valD,cntD]) (fun l b ih=>?_) l
  rw[valD_snoc,cntD_snoc]
  by_cases h:isD b=true
  · have:=cntD_nonneg l
    rw[if_pos h,if_pos h,show(cntD l+1).toNat=(cntD l).toNat+1 by omega,pow10i]
    simp[isD]at h;omega
  · rw[if_neg h,if_neg h];exact ih
theorem valD_decN (n:Nat):valD (decN n)=n:=by
  induction n using Nat.strongRecOn with
  | _ n ih=>
    by_cases h:n<10
    · rw[decN_lt h]
      have:isD (48+(n:Int))=true:=by simp[isD];omega
      simp[valD,this];omega
    · rw[decN_ge h,valD_snoc,ih _ (by omega),if_pos (by simp[isD];omega)];omega
theorem valD_cons_minus (l:List Int):valD (45::l)=valD l:=rfl
theorem cntD_all {l:List Int} (h:∀x∈l,48≤x∧x≤57):cntD l=l.length:=by
  unfold cntD
  rw[List.filter_eq_self.2 (fun x hx=>by have:=h x hx;simp[isD];omega)]
theorem decM_val (v:Int):valD (decM v)=if v<0 then -v else v:=by
  unfold decM
  by_cases h:v<0
  · rw[if_pos h,if_pos h,valD_cons_minus,valD_decN];omega
  · rw[if_neg h,if_neg h,valD_decN];omega
theorem decM_cnt (v:Int) (h0 : -1000000000<v) (h1:v<1000000000):cntD (decM v)≤9∧(decM v).length≤10∧(v≥0→(decM v).length≤9):=by
  unfold decM
  by_cases h:v<0
  · have h2:=decN_length 8 (-v).toNat (by omega)
    have h3:=cntD_all (decN_digits (-v).toNat)
    have h4:cntD (45::decN (-v).toNat)=cntD (decN (-v).toNat):=rfl
    rw[if_pos h]
    refine⟨by rw[h4,h3];omega,by simp;omega,by omega⟩
  · have h2:=decN_length 8 v.toNat (by omega)
    have h3:=cntD_all (decN_digits v.toNat)
    rw[if_neg h]
    exact⟨by rw[h3];omega,by omega,fun _=>h2⟩
theorem decM_head (v:Int):(decM v).head? = some 45↔v<0:=by
  unfold decM
  by_cases h:v<0
  · rw[if_pos h];simp[h]
  · rw[if_neg h]
    constructor
    · intro h2
      have:=decN_digits v.toNat 45 (List.mem_of_mem_head? h2)
      omega
    · intro h2;exact absurd h2 h
theorem decM_inj {u v:Int} (h:decM u=decM v):u=v:=by
  have h1:=decM_val u
  rw[h,decM_val v]at h1
  have h2:=decM_head u
  rw[h,decM_head v]at h2
  by_cases hu:u<0<;>by_cases hv:v<0<;>simp[hu,hv]at h1 h2<;>omega
theorem enc_digit {d:Int} (h0:0≤d) (h1:d<10):Go.Utf8.encode (wrap32 (wrap64 (48+d)))=strOfNums [48+d]:=by
  have h:d=0∨d=1∨d=2∨d=3∨d=4∨d=5∨d=6∨d=7∨d=8∨d=9:=by omega
  rcases h with rfl|rfl|rfl|rfl|rfl|rfl|rfl|rfl|rfl|rfl<;>decide +kernel
theorem tmod_neg (n m:Int) (h:0≤n):Int.tmod (-n) m = -(n%m):=by rw[Int.neg_tmod,tmod_nn h]
theorem tdiv_neg (n m:Int) (h:0≤n):Int.tdiv (-n) m = -(n/m):=by rw[Int.neg_tdiv,tdiv_nn h]
end Go.Proofs.YtndbmllnkjngnaaGreat.Base
