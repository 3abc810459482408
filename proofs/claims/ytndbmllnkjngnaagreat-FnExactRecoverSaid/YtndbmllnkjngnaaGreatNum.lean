/- Plain mathematics of the numbers' texts: fixed widths, variable widths, hexadecimal digits. No condition. -/
import Derived.Test.YtndbmllnkjngnaaGreatBase
namespace Go.Proofs.YtndbmllnkjngnaaGreat.Base
open Go.RowKit Go.Proofs.YtndbmllnkjngnaaGreatW.PrintWords Go.Proofs.YtndbmllnkjngnaaGreatW.PrintLast Go.Proofs.YtndbmllnkjngnaaGreatW.PrintMore
set_option linter.unusedVariables false
set_option linter.unusedSimpArgs false
def fixL:Nat→Int→List Int
  | 0,_=>[]
  |w+1,n=>fixL w (n/256) ++ [n%256]
theorem fixL_length:∀(w:Nat) (n:Int),(fixL w n).length=w
  | 0,_=>rfl
  |w+1,n=>by simp[fixL,fixL_length w]
theorem fixL_byt:∀(w:Nat) (n:Int),Byt (fixL w n)
  | 0,_=>byt_nil
  |w+1,n=>byt_append.2 ⟨fixL_byt w _,byt_cons.2 ⟨by omega,byt_nil⟩⟩
theorem pow256 (w:Nat):(256:Int) ^ (w+1)=256 ^ w*256:=Int.pow_succ 256 w
theorem pow256_pos (w:Nat):(0:Int)<256 ^ w:=Int.pow_pos (by omega)
theorem pow256_le {a b:Nat} (h:a≤b):(256:Int) ^ a≤256 ^ b:=by
  obtain⟨c,rfl⟩:=Nat.exists_eq_add_of_le h
  clear h
  induction c with
  |zero=>exact Int.le_refl _
  |succ c ih=>
    rw[show a+(c+1)=(a+c)+1 by omega,pow256]
    have:=pow256_pos (a+c)
    omega
theorem div_ge_one {n p:Int} (hp:0<p) (h:p≤n):1≤n/p:=(Int.le_ediv_iff_mul_le hp).2 (by omega)
theorem div_pow_succ (n:Int) (w:Nat):n/256/256 ^ w=n/256 ^ (w+1):=by
  rw[pow256,Int.mul_comm,Int.ediv_ediv_of_nonneg (by omega)]
theorem fixL_cons:∀(w:Nat) (n:Int),fixL (w+1) n=(n/256 ^ w%256)::fixL w n
  | 0,n=>by simp[fixL]
  |w+1,n=>by
    rw[fixL,fixL_cons w (n/256),div_pow_succ]
    rfl
theorem snoc_ind {α:Type} {P:List α→Prop} (h0:P []) (h1:∀l b,P l→P (l ++ [b])) (l:List α):P l:=by
  rw[←List.reverse_reverse l]
  induction l.reverse with
  |nil=>exact h0
  |cons b t ih=>rw[List.reverse_cons];exact h1 _ _ ih
def be (l:List Int):Int:=l.foldl (fun n b=>n*256+b) 0
theorem be_snoc (l:List Int) (b:Int):be (l ++ [b])=be l*256+b:=by simp[be,List.foldl_append]
theorem be_bound:∀(l:List Int),Byt l→0≤be l∧be l<256 ^ l.length:=by
  intro l
  refine snoc_ind (P:=fun l=>Byt l→0≤be l∧be l<256 ^ l.length) ?_ ?_ l
  · intro _;simp[be]
  · intro l b ih h
    obtain⟨h1,h2⟩:=byt_append.1 h
    obtain⟨⟨b0,b1⟩,_⟩:=byt_cons.1 h2
    obtain⟨i0,i1⟩:=ih h1
    rw[be_snoc,List.length_append,List.length_singleton,pow256]
    omega
theorem be_fixL:∀(w:Nat) (n:Int),0≤n→n<256 ^ w→be (fixL w n)=n
  | 0,n,h0,h1=>by simp at h1;simp[fixL,be];omega
  |w+1,n,h0,h1=>by
    rw[fixL,be_snoc,be_fixL w (n/256) (by omega) (by rw[pow256]at h1;have:=pow256_pos w;omega)]
    omega
theorem or_low {n b:Int} (h0:0≤n) (h1:n<18014398509481984) (b0:0≤b) (b1:b<256):Go.bits .or .i64 (n*256) b=n*256+b:=by
  obtain⟨m,rfl⟩:=Int.eq_ofNat_of_zero_le h0
  obtain⟨c,rfl⟩:=Int.eq_ofNat_of_zero_le b0
  have e:(BitVec.ofInt 64 ((m:Int)*256) |||BitVec.ofInt 64 (c:Int)).toNat=m*256+c:=by
    rw[BitVec.toNat_or,BitVec.toNat_ofInt,BitVec.toNat_ofInt]
    have e1:((m:Int)*256%((2 ^ 64:Nat):Int)).toNat=m <<< 8:=by rw[Nat.shiftLeft_eq];omega
    have e2:((c:Int)%((2 ^ 64:Nat):Int)).toNat=c:=by omega
    rw[e1,e2,←Nat.shiftLeft_add_eq_or_of_lt (by omega:c<2 ^ 8),Nat.shiftLeft_eq]
  have e3:Go.bits .or .i64 ((m:Int)*256) (c:Int)=IntKind.i64.wrap ((BitVec.ofInt 64 ((m:Int)*256) |||BitVec.ofInt 64 (c:Int)).toNat:Int):=rfl
  rw[e3,e]
  simp[IntKind.wrap,IntKind.bits,IntKind.signed]
  omega
theorem wrapi {n:Int} (h0 : -9223372036854775808≤n) (h1:n≤9223372036854775807):IntKind.i64.wrap n=n:=by
  simp[IntKind.wrap,IntKind.bits,IntKind.signed]
  omega
theorem shr8 (n:Int) {i:Int} (h0:0≤i) (h1:i≤7):shr .i64 n (8*i)=n/256 ^ i.toNat:=by
  have h:i=0∨i=1∨i=2∨i=3∨i=4∨i=5∨i=6∨i=7:=by omega
  rcases h with rfl|rfl|rfl|rfl|rfl|rfl|rfl|rfl<;>simp[shr,IntKind.bits]
theorem shl7 {x i:Int} (x0:0≤x) (x1:x<128) (h0:0≤i) (h1:i≤6):shl .i64 x (7*i)=x*128 ^ i.toNat:=by
  have h:i=0∨i=1∨i=2∨i=3∨i=4∨i=5∨i=6:=by omega
  rcases h with rfl|rfl|rfl|rfl|rfl|rfl|rfl<;>simp[shl,IntKind.bits]<;>exact wrapi (by omega) (by omega)
def varN (n:Nat):List Int:=if h:n<128 then[(n:Int)]else((n%128+128:Nat):Int)::varN (n/128)
termination_by n
decreasing_by omega
theorem varN_lt {n:Nat} (h:n<128):varN n = [(n:Int)]:=by rw[varN,dif_pos h]
theorem varN_ge {n:Nat} (h:¬n<128):varN n=((n%128+128:Nat):Int)::varN (n/128):=by rw[varN,dif_neg h]
theorem varN_byt (n:Nat):Byt (varN n):=by
  induction n using Nat.strongRecOn with
  | _ n ih=>
    by_cases h:n<128
    · rw[varN_lt h];exact byt_cons.2 ⟨by omega,byt_nil⟩
    · rw[varN_ge h];exact byt_cons.2 ⟨by omega,ih _ (by omega)⟩
theorem varN_ne (n:Nat):varN n≠[]:=by
  by_cases h:n<128
  · rw[varN_lt h];simp
  · rw[varN_ge h];simp
theorem pow128 (d:Nat):128 ^ (d+1)=128 ^ d*128:=Nat.pow_succ 128 d
theorem varN_length:∀(d n:Nat),n<128 ^ (d+1)→(varN n).length≤d+1
  | 0,n,h=>by rw[varN_lt (by omega)];simp
  |d+1,n,h=>by
    by_cases h2:n<128
    · rw[varN_lt h2];simp
    · rw[varN_ge h2]
      have:=varN_length d (n/128) (by rw[pow128]at h;omega)
      simp;omega
def le7:List Int→Nat
  | []=>0
  |b::t=>(b%128).toNat+128*le7 t
theorem le7_bound:∀(l:List Int),le7 l<128 ^ l.length
  | []=>by simp[le7]
  |b::t=>by
    have:=le7_bound t
    rw[le7,List.length_cons,pow128]
    omega
theorem le7_varN (n:Nat):le7 (varN n)=n:=by
  induction n using Nat.strongRecOn with
  | _ n ih=>
    by_cases h:n<128
    · rw[varN_lt h];simp[le7];omega
    · rw[varN_ge h,le7,ih _ (by omega)];omega
def rv:List Int→Nat→Int→Int×Int
  | [],_,_=>(0,0)
  |b::t,i,n=>if i<7 then(if b≥128 then rv t (i+1) (n+b%128*128 ^ i)else if b=0∧i>0 then(0,0)else(n+b%128*128 ^ i,i+1))else(0,0)
def hexV (c:Int):Int:=if 48≤c∧c≤57 then c-48 else if 97≤c∧c≤102 then c-87 else -1
theorem hexV_range (c:Int) : -1≤hexV c∧hexV c≤15:=by
  unfold hexV
  split
  · omega
  · split<;>omega
def unhexL:List Int→Option (List Int)
  |a::b::t=>if hexV a<0 then none else if hexV b<0 then none else(unhexL t).map fun r=>((16*hexV a+hexV b)::r)
  | _=>some []
end Go.Proofs.YtndbmllnkjngnaaGreat.Base
