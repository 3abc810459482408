/- FnExactRecover: the plain law. -/
import Derived.Test.YtndbmllnkjngnaaGreatPFnExactRecoverx1
import Derived.Test.YtndbmllnkjngnaaGreatBase
import Derived.Test.YtndbmllnkjngnaaGreatNum
import Derived.Test.YtndbmllnkjngnaaGreatNumCrc
import Derived.Test.YtndbmllnkjngnaaGreatNumFrame
import Derived.Test.YtndbmllnkjngnaaGreatNumRec
import Derived.Test.YtndbmllnkjngnaaGreatNumDec
import Derived.Test.YtndbmllnkjngnaaGreatNumSnap
namespace Go.Proofs.YtndbmllnkjngnaaGreat.Pure
open Go.RowKit Go.Proofs.YtndbmllnkjngnaaGreat.PDs Go.Proofs.YtndbmllnkjngnaaGreat.PFnExactRecover Go.Proofs.YtndbmllnkjngnaaGreatW.PrintWords Go.Proofs.YtndbmllnkjngnaaGreatW.PrintLast Go.Proofs.YtndbmllnkjngnaaGreatW.PrintMore Go.Proofs.YtndbmllnkjngnaaGreat.Base
set_option linter.unusedVariables false
set_option linter.unusedSimpArgs false
theorem ac (a b c:Int):spec_l1In.f a b c=some (decide (b≤a∧a≤c)):=by
  unfold spec_l1In.f
  by_cases h:a≥b
  · rw[if_pos h];congr 1;simp[show b≤a from h]
  · rw[if_neg h];congr 1;simp;omega
theorem ab (a b c:Int):impl_from.f a b c=some (decide (b≤a∧a≤c)):=by
  unfold impl_from.f
  by_cases h:a≥b
  · rw[if_pos h];congr 1;simp[show b≤a from h]
  · rw[if_neg h];congr 1;simp;omega
def cf (n w:Int):List Int:=if 1≤w∧w≤7∧0≤n∧n<256 ^ w.toNat then fixL w.toNat n else[]
theorem dJ (w:Int) (hw:w≤7):∀(d k:Nat) (n i:Int) (out:ByteArray),0≤i→i+d=w→0≤n→n≤9223372036854775807→out.size=i.toNat→d<k→
    spec_Fixed.l0 k n w out i=some (if n/256 ^ d>0 then(⟨#[]⟩:ByteArray)else strOfNums (fixL d n)++out):=by
  intro d
  induction d with
  |zero=>
    intro k n i out h0 h1 n0 n1 ho hk
    obtain⟨k,rfl⟩:∃m,k=m+1:=⟨k-1,by omega⟩
    simp only[spec_Fixed.l0]
    rw[if_neg (by omega)]
    have e:strOfNums (fixL 0 n)++out=out:=bytesOf_inj (by rw[bytesOf_append,bytesOf_strOfNums (fixL_byt _ _)];rfl)
    rw[e]
    simp only[Int.pow_zero,Int.ediv_one]
    split<;>rfl
  |succ d ih=>
    intro k n i out h0 h1 n0 n1 ho hk
    obtain⟨k,rfl⟩:∃m,k=m+1:=⟨k-1,by omega⟩
    simp only[spec_Fixed.l0,Option.bind_some]
    rw[if_pos (by omega),size_strOfNums,if_pos (by simp;omega),tmod_nn n0,tdiv_nn n0,w64 (n:=n/256) (by omega) (by omega),w64 (n:=i+1) (by omega) (by omega)]
    rw[ih k (n/256) (i+1) _ (by omega) (by omega) (by omega) (by omega) (by rw[ByteArray.size_append,size_strOfNums,ho];simp;omega) (by omega),div_pow_succ]
    have e:strOfNums (fixL d (n/256))++(strOfNums [n%256%256]++out)=strOfNums (fixL (d+1) n)++out:=by
      rw[fixL,←strOfNums_append,ByteArray.append_assoc,show n%256%256=n%256 by omega]
    rw[e]
theorem aq (n w:Int) (n1:n≤9223372036854775807) (k:Nat) (hk:8<k):spec_Fixed.f k n w=some (strOfNums (cf n w)):=by
  unfold spec_Fixed.f cf
  rw[ac];simp only[Option.bind_some,decide_eq_true_eq]
  obtain⟨k,rfl⟩:∃m,k=m+1:=⟨k-1,by omega⟩
  by_cases h:1≤w∧w≤7
  · rw[if_pos h]
    simp only[spec_Fixed.j0,decide_eq_true_eq]
    by_cases h2:n<0
    · rw[if_pos h2,if_neg (by omega)];rfl
    · rw[if_neg h2,dJ w h.2 w.toNat k n 0 _ (by omega) (by omega) (by omega) (by omega) rfl (by omega)]
      have hp:=pow256_pos w.toNat
      by_cases h3:n<256 ^ w.toNat
      · have hc:1≤w∧w≤7∧0≤n∧n<256 ^ w.toNat:=⟨h.1,h.2,by omega,h3⟩
        rw[if_pos hc,Int.ediv_eq_zero_of_lt (by omega) h3,if_neg (by omega)]
        congr 1
        exact bytesOf_inj (by rw[bytesOf_append];simp[bytesOf])
      · have hc:¬(1≤w∧w≤7∧0≤n∧n<256 ^ w.toNat):=fun hc=>h3 hc.2.2.2
        have hd:=div_ge_one hp (show 256 ^ w.toNat≤n by omega)
        rw[if_neg hc,if_pos (by omega)];rfl
  · rw[if_neg h,if_neg (by omega)]
    simp only[spec_Fixed.j0];rfl
theorem dF (n:Int):∀(d k:Nat) (xs:List Int),d≤7→xs.length+d<100→d<k→
    impl_Fixed.l0 k n xs ((d:Int)-1)=some (strOfNums (xs++fixL d n)):=by
  intro d
  induction d with
  |zero=>
    intro k xs h7 hx hk
    obtain⟨k,rfl⟩:∃m,k=m+1:=⟨k-1,by omega⟩
    simp only[impl_Fixed.l0]
    rw[if_neg (by omega)];simp[fixL]
  |succ d ih=>
    intro k xs h7 hx hk
    obtain⟨k,rfl⟩:∃m,k=m+1:=⟨k-1,by omega⟩
    simp only[impl_Fixed.l0]
    rw[show((d+1:Nat):Int)-1=(d:Int) by omega,if_pos (by omega),w64 (n:=8*(d:Int)) (by omega) (by omega),if_pos (by omega),if_pos (by omega),w64 (n:=(d:Int)-1) (by omega) (by omega),shr8 n (by omega) (by omega),ih k _ (by omega) (by simp;omega) (by omega),fixL_cons]
    simp
theorem ap (n w:Int) (k:Nat) (hk:8<k):impl_Fixed.f k n w=some (strOfNums (cf n w)):=by
  unfold impl_Fixed.f cf
  rw[ab];simp only[Option.bind_some,decide_eq_true_eq]
  obtain⟨k,rfl⟩:∃m,k=m+1:=⟨k-1,by omega⟩
  by_cases h:1≤w∧w≤7
  · rw[if_pos h]
    by_cases h2:n<0
    · rw[if_pos h2,if_neg (by omega)];simp only[impl_Fixed.j0];rfl
    · rw[if_neg h2,w64 (n:=8*w) (by omega) (by omega),if_pos (by omega),shr8 n (by omega) (by omega)]
      have hp:=pow256_pos w.toNat
      simp only[impl_Fixed.j0,bne_iff_ne,ne_eq]
      by_cases h3:n<256 ^ w.toNat
      · have hc:1≤w∧w≤7∧0≤n∧n<256 ^ w.toNat:=⟨h.1,h.2,by omega,h3⟩
        rw[if_pos hc,Int.ediv_eq_zero_of_lt (by omega) h3,if_neg (by simp),w64 (n:=w-1) (by omega) (by omega)]
        have:=dF n w.toNat k [] (by omega) (by simp;omega) (by omega)
        rw[show((w.toNat:Nat):Int)-1=w-1 by omega]at this
        rw[this];simp
      · have hc:¬(1≤w∧w≤7∧0≤n∧n<256 ^ w.toNat):=fun hc=>h3 hc.2.2.2
        have hd:=div_ge_one hp (show 256 ^ w.toNat≤n by omega)
        rw[if_neg hc,if_pos (by omega)];rfl
  · rw[if_neg h,if_neg (by omega)]
    simp only[impl_Fixed.j0];rfl
def bX (n:Int):List Int:=if 0≤n∧n≤562949953421311 then varN n.toNat else[]
theorem a9 (n:Int):Byt (bX n):=by
  unfold bX;split
  · exact varN_byt _
  · exact byt_nil
theorem eL:∀(d k n:Nat) (xs:List Int),n<128 ^ (d+1)→d≤7→xs.length+d<100→d<k→
    spec_Var.l0 k (n:Int) xs=some (strOfNums (xs++varN n)):=by
  intro d
  induction d with
  |zero=>
    intro k n xs h0 h7 h1 hk
    obtain⟨k,rfl⟩:∃m,k=m+1:=⟨k-1,by omega⟩
    simp only[spec_Var.l0]
    rw[if_neg (by omega),if_pos (by omega),varN_lt (by omega),show(n:Int)%256=n by omega]
  |succ d ih=>
    intro k n xs h0 h7 h1 hk
    obtain⟨k,rfl⟩:∃m,k=m+1:=⟨k-1,by omega⟩
    simp only[spec_Var.l0]
    have hb:n<128 ^ 9:=Nat.lt_of_lt_of_le h0 (Nat.pow_le_pow_right (by omega) (by omega))
    by_cases h:n<128
    · rw[if_neg (by omega),if_pos (by omega),varN_lt h,show(n:Int)%256=n by omega]
    · rw[if_pos (by omega),if_pos (by omega),varN_ge h,tdiv_nn (by omega),tmod_nn (by omega),w64 (n:=(n:Int)/128) (by omega) (by omega),w64 (n:=128+(n:Int)%128) (by omega) (by omega)]
      have e:(n:Int)/128=((n/128:Nat):Int):=by omega
      rw[e,ih k (n/128) _ (by rw[pow128]at h0;omega) (by omega) (by simp;omega) (by omega)]
      have e2:(128+(n:Int)%128)%256=((n%128+128:Nat):Int):=by omega
      rw[e2];simp
theorem aO (n:Int) (k:Nat) (hk:8<k):spec_Var.f k n=some (strOfNums (bX n)):=by
  unfold spec_Var.f bX
  rw[ac];simp only[Option.bind_some,decide_eq_true_eq]
  by_cases h:0≤n∧n≤562949953421311
  · rw[if_pos h,if_pos h]
    have:=eL 6 k n.toNat [] (by omega) (by omega) (by simp) (by omega)
    rw[show((n.toNat:Nat):Int)=n by omega]at this
    rw[this];rfl
  · rw[if_neg h,if_neg h];rfl
theorem eC:∀(d k n:Nat) (xs:List Int),n<128 ^ (d+1)→d≤7→xs.length+d<100→d<k→
    impl_Var.l0 k (n:Int) xs=some (strOfNums (xs++varN n)):=by
  intro d
  induction d with
  |zero=>
    intro k n xs h0 h7 h1 hk
    obtain⟨k,rfl⟩:∃m,k=m+1:=⟨k-1,by omega⟩
    simp only[impl_Var.l0]
    rw[if_neg (by omega),if_pos (by omega),varN_lt (by omega),show(n:Int)%256=n by omega]
  |succ d ih=>
    intro k n xs h0 h7 h1 hk
    obtain⟨k,rfl⟩:∃m,k=m+1:=⟨k-1,by omega⟩
    simp only[impl_Var.l0]
    have hb:n<128 ^ 9:=Nat.lt_of_lt_of_le h0 (Nat.pow_le_pow_right (by omega) (by omega))
    by_cases h:n<128
    · rw[if_neg (by omega),if_pos (by omega),varN_lt h,show(n:Int)%256=n by omega]
    · rw[if_pos (by omega),if_pos (by omega),varN_ge h,tdiv_nn (by omega),tmod_nn (by omega),w64 (n:=(n:Int)/128) (by omega) (by omega),w64 (n:=(n:Int)%128+128) (by omega) (by omega)]
      have e:(n:Int)/128=((n/128:Nat):Int):=by omega
      rw[e,ih k (n/128) _ (by rw[pow128]at h0;omega) (by omega) (by simp;omega) (by omega)]
      have e2:((n:Int)%128+128)%256=((n%128+128:Nat):Int):=by omega
      rw[e2];simp
theorem b4 (n:Int) (k:Nat) (hk:8<k):impl_Var.f k n=some (strOfNums (bX n)):=by
  unfold impl_Var.f bX
  rw[ab];simp only[Option.bind_some,decide_eq_true_eq]
  by_cases h:0≤n∧n≤562949953421311
  · rw[if_pos h,if_pos h]
    have:=eC 6 k n.toNat [] (by omega) (by omega) (by simp) (by omega)
    rw[show((n.toNat:Nat):Int)=n by omega]at this
    rw[this];rfl
  · rw[if_neg h,if_neg h];rfl
theorem dv (s:ByteArray) (i:Int):∀(d k:Nat) (j c:Int),j+d=8→0≤j→0≤c→c<4294967296→
    spec_Crc.l1 (k+d+1) s c i j=spec_Crc.l0 k s (crcI d c) (wrap64 (i+1)):=by
  intro d
  induction d with
  |zero=>
    intro k j c hj h0 c0 c1
    simp only[spec_Crc.l1]
    rw[if_neg (by omega)];rfl
  |succ d ih=>
    intro k j c hj h0 c0 c1
    obtain⟨q,hq⟩:∃q,k+d+1=q:=⟨_,rfl⟩
    rw[show k+(d+1)+1=q+1 by omega]
    simp only[spec_Crc.l1]
    have hr:=crc1_range c0 c1
    rw[if_pos (by omega),tmod_nn c0,tdiv_nn c0,w64 (n:=c/2) (by omega) (by omega),w64 (n:=j+1) (by omega) (by omega),crcI]
    by_cases h:c%2=1
    · rw[if_pos h,bits_xor64 (by omega) (by omega) (by omega) (by omega)]
      have e:crc1 c=xr (c/2) 2197175160:=by unfold crc1;rw[if_pos h]
      rw[←e,←hq,ih k (j+1) _ (by omega) (by omega) hr.1 hr.2]
    · rw[if_neg h]
      have e:crc1 c=c/2:=by unfold crc1;rw[if_neg h]
      rw[←e,←hq,ih k (j+1) _ (by omega) (by omega) hr.1 hr.2]
theorem eI (s:ByteArray) (hs:s.size≤140737488351232):∀(d k:Nat) (i c:Int),0≤i→i+d=s.size→0≤c→c<4294967296→
    spec_Crc.l0 (k+10*d+1) s c i=some (4294967295-crcL ((bytesOf s).drop i.toNat) c):=by
  intro d
  induction d with
  |zero=>
    intro k i c h0 h1 c0 c1
    simp only[spec_Crc.l0]
    rw[if_neg (by omega),List.drop_of_length_le (by rw[bytesOf_length];omega),w64 (by omega) (by omega)];rfl
  |succ d ih=>
    intro k i c h0 h1 c0 c1
    obtain⟨q,hq⟩:∃q,(k+10*d+1)+8+1=q:=⟨_,rfl⟩
    rw[show k+10*(d+1)+1=q+1 by omega]
    have hlt:i<(s.size:Int):=by omega
    obtain⟨b0,b1⟩:=bt_range s i
    obtain⟨r0,r1⟩:=xr_range (a:=c) (b:=bt s i) c1 (by omega)
    obtain⟨q0,q1⟩:=crcI_range 8 r0 r1
    simp only[spec_Crc.l0]
    rw[if_pos hlt,if_pos h0,w64 (n:=bt s i) (by omega) (by omega),bits_xor64 c0 c1 b0 (by omega),←hq,dv s i 8 _ 0 _ (by omega) (by omega) r0 r1,w64 (n:=i+1) (by omega) (by omega),ih k (i+1) _ (by omega) (by omega) q0 q1,bt_drop h0 hlt,show(i+1).toNat=i.toNat+1 by omega];rfl
theorem dN (s:ByteArray) (hs:s.size≤140737488351232) (k:Nat) (hk:10*s.size<k):spec_Crc.f k s=some (crcM (bytesOf s)):=by
  obtain⟨q,rfl⟩:∃m,k=m+10*s.size+1:=⟨k-10*s.size-1,by omega⟩
  unfold spec_Crc.f
  exact eI s hs s.size q 0 _ (by omega) (by omega) (by omega) (by omega)
theorem ef (s:ByteArray) (n i:Int):∀(d k:Nat) (j c:Int),j+d=8→0≤j→0≤c→c<4294967296→
    impl_Crc.l1 (k+d+1) s c n i j=impl_Crc.l0 k s (crcI d c) n (wrap64 (i+1)):=by
  intro d
  induction d with
  |zero=>
    intro k j c hj h0 c0 c1
    simp only[impl_Crc.l1]
    rw[if_neg (by omega)];rfl
  |succ d ih=>
    intro k j c hj h0 c0 c1
    obtain⟨q,hq⟩:∃q,k+d+1=q:=⟨_,rfl⟩
    rw[show k+(d+1)+1=q+1 by omega]
    simp only[impl_Crc.l1]
    have hr:=crc1_range c0 c1
    rw[if_pos (by omega),bits_and1 c0 c1,w64 (n:=j+1) (by omega) (by omega),crcI]
    by_cases h:c%2=1
    · rw[if_pos h,bits_xor32 (by omega) (by omega) (by omega) (by omega)]
      have e:crc1 c=xr (c/2) 2197175160:=by unfold crc1;rw[if_pos h]
      rw[←e,←hq,ih k (j+1) _ (by omega) (by omega) hr.1 hr.2]
    · rw[if_neg h]
      have e:crc1 c=c/2:=by unfold crc1;rw[if_neg h]
      rw[←e,←hq,ih k (j+1) _ (by omega) (by omega) hr.1 hr.2]
theorem eD (s:ByteArray) (hs:s.size≤140737488351232):∀(d k:Nat) (i c:Int),0≤i→i+d=s.size→0≤c→c<4294967296→
    impl_Crc.l0 (k+10*d+1) s c (s.size:Int) i=some (4294967295-crcL ((bytesOf s).drop i.toNat) c):=by
  intro d
  induction d with
  |zero=>
    intro k i c h0 h1 c0 c1
    simp only[impl_Crc.l0]
    rw[if_neg (by omega),List.drop_of_length_le (by rw[bytesOf_length];omega),bits_xor32 (by omega) (by omega) c0 c1,xr_ones c0 c1,w64 (by omega) (by omega)];rfl
  |succ d ih=>
    intro k i c h0 h1 c0 c1
    obtain⟨q,hq⟩:∃q,(k+10*d+1)+8+1=q:=⟨_,rfl⟩
    rw[show k+10*(d+1)+1=q+1 by omega]
    have hlt:i<(s.size:Int):=by omega
    obtain⟨b0,b1⟩:=bt_range s i
    obtain⟨r0,r1⟩:=xr_range (a:=c) (b:=bt s i) c1 (by omega)
    obtain⟨q0,q1⟩:=crcI_range 8 r0 r1
    simp only[impl_Crc.l0]
    rw[if_pos hlt,if_pos h0,if_pos hlt,show bt s i%4294967296=bt s i by omega,bits_xor32 c0 c1 b0 (by omega),←hq,ef s _ i 8 _ 0 _ (by omega) (by omega) r0 r1,w64 (n:=i+1) (by omega) (by omega),ih k (i+1) _ (by omega) (by omega) q0 q1,bt_drop h0 hlt,show(i+1).toNat=i.toNat+1 by omega];rfl
theorem dQ (s:ByteArray) (hs:s.size≤140737488351232) (k:Nat) (hk:10*s.size<k):impl_Crc.f k s=some (crcM (bytesOf s)):=by
  obtain⟨q,rfl⟩:∃m,k=m+10*s.size+1:=⟨k-10*s.size-1,by omega⟩
  unfold impl_Crc.f
  exact eD s hs s.size q 0 _ (by omega) (by omega) (by omega) (by omega)
theorem cm (s:ByteArray) (hs:s.size≤140737488351232) (k:Nat) (hk:21000<k):spec_Frame.f k s=some (strOfNums (frameM (bytesOf s))):=by
  obtain⟨k,rfl⟩:∃m,k=m+1:=⟨k-1,by omega⟩
  unfold spec_Frame.f frameM
  rw[bytesOf_length]
  by_cases h0:(s.size:Int)=0
  · rw[if_pos h0,if_neg (by omega)];simp only[spec_Frame.j0];rfl
  · rw[if_neg h0]
    simp only[spec_Frame.j0]
    by_cases h1:(s.size:Int)>2000
    · rw[if_pos (by simpa using h1),if_neg (by omega)];rfl
    · have hf:cf (s.size:Int) 4=fixL 4 s.size:=by
        unfold cf;rw[if_pos]
        · rfl
        · refine⟨by omega,by omega,by omega,?_⟩;rw[show((4:Int).toNat)=4 from rfl];omega
      have hz:(strOfNums (fixL 4 (s.size:Int))).size=4:=by rw[size_strOfNums,fixL_length]
      have hb:bytesOf (strOfNums (fixL 4 (s.size:Int))++s)=fixL 4 s.size++bytesOf s:=by rw[bytesOf_append,bytesOf_strOfNums (fixL_byt _ _)]
      obtain⟨c0,c1⟩:=crcM_range (l:=fixL 4 (s.size:Int)++bytesOf s) (byt_append.2 ⟨fixL_byt _ _,byt_bytesOf s⟩)
      have hf2:cf (crcM (fixL 4 (s.size:Int)++bytesOf s)) 4=fixL 4 (crcM (fixL 4 s.size++bytesOf s)):=by
        unfold cf;rw[if_pos];· rfl
        · refine⟨by omega,by omega,c0,?_⟩;rw[show((4:Int).toNat)=4 from rfl];omega
      rw[if_neg (by simpa using h1),if_pos (by omega),aq _ _ (by omega) _ (by omega),hf]
      simp only[Option.bind_some]
      rw[if_pos (by omega),dN _ (by rw[ByteArray.size_append];omega) _ (by rw[ByteArray.size_append];omega),hb]
      simp only[Option.bind_some]
      rw[aq _ _ (by omega) _ (by omega),hf2]
      simp only[Option.bind_some]
      rw[if_pos (by simp only[ByteArray.size_append,hz,size_strOfNums,fixL_length];omega),if_pos (by simp only[ByteArray.size_append,hz,size_strOfNums,fixL_length];omega),←strOfNums_append,←strOfNums_append,strOfNums_bytesOf]
theorem cr (s:ByteArray) (hs:s.size≤140737488351232) (k:Nat) (hk:21000<k):impl_Frame.f k s=some (strOfNums (frameM (bytesOf s))):=by
  unfold impl_Frame.f frameM
  rw[bytesOf_length,ab]
  simp only[Option.bind_some,decide_eq_true_eq]
  by_cases h1:1≤(s.size:Int)∧(s.size:Int)≤2000
  · rw[if_pos h1,if_pos h1]
    · have hf:cf (s.size:Int) 4=fixL 4 s.size:=by
        unfold cf;rw[if_pos]
        · rfl
        · refine⟨by omega,by omega,by omega,?_⟩;rw[show((4:Int).toNat)=4 from rfl];omega
      have hz:(strOfNums (fixL 4 (s.size:Int))).size=4:=by rw[size_strOfNums,fixL_length]
      have hb:bytesOf (strOfNums (fixL 4 (s.size:Int))++s)=fixL 4 s.size++bytesOf s:=by rw[bytesOf_append,bytesOf_strOfNums (fixL_byt _ _)]
      obtain⟨c0,c1⟩:=crcM_range (l:=fixL 4 (s.size:Int)++bytesOf s) (byt_append.2 ⟨fixL_byt _ _,byt_bytesOf s⟩)
      have hf2:cf (crcM (fixL 4 (s.size:Int)++bytesOf s)) 4=fixL 4 (crcM (fixL 4 s.size++bytesOf s)):=by
        unfold cf;rw[if_pos];· rfl
        · refine⟨by omega,by omega,c0,?_⟩;rw[show((4:Int).toNat)=4 from rfl];omega
      rw[ap _ _ _ (by omega),hf]
      simp only[Option.bind_some]
      rw[if_pos (by omega),dQ _ (by rw[ByteArray.size_append];omega) _ (by rw[ByteArray.size_append];omega),hb]
      simp only[Option.bind_some]
      rw[ap _ _ _ (by omega),hf2]
      simp only[Option.bind_some]
      rw[if_pos (by simp only[ByteArray.size_append,hz,size_strOfNums,fixL_length];omega),if_pos (by simp only[ByteArray.size_append,hz,size_strOfNums,fixL_length];omega),←strOfNums_append,←strOfNums_append,strOfNums_bytesOf]
  · rw[if_neg h1,if_neg h1];rfl
def aV (s:ByteArray) (w:Int):Int×Bool:=if 1≤w∧w≤7∧w≤(s.size:Int)then(be ((bytesOf s).take w.toNat),true)else(0,false)
theorem fQ {s:ByteArray} {i:Int} (h0:0≤i) (h1:i<(s.size:Int)) (h7:i<7) :
    be ((bytesOf s).take (i.toNat+1))=be ((bytesOf s).take i.toNat)*256+bt s i∧0≤be ((bytesOf s).take i.toNat)∧be ((bytesOf s).take i.toNat)<281474976710656:=by
  refine⟨by rw[bt_take h0 h1,be_snoc],?_⟩
  obtain⟨a,b⟩:=be_bound ((bytesOf s).take i.toNat) (byt_take (byt_bytesOf s) _)
  refine⟨a,Int.lt_of_lt_of_le b ?_⟩
  have:((bytesOf s).take i.toNat).length≤6:=by rw[List.length_take];omega
  exact Int.le_trans (pow256_le this) (show(256:Int) ^ 6≤281474976710656 by decide)
theorem bV (s:ByteArray) (w:Int) (hw:w≤7) (hs:w≤(s.size:Int)):∀(d k:Nat) (i:Int),0≤i→i+d=w→d<k→
    spec_ReadFixed.l0 k s w (be ((bytesOf s).take i.toNat)) i=some (be ((bytesOf s).take w.toNat),true):=by
  intro d
  induction d with
  |zero=>
    intro k i h0 h1 hk
    obtain⟨k,rfl⟩:∃m,k=m+1:=⟨k-1,by omega⟩
    simp only[spec_ReadFixed.l0]
    rw[if_neg (by omega),show i=w by omega]
  |succ d ih=>
    intro k i h0 h1 hk
    obtain⟨k,rfl⟩:∃m,k=m+1:=⟨k-1,by omega⟩
    obtain⟨e,b0,b1⟩:=fQ (s:=s) h0 (by omega) (by omega)
    obtain⟨c0,c1⟩:=bt_range s i
    simp only[spec_ReadFixed.l0]
    rw[if_pos (by omega),if_pos h0,if_pos (by omega),w64 (n:=bt s i) (by omega) (by omega),w64 (n:=_*256) (by omega) (by omega),w64 (n:=_+bt s i) (by omega) (by omega),w64 (n:=i+1) (by omega) (by omega),←e]
    have:=ih k (i+1) (by omega) (by omega) (by omega)
    rwa [show(i+1).toNat=i.toNat+1 by omega]at this
theorem aA (s:ByteArray) (w:Int) (k:Nat) (hk:8<k):spec_ReadFixed.f k s w=some (aV s w):=by
  unfold spec_ReadFixed.f aV
  rw[ac];simp only[Option.bind_some,decide_eq_true_eq]
  obtain⟨k,rfl⟩:∃m,k=m+1:=⟨k-1,by omega⟩
  by_cases h:1≤w∧w≤7
  · rw[if_pos h]
    simp only[spec_ReadFixed.j0,decide_eq_true_eq]
    by_cases h2:(s.size:Int)<w
    · rw[if_pos h2,if_neg (by omega)]
    · rw[if_neg h2,if_pos (by omega)]
      have:=bV s w h.2 (by omega) w.toNat k 0 (by omega) (by omega) (by omega)
      exact this
  · rw[if_neg h,if_neg (by omega)]
    simp only[spec_ReadFixed.j0];rfl
theorem b5 (s:ByteArray) (w:Int) (hw:w≤7) (hs:w≤(s.size:Int)):∀(d k:Nat) (i:Int),0≤i→i+d=w→d<k→
    impl_ReadFixed.l0 k s (be ((bytesOf s).take i.toNat)) w i=some (be ((bytesOf s).take w.toNat),true):=by
  intro d
  induction d with
  |zero=>
    intro k i h0 h1 hk
    obtain⟨k,rfl⟩:∃m,k=m+1:=⟨k-1,by omega⟩
    simp only[impl_ReadFixed.l0]
    rw[if_neg (by omega),show i=w by omega]
  |succ d ih=>
    intro k i h0 h1 hk
    obtain⟨k,rfl⟩:∃m,k=m+1:=⟨k-1,by omega⟩
    obtain⟨e,b0,b1⟩:=fQ (s:=s) h0 (by omega) (by omega)
    obtain⟨c0,c1⟩:=bt_range s i
    simp only[impl_ReadFixed.l0]
    rw[if_pos (by omega),if_pos h0,if_pos (by omega),w64 (n:=bt s i) (by omega) (by omega),w64 (n:=_*256) (by omega) (by omega),or_low b0 (by omega) (by omega) (by omega),w64 (n:=i+1) (by omega) (by omega),←e]
    have:=ih k (i+1) (by omega) (by omega) (by omega)
    rwa [show(i+1).toNat=i.toNat+1 by omega]at this
theorem az (s:ByteArray) (w:Int) (k:Nat) (hk:8<k):impl_ReadFixed.f k s w=some (aV s w):=by
  unfold impl_ReadFixed.f aV
  rw[ab];simp only[Option.bind_some,decide_eq_true_eq]
  obtain⟨k,rfl⟩:∃m,k=m+1:=⟨k-1,by omega⟩
  by_cases h:1≤w∧w≤7
  · rw[if_pos h]
    simp only[impl_ReadFixed.j0,decide_eq_true_eq]
    by_cases h2:(s.size:Int)<w
    · rw[if_pos h2,if_neg (by omega)]
    · rw[if_neg h2,if_pos (by omega)]
      have:=b5 s w h.2 (by omega) w.toNat k 0 (by omega) (by omega) (by omega)
      exact this
  · rw[if_neg h,if_neg (by omega)]
    simp only[impl_ReadFixed.j0];rfl
theorem fv {a b:ByteArray} {l:List Int} (hl:Byt l) (ha:a=strOfNums l):a.toList=b.toList↔l=bytesOf b:=by
  rw[toList_eq_iff,ha]
  constructor
  · intro h;rw[←h,bytesOf_strOfNums hl]
  · intro h;rw[h,strOfNums_bytesOf]
theorem br (s:ByteArray) (hs:s.size≤140737488351232) (k:Nat) (hk:21001<k):spec_Unframe.f k s=some (unfM s):=by
  obtain⟨k,rfl⟩:∃m,k=m+1:=⟨k-1,by omega⟩
  unfold spec_Unframe.f unfM
  rw[aA _ _ _ (by omega)]
  simp only[Option.bind_some]
  unfold aV
  by_cases h4:(s.size:Int)<4
  · rw[if_neg (show ¬(1≤(4:Int)∧(4:Int)≤7∧(4:Int)≤(s.size:Int)) by omega),if_neg (by decide),if_pos h4]
  · rw[if_pos (show 1≤(4:Int)∧(4:Int)≤7∧(4:Int)≤(s.size:Int) by omega),if_pos rfl,if_neg h4]
    simp only
    rw[show(4:Int).toNat=4 from rfl]
    obtain⟨b0,b1⟩:=be_bound ((bytesOf s).take 4) (byt_take (byt_bytesOf s) 4)
    have b2:((bytesOf s).take 4).length=4:=by rw[List.length_take,bytesOf_length];omega
    rw[b2]at b1
    generalize hn:be ((bytesOf s).take 4)=n at *
    simp only[spec_Unframe.j0]
    by_cases h0:n=0
    · rw[if_pos h0,if_pos trivial,if_neg (show ¬(1≤n∧n≤2000) by omega)]
    · rw[if_neg h0]
      by_cases h1:n>2000
      · rw[if_pos (by simpa using h1),if_neg (show ¬(1≤n∧n≤2000) by omega)]
      · rw[if_neg (by simpa using h1),if_pos (show 1≤n∧n≤2000 by omega),w64 (n:=8+n) (by omega) (by omega),show 8+n=n+8 by omega]
        by_cases h2:(s.size:Int)<n+8
        · rw[if_pos h2,if_pos h2]
        · have he:bytesOf (s.extract 8 (n+8).toNat)=((bytesOf s).take (n+8).toNat).drop 8:=bytesOf_extract _ _ _
          have hz:(s.extract 8 (n+8).toNat).size≤2000:=by rw[size_bytes,he,List.length_drop,List.length_take];omega
          rw[if_neg h2,if_neg h2,if_pos (show 8≤n+8 by omega),if_pos (show n+8≤(s.size:Int) by omega),cm _ (by omega) _ (by omega)]
          simp only[Option.bind_some]
          have hq:=fv (b:=s.extract 0 (n+8).toNat) (frameM_byt (byt_bytesOf (s.extract 8 (n+8).toNat))) rfl
          rw[bytesOf_extract s 0,List.drop_zero]at hq
          rw[if_pos (show 0≤n+8 by omega)]
          rw[he]at hq ⊢
          simp only[hq]
          split<;>rfl
theorem eS {a b:ByteArray} {l:List Int} (hl:Byt l) (ha:a=strOfNums l):a.toList=b.toList↔l=bytesOf b:=by
  rw[toList_eq_iff,ha]
  constructor
  · intro h;rw[←h,bytesOf_strOfNums hl]
  · intro h;rw[h,strOfNums_bytesOf]
theorem bn (s:ByteArray) (hs:s.size≤140737488351232) (k:Nat) (hk:21001<k):impl_Unframe.f k s=some (unfM s):=by
  unfold impl_Unframe.f unfM
  rw[az _ _ _ (by omega)]
  simp only[Option.bind_some]
  unfold aV
  by_cases h4:(s.size:Int)<4
  · rw[if_neg (show ¬(1≤(4:Int)∧(4:Int)≤7∧(4:Int)≤(s.size:Int)) by omega),if_neg (by decide),if_pos h4]
  · rw[if_pos (show 1≤(4:Int)∧(4:Int)≤7∧(4:Int)≤(s.size:Int) by omega),if_pos rfl,if_neg h4]
    simp only
    rw[show(4:Int).toNat=4 from rfl]
    obtain⟨b0,b1⟩:=be_bound ((bytesOf s).take 4) (byt_take (byt_bytesOf s) 4)
    have b2:((bytesOf s).take 4).length=4:=by rw[List.length_take,bytesOf_length];omega
    rw[b2]at b1
    generalize hn:be ((bytesOf s).take 4)=n at *
    rw[ab]
    simp only[Option.bind_some,decide_eq_true_eq]
    by_cases h0:1≤n∧n≤2000
    · rw[if_pos h0,if_pos h0,w64 (n:=n+8) (by omega) (by omega)]
      · by_cases h2:(s.size:Int)<n+8
        · rw[if_pos h2,if_pos h2]
        · have he:bytesOf (s.extract 8 (n+8).toNat)=((bytesOf s).take (n+8).toNat).drop 8:=bytesOf_extract _ _ _
          have hz:(s.extract 8 (n+8).toNat).size≤2000:=by rw[size_bytes,he,List.length_drop,List.length_take];omega
          rw[if_neg h2,if_neg h2,if_pos (show 8≤n+8 by omega),if_pos (show n+8≤(s.size:Int) by omega),cr _ (by omega) _ (by omega)]
          simp only[Option.bind_some]
          have hq:=eS (b:=s.extract 0 (n+8).toNat) (frameM_byt (byt_bytesOf (s.extract 8 (n+8).toNat))) rfl
          rw[bytesOf_extract s 0,List.drop_zero]at hq
          rw[if_pos (show 0≤n+8 by omega)]
          rw[he]at hq ⊢
          simp only[hq]
          split<;>rfl
    · rw[if_neg h0,if_neg h0]
theorem dg (s:ByteArray) (hs:s.size≤1048576):∀(f k:Nat) (a:Int) (xs:List ByteArray),0≤a→a≤(s.size:Int)→(s.size:Int)-a<f→xs.length+f<8796093022208→22000+f<k→
    spec_Frames.l0 k s xs a=some (xs++(frs f s a).1,(frs f s a).2):=by
  intro f
  induction f with
  |zero=>intro k a xs h0 h1 h2;omega
  |succ f ih=>
    intro k a xs h0 h1 h2 hx hk
    obtain⟨k,rfl⟩:∃m,k=m+1:=⟨k-1,by omega⟩
    have hz:=extract_size s a.toNat (by omega)
    simp only[spec_Frames.l0,frs]
    by_cases he:a<(s.size:Int)
    · rw[if_pos he,if_pos h0,if_pos h1,br _ (by omega) _ (by omega)]
      simp only[Option.bind_some]
      by_cases hc:(unfM (s.extract a.toNat s.size)).2.2=0
      · obtain⟨n0,n1,n2⟩:=unfM_ok hc
        rw[hz]at n2
        rw[if_pos hc,if_pos hc,if_pos (by omega),w64 (by omega) (by omega),ih k _ _ (by omega) (by omega) (by omega) (by simp;omega) (by omega)]
        simp
      · rw[if_neg hc,if_neg hc];simp
    · have hc:¬(unfM (s.extract a.toNat s.size)).2.2=0:=by rw[unfM_end (by omega)];decide
      rw[if_neg he,if_neg hc];simp
def frM (s:ByteArray):List ByteArray×Int:=frs (s.size+1) s 0
theorem er (s:ByteArray) (hs:s.size≤1048576) (k:Nat) (hk:1100000<k):spec_Frames.f k s=some (frM s):=by
  unfold spec_Frames.f frM
  rw[dg s hs (s.size+1) k 0 [] (by omega) (by omega) (by omega) (by simp;omega) (by omega)];simp
theorem fD:∀(f:Nat) (s:ByteArray) (a:Int),(frs f s a).1.length≤f:=by
  intro f
  induction f with
  |zero=>intro s a;simp[frs]
  |succ f ih=>
    intro s a
    simp only[frs]
    split
    · have:=ih s (a+(unfM (s.extract a.toNat s.size)).2.1);simp;exact this
    · simp
theorem dq (s:ByteArray) (hs:s.size≤140737488351232):∀(f k:Nat) (a:Int) (xs:List ByteArray),0≤a→a≤(s.size:Int)→(s.size:Int)-a<f→xs.length+f<8796093022208→22000+f<k→
    impl_Frames.l0 k s xs a=some (xs++(frs f s a).1,(frs f s a).2):=by
  intro f
  induction f with
  |zero=>intro k a xs h0 h1 h2;omega
  |succ f ih=>
    intro k a xs h0 h1 h2 hx hk
    obtain⟨k,rfl⟩:∃m,k=m+1:=⟨k-1,by omega⟩
    have hz:=extract_size s a.toNat (by omega)
    simp only[impl_Frames.l0,frs]
    rw[if_pos h0,if_pos h1,bn _ (by omega) _ (by omega)]
    simp only[Option.bind_some]
    by_cases hc:(unfM (s.extract a.toNat s.size)).2.2=0
    · obtain⟨n0,n1,n2⟩:=unfM_ok hc
      rw[hz]at n2
      rw[if_pos hc,if_pos hc,if_pos (by omega),w64 (by omega) (by omega),ih k _ _ (by omega) (by omega) (by omega) (by simp;omega) (by omega)]
      simp
    · rw[if_neg hc,if_neg hc];simp
theorem ei (s:ByteArray) (hs:s.size≤1048576) (k:Nat) (hk:1100000<k):impl_Frames.f k s=some (frs (s.size+1) s 0):=by
  unfold impl_Frames.f
  rw[dq s (by omega) (s.size+1) k 0 [] (by omega) (by omega) (by omega) (by simp;omega) (by omega)];simp
theorem a6 (i t:Int):spec_l5Based.f i t=some (placeM i t):=by
  unfold spec_l5Based.f placeM
  simp only[ac,Option.bind_some,decide_eq_true_eq]
  repeat' split
  all_goals (congr 1;rw[Bool.eq_iff_iff];simp only[decide_eq_true_eq,Bool.and_eq_true,beq_iff_eq,true_iff,Bool.false_eq_true,false_iff,iff_true,iff_false];omega)
theorem aE (a:Int):impl_isTerm.f a=some (decide (1≤a∧a≤100000)):=by
  unfold impl_isTerm.f;rw[ab];rfl
theorem bi (a:Int):impl_isVote.f a=some (decide (-1≤a∧a≤4)):=by
  unfold impl_isVote.f;rw[ab];rfl
theorem a8 (i t:Int):impl_isPlace.f i t=some (placeM i t):=by
  unfold impl_isPlace.f placeM
  simp only[ab,aE,Option.bind_some,decide_eq_true_eq]
  repeat' split
  all_goals (congr 1;rw[Bool.eq_iff_iff];simp only[decide_eq_true_eq,Bool.and_eq_true,beq_iff_eq,true_iff,Bool.false_eq_true,false_iff,iff_true,iff_false];omega)
theorem bq (k t i v:Int) (d:ByteArray):spec_RecOk.f k t i v d=some (recOkM k t i v d.size):=by
  unfold spec_RecOk.f recOkM
  simp only[ac,a6,Option.bind_some,decide_eq_true_eq,toList_nil]
  repeat' split
  all_goals (first|rfl|(exfalso;omega)|(congr 1;(try simp only[placeM,decide_eq_true_eq]at *);rw[Bool.eq_iff_iff];(try simp only[decide_eq_true_eq,Bool.and_eq_true,beq_iff_eq,true_iff,Bool.false_eq_true,false_iff,iff_true,iff_false]);omega))
theorem bp (k t i v:Int) (d:ByteArray):impl_RecOk.f k t i v d=some (recOkM k t i v d.size):=by
  unfold impl_RecOk.f recOkM
  simp only[ab,aE,bi,a8,Option.bind_some,decide_eq_true_eq,toList_nil]
  repeat' split
  all_goals (first|rfl|(exfalso;omega)|(congr 1;(try simp only[placeM,decide_eq_true_eq]at *);rw[Bool.eq_iff_iff];(try simp only[decide_eq_true_eq,Bool.and_eq_true,beq_iff_eq,true_iff,Bool.false_eq_true,false_iff,iff_true,iff_false]);omega))
def ah (k t i v:Int) (d:ByteArray):List Int:=if recOkM k t i v d.size then[k]++bX t++bX i++bX (v+1)++bytesOf d else[]
theorem eO (k t i v:Int) (d:ByteArray):Byt (ah k t i v d):=by
  unfold ah
  split
  · rename_i h
    have hk:0≤k∧k<256:=by
      unfold recOkM at h
      repeat' split at h
      all_goals (first|omega|simp at h)
    exact byt_append.2 ⟨byt_append.2 ⟨byt_append.2 ⟨byt_append.2 ⟨byt_cons.2 ⟨hk,byt_nil⟩,a9 _⟩,a9 _⟩,a9 _⟩,byt_bytesOf _⟩
  · exact byt_nil
theorem ag (n:Int):(bX n).length≤7:=by
  unfold bX;split
  · exact varN_length 6 _ (by omega)
  · simp
theorem cL {k t i v:Int} {n:Nat} (h:recOkM k t i v n=true):(k=1∨k=2∨k=3∨k=4)∧n≤900∧-1≤v∧v≤4:=by
  unfold recOkM at h
  split at h
  · simp at h;omega
  · split at h
    · simp at h;omega
    · split at h
      · simp at h;omega
      · split at h
        · simp at h;omega
        · simp at h
theorem d4 (k t i v:Int) (d:ByteArray) (f:Nat) (hf:8<f):spec_ShowRec.f f k t i v d=some (strOfNums (ah k t i v d)):=by
  unfold spec_ShowRec.f ah
  rw[bq]
  simp only[Option.bind_some]
  by_cases h:recOkM k t i v d.size=true
  · obtain⟨hk,hn,hv,hv2⟩:=cL h
    have l1:=ag t
    have l2:=ag i
    have l3:=ag (v+1)
    rw[if_pos h,if_pos h,aO _ _ hf,aO _ _ hf,aO _ _ hf,w64 (by omega) (by omega)]
    simp only[Option.bind_some,ByteArray.size_append,size_strOfNums,List.length_cons,List.length_nil]
    rw[if_pos (by omega),if_pos (by omega),if_pos (by omega),if_pos (by omega),show k%256=k by omega]
    congr 1
    rw[strOfNums_append,strOfNums_append,strOfNums_append]
    conv=>lhs;rw[←strOfNums_bytesOf d]
    rw[strOfNums_append]
  · rw[if_neg h,if_neg h];rfl
theorem dw (k t i v:Int) (d:ByteArray) (f:Nat) (hf:8<f):impl_ShowRec.f f k t i v d=some (strOfNums (ah k t i v d)):=by
  unfold impl_ShowRec.f ah
  rw[bp]
  simp only[Option.bind_some]
  by_cases h:recOkM k t i v d.size=true
  · obtain⟨hk,hn,hv,hv2⟩:=cL h
    have l1:=ag t
    have l2:=ag i
    have l3:=ag (v+1)
    rw[if_pos h,if_pos h,b4 _ _ hf,b4 _ _ hf,b4 _ _ hf,w64 (by omega) (by omega)]
    simp only[Option.bind_some,ByteArray.size_append,size_strOfNums,List.length_cons,List.length_nil]
    rw[if_pos (by omega),if_pos (by omega),if_pos (by omega),if_pos (by omega),show k%256=k by omega]
    congr 1
    rw[strOfNums_append,strOfNums_append,strOfNums_append]
    conv=>lhs;rw[←strOfNums_bytesOf d]
    rw[strOfNums_append]
  · rw[if_neg h,if_neg h];rfl
theorem eR {b:Int} {t:List Int} (hb:Byt (b::t)) (h:b≥128) (ht:varN (le7 t)=t) (hne:le7 t≠0):varN (le7 (b::t))=b::t:=by
  obtain⟨⟨h0,h1⟩,_⟩:=byt_cons.1 hb
  rw[le7,varN_ge (by omega)]
  congr 1
  · omega
  · rw[show((b%128).toNat+128*le7 t)/128=le7 t by omega,ht]
theorem bW (n:Nat):∃(a:List Int) (c:Int),varN n=a ++ [c]∧(∀x∈a,x≥128)∧c<128∧(a = []∨c≠0):=by
  induction n using Nat.strongRecOn with
  | _ n ih=>
    by_cases h:n<128
    · exact⟨[],(n:Int),by rw[varN_lt h];rfl,by simp,by omega,.inl rfl⟩
    · obtain⟨a,c,h1,h2,h3,h4⟩:=ih (n/128) (by omega)
      refine⟨((n%128+128:Nat):Int)::a,c,by rw[varN_ge h,h1];rfl,?_,h3,.inr ?_⟩
      · intro x hx
        rcases List.mem_cons.1 hx with rfl|hx
        · omega
        · exact h2 x hx
      · rcases h4 with rfl|h4
        · have h5:varN (n/128) = [c]:=h1
          have h6:=le7_varN (n/128)
          rw[h5]at h6
          intro hc
          rw[hc]at h6
          simp[le7]at h6
          omega
        · exact h4
theorem ey:∀(a:List Int) (c:Int),Byt (a ++ [c])→(∀x∈a,x≥128)→c<128→(a = []∨c≠0)→varN (le7 (a ++ [c]))=a ++ [c]
  | [],c,hb,_,hc,_=>by
    obtain⟨⟨h0,h1⟩,_⟩:=byt_cons.1 hb
    have:le7 ([] ++ [c])=c.toNat:=by simp[le7];omega
    rw[this,varN_lt (by omega)]
    simp;omega
  |b::a,c,hb,ha,hc,h0=>by
    have hc0:c≠0:=by
      rcases h0 with h0|h0
      · cases h0
      · exact h0
    have hb2:=(byt_cons.1 hb).2
    have ih:=ey a c hb2 (fun x hx=>ha x (List.mem_cons_of_mem _ hx)) hc (.inr hc0)
    refine eR hb (ha b (List.mem_cons_self)) ih (fun h=>?_)
    have h7:varN 0=a ++ [c]:=by rw[←h];exact ih
    rw[varN_lt (by omega)]at h7
    cases a with
    |nil=>simp at h7;omega
    |cons x y=>simp at h7
theorem fl {a a':List Int} {c c':Int} (h:a ++ [c]=a' ++ [c']):a=a'∧c=c':=by
  have:=List.append_inj' h rfl
  exact⟨this.1,by simpa using this.2⟩
theorem eT:∀(l:List Int) (b:Int),le7 (l ++ [b])=le7 l+128 ^ l.length*(b%128).toNat
  | [],b=>by simp[le7]
  |x::l,b=>by
    rw[List.cons_append,le7,eT l b,le7,List.length_cons,pow128,Nat.mul_add]
    have:128*(128 ^ l.length*(b%128).toNat)=128 ^ l.length*128*(b%128).toNat:=by
      rw[←Nat.mul_assoc,Nat.mul_comm 128 (128 ^ l.length)]
    omega
theorem aM (s:ByteArray) (x4:Int) (h4:x4≤7) (h5:x4≤(s.size:Int)):∀(d k:Nat) (i:Int),-1≤i→i+1=d→d≤x4→d<k→
    spec_ReadVar.l1 k s x4 (le7 (((bytesOf s).take x4.toNat).drop d):Int) i =
      (spec_Var.f (k-d-1) (le7 ((bytesOf s).take x4.toNat):Int)).bind fun t111=>(if 0≤x4 then(if x4≤(s.size:Int)then(if t111.toList=(s.extract 0 (x4:Int).toNat).toList then(some ((le7 ((bytesOf s).take x4.toNat):Int),x4))else(spec_ReadVar.l0 (k-d-1) s (wrap64 (x4+1))))else(none))else(none)):=by
  intro d
  induction d with
  |zero=>
    intro k i h0 h1 h2 hk
    obtain⟨k,rfl⟩:∃m,k=m+1:=⟨k-1,by omega⟩
    simp only[spec_ReadVar.l1]
    rw[if_neg (by omega),List.drop_zero]
    simp
  |succ d ih=>
    intro k i h0 h1 h2 hk
    obtain⟨k,rfl⟩:∃m,k=m+1:=⟨k-1,by omega⟩
    have hi:i=d:=by omega
    subst hi
    obtain⟨c0,c1⟩:=bt_range s (d:Int)
    have hd:((bytesOf s).take x4.toNat).drop d=bt s (d:Int)::((bytesOf s).take x4.toNat).drop (d+1):=by
      have hlt:d<((bytesOf s).take x4.toNat).length:=by rw[List.length_take,bytesOf_length];omega
      rw[List.drop_eq_getElem_cons hlt]
      congr 1
      have h3:=bt_get (s:=s) (i:=(d:Int)) (by omega) (by omega)
      rw[show((d:Int)).toNat=d by omega]at h3
      rw[List.getElem_take]
      exact Option.some.inj ((List.getElem?_eq_getElem _).symm.trans h3)
    have hb:=le7_bound (((bytesOf s).take x4.toNat).drop (d+1))
    have hl:(((bytesOf s).take x4.toNat).drop (d+1)).length≤6:=by rw[List.length_drop,List.length_take];omega
    have hb2:le7 (((bytesOf s).take x4.toNat).drop (d+1))<128 ^ 6:=Nat.lt_of_lt_of_le hb (Nat.pow_le_pow_right (by omega) hl)
    simp only[spec_ReadVar.l1]
    rw[if_pos (by omega),if_pos (by omega),if_pos (by omega),w64 (n:=bt s (d:Int)) (by omega) (by omega),tmod_nn c0,w64 (n:=_*128) (by omega) (by omega),w64 (n:=_+_) (by omega) (by omega),w64 (n:=(d:Int)-1) (by omega) (by omega)]
    have e:((le7 (((bytesOf s).take x4.toNat).drop (d+1)):Int)*128+bt s (d:Int)%128)=(le7 (((bytesOf s).take x4.toNat).drop d):Int):=by
      rw[hd,le7];omega
    rw[e,ih k ((d:Int)-1) (by omega) (by omega) (by omega) (by omega),show k+1-(d+1)-1=k-d-1 by omega]
theorem cn (s:ByteArray) (p:Nat) (hp:p<s.size) (hlow:bt s (p:Int)<128):∀(d k:Nat) (x4:Int),(p:Int)+1<x4→x4+d=8→30*d+30<k→
    spec_ReadVar.l0 k s x4=some (0,0):=by
  intro d
  induction d with
  |zero=>
    intro k x4 h0 h1 hk
    obtain⟨k,rfl⟩:∃m,k=m+2:=⟨k-2,by omega⟩
    simp only[spec_ReadVar.l0]
    rw[if_neg (by omega)]
    simp only[spec_ReadVar.j1];rfl
  |succ d ih=>
    intro k x4 h0 h1 hk
    obtain⟨k,rfl⟩:∃m,k=m+2:=⟨k-2,by omega⟩
    simp only[spec_ReadVar.l0]
    rw[if_pos (by omega)]
    simp only[spec_ReadVar.j1,decide_eq_true_eq]
    by_cases hs:x4≤(s.size:Int)
    · rw[if_pos hs,w64 (n:=x4-1) (by omega) (by omega)]
      have h9:=aM s x4 (by omega) hs x4.toNat k (x4-1) (by omega) (by omega) (by omega) (by omega)
      rw[List.drop_of_length_le (by rw[List.length_take];omega)]at h9
      rw[show((le7 ([]:List Int):Nat):Int)=0 from rfl]at h9
      rw[h9,aO _ _ (by omega)]
      simp only[Option.bind_some]
      have hb:=le7_bound ((bytesOf s).take x4.toNat)
      have hl:((bytesOf s).take x4.toNat).length≤7:=by rw[List.length_take];omega
      have hb2:le7 ((bytesOf s).take x4.toNat)<128 ^ 7:=Nat.lt_of_lt_of_le hb (Nat.pow_le_pow_right (by omega) hl)
      rw[if_pos (by omega),if_pos hs,if_neg,w64 (n:=x4+1) (by omega) (by omega),ih _ _ (by omega) (by omega) (by omega)]
      rw[toList_eq_iff]
      intro h
      have h:=congrArg bytesOf h
      rw[bytesOf_strOfNums (a9 _),bytesOf_extract,List.drop_zero]at h
      unfold bX at h
      rw[if_pos (by omega)]at h
      obtain⟨a,c,g1,g2,g3,g4⟩:=bW (le7 ((bytesOf s).take x4.toNat))
      rw[show((le7 ((bytesOf s).take x4.toNat):Nat):Int).toNat=le7 ((bytesOf s).take x4.toNat) by omega,g1]at h
      have hlen:a.length+1=x4.toNat:=by
        have:=congrArg List.length h
        rw[List.length_append,List.length_take,bytesOf_length]at this
        simp at this;omega
      have h3:=bt_get (s:=s) (i:=(p:Int)) (by omega) (by omega)
      rw[show((p:Int)).toNat=p by omega]at h3
      have h4:((bytesOf s).take x4.toNat)[p]? = some (bt s (p:Int)):=by rw[List.getElem?_take_of_lt (by omega)];exact h3
      rw[←h,List.getElem?_append_left (by omega)]at h4
      have:=g2 _ (List.mem_of_getElem? h4)
      omega
    · rw[if_neg hs]
theorem cP (s:ByteArray):∀(d k:Nat) (x4:Int),1≤x4→x4+d=8→(∀j:Nat,j+1<x4→j<s.size→bt s (j:Int)≥128)→(x4-1≤(s.size:Int))→30*d+60<k→
    spec_ReadVar.l0 k s x4=some (rv ((bytesOf s).drop (x4-1).toNat) (x4-1).toNat (le7 ((bytesOf s).take (x4-1).toNat))):=by
  intro d
  induction d with
  |zero=>
    intro k x4 h0 h1 hj hsz hk
    obtain⟨k,rfl⟩:∃m,k=m+2:=⟨k-2,by omega⟩
    simp only[spec_ReadVar.l0]
    rw[if_neg (by omega)]
    simp only[spec_ReadVar.j1]
    cases(bytesOf s).drop (x4-1).toNat with
    |nil=>rfl
    |cons b t=>rw[rv,if_neg (show ¬(x4-1).toNat<7 by omega)];rfl
  |succ d ih=>
    intro k x4 h0 h1 hj hsz hk
    obtain⟨k,rfl⟩:∃m,k=m+2:=⟨k-2,by omega⟩
    simp only[spec_ReadVar.l0]
    rw[if_pos (by omega)]
    simp only[spec_ReadVar.j1,decide_eq_true_eq]
    by_cases hs:x4≤(s.size:Int)
    · rw[if_pos hs,w64 (n:=x4-1) (by omega) (by omega)]
      have h9:=aM s x4 (by omega) hs x4.toNat k (x4-1) (by omega) (by omega) (by omega) (by omega)
      rw[List.drop_of_length_le (by rw[List.length_take];omega)]at h9
      rw[show((le7 ([]:List Int):Nat):Int)=0 from rfl]at h9
      rw[h9,aO _ _ (by omega)]
      simp only[Option.bind_some]
      have hb:=le7_bound ((bytesOf s).take x4.toNat)
      have hl:((bytesOf s).take x4.toNat).length≤7:=by rw[List.length_take];omega
      have hb2:le7 ((bytesOf s).take x4.toNat)<128 ^ 7:=Nat.lt_of_lt_of_le hb (Nat.pow_le_pow_right (by omega) hl)
      have hlt:x4-1<(s.size:Int):=by omega
      have ht:=bt_take (s:=s) (i:=x4-1) (by omega) hlt
      rw[show(x4-1).toNat+1=x4.toNat by omega]at ht
      have hdr:=bt_drop (s:=s) (i:=x4-1) (by omega) hlt
      obtain⟨c0,c1⟩:=bt_range s (x4-1)
      rw[if_pos (by omega),if_pos hs,w64 (n:=x4+1) (by omega) (by omega),hdr,rv,if_pos (show(x4-1).toNat<7 by omega)]
      have hle:le7 ((bytesOf s).take x4.toNat)=le7 ((bytesOf s).take (x4-1).toNat)+128 ^ (x4-1).toNat*(bt s (x4-1)%128).toNat:=by
        rw[ht,eT,List.length_take,bytesOf_length,Nat.min_eq_left (by omega)]
      have hlei:(le7 ((bytesOf s).take x4.toNat):Int)=le7 ((bytesOf s).take (x4-1).toNat)+bt s (x4-1)%128*128 ^ (x4-1).toNat:=by
        rw[hle];push_cast;rw[Int.mul_comm,show(((bt s (x4-1)%128).toNat:Nat):Int)=bt s (x4-1)%128 by omega]
      have heq:(strOfNums (bX (le7 ((bytesOf s).take x4.toNat):Int))).toList=(s.extract 0 x4.toNat).toList↔varN (le7 ((bytesOf s).take x4.toNat))=(bytesOf s).take x4.toNat:=by
        rw[toList_eq_iff]
        have hv:bX (le7 ((bytesOf s).take x4.toNat):Int)=varN (le7 ((bytesOf s).take x4.toNat)):=by
          unfold bX;rw[if_pos (by omega),show((le7 ((bytesOf s).take x4.toNat):Nat):Int).toNat=le7 ((bytesOf s).take x4.toNat) by omega]
        constructor
        · intro h
          have h:=congrArg bytesOf h
          rwa [bytesOf_strOfNums (a9 _),bytesOf_extract,List.drop_zero,hv]at h
        · intro h
          apply bytesOf_inj
          rw[bytesOf_strOfNums (a9 _),bytesOf_extract,List.drop_zero,hv,h]
      have hall:∀x∈(bytesOf s).take (x4-1).toNat,x≥128:=by
        intro x hx
        obtain⟨j,hj1,hj2⟩:=List.mem_iff_getElem.1 hx
        rw[List.length_take,bytesOf_length]at hj1
        have h3:=bt_get (s:=s) (i:=(j:Int)) (by omega) (by omega)
        rw[show((j:Int)).toNat=j by omega]at h3
        rw[List.getElem_take]at hj2
        have h6:x=bt s (j:Int):=by rw[←hj2];exact Option.some.inj ((List.getElem?_eq_getElem _).symm.trans h3)
        rw[h6]
        exact hj j (by omega) (by omega)
      have hbyt:Byt ((bytesOf s).take (x4-1).toNat ++ [bt s (x4-1)]):=by rw[←ht];exact byt_take (byt_bytesOf s) _
      by_cases hhi:bt s (x4-1)≥128
      · rw[if_pos hhi,if_neg,ih _ _ (by omega) (by omega) ?_ (by omega) (by omega),show(x4+1-1).toNat=x4.toNat by omega,←hlei,show(x4-1).toNat+1=x4.toNat by omega]
        · intro j hj1 hj2
          by_cases hjx:(j:Int)+1<x4
          · exact hj j hjx hj2
          · have:(j:Int)=x4-1:=by omega
            rw[this];exact hhi
        · rw[heq,ht]
          intro h
          obtain⟨a,c,g1,g2,g3,g4⟩:=bW (le7 ((bytesOf s).take (x4-1).toNat ++ [bt s (x4-1)]))
          rw[g1]at h
          have:=(fl h).2
          omega
      · rw[if_neg hhi]
        by_cases hz:bt s (x4-1)=0∧(x4-1).toNat>0
        · rw[if_pos hz,if_neg]
          · by_cases hd:d=0
            · subst hd
              obtain⟨q,hq⟩:∃m,k-x4.toNat-1=m+2:=⟨k-x4.toNat-3,by omega⟩
              rw[hq]
              simp only[spec_ReadVar.l0]
              rw[if_neg (by omega)]
              simp only[spec_ReadVar.j1];rfl
            · exact cn s (x4-1).toNat (by omega) (by rw[show(((x4-1).toNat:Nat):Int)=x4-1 by omega];omega) d _ _ (by omega) (by omega) (by omega)
          · rw[heq,ht]
            intro h
            obtain⟨a,c,g1,g2,g3,g4⟩:=bW (le7 ((bytesOf s).take (x4-1).toNat ++ [bt s (x4-1)]))
            rw[g1]at h
            obtain⟨k1,k2⟩:=fl h
            rcases g4 with g4|g4
            · rw[g4]at k1
              have:=congrArg List.length k1
              rw[List.length_take,bytesOf_length]at this
              simp at this
              omega
            · omega
        · rw[if_neg hz,if_pos,hlei]
          · congr 1;congr 1;omega
          · rw[heq,ht]
            refine ey _ _ hbyt hall (by omega) ?_
            by_cases hx1:(x4-1).toNat=0
            · left;rw[hx1];rfl
            · right;intro h;exact hz ⟨h,by omega⟩
    · rw[if_neg hs,List.drop_of_length_le (by rw[bytesOf_length];omega)];rfl
theorem aL (s:ByteArray) (k:Nat) (hk:300<k):spec_ReadVar.f k s=some (rv (bytesOf s) 0 0):=by
  unfold spec_ReadVar.f
  have:=cP s 7 k 1 (by omega) (by omega) (fun j h=>by omega) (by omega) (by omega)
  exact this
theorem gx (d:Nat):(128:Int) ^ (d+1)=128 ^ d*128:=Int.pow_succ 128 d
theorem fB {b p q:Int} (b0:0≤b) (b1:b≤127) (hp:0≤p) (hq:p≤q):0≤b*p∧b*p≤127*q:=by
  refine⟨Int.mul_nonneg b0 hp,?_⟩
  exact Int.le_trans (Int.mul_le_mul_of_nonneg_right b1 hp) (by omega)
theorem cI (s:ByteArray):∀(d k:Nat) (i n:Int),0≤i→i+d=7→0≤n→n<128 ^ i.toNat→2*d+2<k→
    impl_ReadVar.l0 k s n i=some (rv ((bytesOf s).drop i.toNat) i.toNat n):=by
  intro d
  induction d with
  |zero=>
    intro k i n h0 h1 n0 n1 hk
    obtain⟨k,rfl⟩:∃m,k=m+2:=⟨k-2,by omega⟩
    simp only[impl_ReadVar.l0]
    rw[if_neg (by omega)]
    simp only[impl_ReadVar.j1]
    cases(bytesOf s).drop i.toNat with
    |nil=>rfl
    |cons b t=>rw[rv,if_neg (show ¬i.toNat<7 by omega)];rfl
  |succ d ih=>
    intro k i n h0 h1 n0 n1 hk
    obtain⟨k,rfl⟩:∃m,k=m+2:=⟨k-2,by omega⟩
    simp only[impl_ReadVar.l0]
    rw[if_pos (by omega)]
    simp only[impl_ReadVar.j1,decide_eq_true_eq]
    by_cases hs:i<(s.size:Int)
    · obtain⟨c0,c1⟩:=bt_range s i
      have hp:(0:Int)<128 ^ i.toNat:=Int.pow_pos (by omega)
      have hq:(128:Int) ^ i.toNat≤4398046511104:=by
        have h:i=0∨i=1∨i=2∨i=3∨i=4∨i=5∨i=6:=by omega
        rcases h with rfl|rfl|rfl|rfl|rfl|rfl|rfl<;>decide
      obtain⟨m0,m1⟩:=fB (b:=bt s i%128) (by omega) (by omega) (Int.le_of_lt hp) (Int.le_refl _)
      rw[if_pos hs,if_pos h0,if_pos hs,w64 (n:=7*i) (by omega) (by omega),if_pos (by omega),tmod_nn c0,w64 (n:=bt s i%128) (by omega) (by omega),shl7 (by omega) (by omega) h0 (by omega),w64 (n:=n+_) (by omega) (by omega),w64 (n:=i+1) (by omega) (by omega),bt_drop h0 hs,rv,if_pos (show i.toNat<7 by omega)]
      by_cases hhi:bt s i≥128
      · rw[if_pos hhi,if_pos hhi,ih _ _ _ (by omega) (by omega) (by omega) (by rw[show(i+1).toNat=i.toNat+1 by omega,gx];omega) (by omega),show(i+1).toNat=i.toNat+1 by omega]
      · rw[if_neg hhi,if_neg hhi]
        have e1:i+1=((i.toNat+1:Nat):Int):=by omega
        have e2:i+1=((i.toNat:Nat):Int)+1:=by omega
        by_cases hz:bt s i=0
        · rw[if_pos hz]
          by_cases hi:i>0
          · rw[if_pos hi,if_pos ⟨hz,by omega⟩]
          · rw[if_neg hi,if_neg (by omega),e2]
        · rw[if_neg hz,if_neg (by omega),e2]
    · rw[if_neg hs,List.drop_of_length_le (by rw[bytesOf_length];omega)];rfl
theorem bu (s:ByteArray) (k:Nat) (hk:20<k):impl_ReadVar.f k s=some (rv (bytesOf s) 0 0):=by
  unfold impl_ReadVar.f
  exact cI s 7 k 0 0 (by omega) (by omega) (by omega) (by decide) (by omega)
theorem fh:∀(l:List Int) (i:Nat) (n:Int),Byt l→0≤n→n<128 ^ i→i≤7→0≤(rv l i n).1∧(rv l i n).1<562949953421312∧0≤(rv l i n).2∧(rv l i n).2≤(i:Int)+l.length∧(rv l i n).2≤7
  | [],i,n,_,_,_,_=>by simp[rv]
  |b::t,i,n,hb,h0,h1,hi=>by
    obtain⟨⟨b0,b1⟩,ht⟩:=byt_cons.1 hb
    unfold rv
    by_cases h7:i<7
    · rw[if_pos h7]
      have hp:(0:Int)<128 ^ i:=Int.pow_pos (by omega)
      have hm0:0≤b%128*128 ^ i:=Int.mul_nonneg (by omega) (by omega)
      have hm1:b%128*128 ^ i≤127*128 ^ i:=Int.mul_le_mul_of_nonneg_right (by omega) (by omega)
      have hs:(128:Int) ^ (i+1)=128 ^ i*128:=Int.pow_succ 128 i
      have hp7:(128:Int) ^ (i+1)≤562949953421312:=by
        have:i=0∨i=1∨i=2∨i=3∨i=4∨i=5∨i=6:=by omega
        rcases this with rfl|rfl|rfl|rfl|rfl|rfl|rfl<;>decide
      generalize b%128*128 ^ i=X at *
      split
      · have:=fh t (i+1) (n+X) ht (by omega) (by omega) (by omega)
        rw[List.length_cons]
        omega
      · split
        · simp;omega
        · simp only[List.length_cons];omega
    · rw[if_neg h7];simp;omega
def rvx (s:ByteArray) (o:Int):Int×Int:=rv (bytesOf (s.extract o.toNat s.size)) 0 0
theorem aB (s:ByteArray) (o:Int) (h0:0≤o) (h1:o≤(s.size:Int)):0≤(rvx s o).1∧(rvx s o).1<562949953421312∧0≤(rvx s o).2∧o+(rvx s o).2≤(s.size:Int)∧(rvx s o).2≤7:=by
  have:=fh (bytesOf (s.extract o.toNat s.size)) 0 0 (byt_bytesOf _) (by omega) (by simp) (by omega)
  have e:(bytesOf (s.extract o.toNat s.size)).length=s.size-o.toNat:=by rw[bytesOf_length,ByteArray.size_extract];omega
  rw[e]at this
  unfold rvx
  omega
theorem eA (s:ByteArray) (a b:Nat) (ha:a≤s.size):(s.extract a s.size).extract b (s.extract a s.size).size=s.extract (a+b) s.size:=bytesOf_inj (by
  have e:(s.extract a s.size).size=s.size-a:=by rw[ByteArray.size_extract];omega
  rw[bytesOf_extract,bytesOf_extract,bytesOf_extract,e]
  have e2:(bytesOf s).take s.size=bytesOf s:=List.take_of_length_le (by rw[bytesOf_length];omega)
  rw[e2,List.take_of_length_le (by rw[List.length_drop,bytesOf_length];omega),List.drop_drop])
def fY:Int×Int×Int×Int×ByteArray×Bool:=(0,0,0,0,(⟨#[]⟩:ByteArray),false)
def aa (s:ByteArray):Int×Int×Int×Int×ByteArray×Bool:=
  if s.size=0 then fY else if(rvx s 1).2=0 then fY else if(rvx s (1+(rvx s 1).2)).2=0 then fY else
  if(rvx s (1+(rvx s 1).2+(rvx s (1+(rvx s 1).2)).2)).2=0 then fY else
  if ah (bt s 0) (rvx s 1).1 (rvx s (1+(rvx s 1).2)).1 ((rvx s (1+(rvx s 1).2+(rvx s (1+(rvx s 1).2)).2)).1-1) (s.extract (1+(rvx s 1).2+(rvx s (1+(rvx s 1).2)).2+(rvx s (1+(rvx s 1).2+(rvx s (1+(rvx s 1).2)).2)).2).toNat s.size)=bytesOf s then
    (bt s 0,(rvx s 1).1,(rvx s (1+(rvx s 1).2)).1,(rvx s (1+(rvx s 1).2+(rvx s (1+(rvx s 1).2)).2)).1-1,s.extract (1+(rvx s 1).2+(rvx s (1+(rvx s 1).2)).2+(rvx s (1+(rvx s 1).2+(rvx s (1+(rvx s 1).2)).2)).2).toNat s.size,true)
  else fY
theorem de (k t i v:Int) (d:ByteArray):(ah k t i v d).length≤922:=by
  unfold ah
  split
  · rename_i h
    have:=cL h
    have l1:=ag t
    have l2:=ag i
    have l3:=ag (v+1)
    simp only[List.length_append,List.length_cons,List.length_nil,bytesOf_length]
    omega
  · simp
theorem cj (k t i v:Int) (d s:ByteArray):(strOfNums (ah k t i v d)).toList=s.toList↔ah k t i v d=bytesOf s:=by
  rw[toList_eq_iff]
  constructor
  · rintro rfl;rw[bytesOf_strOfNums (eO _ _ _ _ _)]
  · intro h;rw[h,strOfNums_bytesOf]
theorem bA (s:ByteArray) (hs:s.size≤140737488351232) (k:Nat) (hk:310≤k):spec_ReadRec.f k s=some (aa s):=by
  obtain⟨k,rfl⟩:∃m,k=m+1:=⟨k-1,by omega⟩
  unfold spec_ReadRec.f
  by_cases h0:s.size=0
  · rw[if_pos (by omega)]
    simp only[spec_ReadRec.j0,aa,if_pos h0];rfl
  · rw[if_neg (by omega)]
    simp only[spec_ReadRec.j0,decide_eq_true_eq]
    by_cases h1:(s.size:Int)>2000
    · rw[if_pos h1]
      unfold aa
      have h2:∀k t i v d,¬ah k t i v d=bytesOf s:=fun k t i v d h=>by
        have:=de k t i v d
        rw[h,bytesOf_length]at this
        omega
      rw[if_neg (h2 _ _ _ _ _)]
      simp only[ite_self];rfl
    · have hb0:=bt_range s 0
      rw[if_neg h1,if_pos (by omega),if_pos (by omega),aL _ _ (by omega)]
      simp only[Option.bind_some]
      unfold aa
      rw[if_neg h0,show rv (bytesOf (s.extract 1 s.size)) 0 0=rvx s 1 from rfl]
      have B1:=aB s 1 (by omega) (by omega)
      generalize rvx s 1=p1 at *
      rw[w64 (n:=1+p1.2) (by omega) (by omega),if_pos (by omega),if_pos (by omega),aL _ _ (by omega)]
      simp only[Option.bind_some]
      rw[show rv (bytesOf (s.extract (1+p1.2).toNat s.size)) 0 0=rvx s (1+p1.2)from rfl]
      have B2:=aB s (1+p1.2) (by omega) (by omega)
      generalize rvx s (1+p1.2)=p2 at *
      rw[w64 (n:=1+p1.2+p2.2) (by omega) (by omega),if_pos (by omega),if_pos (by omega),aL _ _ (by omega)]
      simp only[Option.bind_some]
      rw[show rv (bytesOf (s.extract (1+p1.2+p2.2).toNat s.size)) 0 0=rvx s (1+p1.2+p2.2)from rfl]
      have B3:=aB s (1+p1.2+p2.2) (by omega) (by omega)
      generalize rvx s (1+p1.2+p2.2)=p3 at *
      rw[w64 (n:=1+p1.2+p2.2+p3.2) (by omega) (by omega),if_pos (by omega),if_pos (by omega)]
      by_cases z1:p1.2=0
      · rw[if_pos z1,if_pos z1];rfl
      · rw[if_neg z1,if_neg z1]
        by_cases z2:p2.2=0
        · rw[if_pos z2,if_pos z2];rfl
        · rw[if_neg z2,if_neg z2]
          by_cases z3:p3.2=0
          · rw[if_pos z3,if_pos z3];rfl
          · rw[if_neg z3,if_neg z3,w64 (n:=bt s 0) (by omega) (by omega),w64 (n:=p3.1-1) (by omega) (by omega),d4 _ _ _ _ _ _ (by omega)]
            simp only[Option.bind_some,cj]
            split<;>rfl
theorem av (s:ByteArray) (k:Nat) (hk:301≤k) (hs:s.size≤140737488351232):impl_reader_num.f k s false=some (0,s,false):=by
  unfold impl_reader_num.f
  rw[bu _ _ (by omega)]
  simp
theorem bb (s:ByteArray) (o:Int) (k:Nat) (hk:301≤k) (hs:s.size≤140737488351232) (h0:0≤o) (h1:o≤(s.size:Int)):impl_reader_num.f k (s.extract o.toNat s.size) true =
    some (if(rvx s o).2=0 then(0,s.extract o.toNat s.size,false)else((rvx s o).1,s.extract (o+(rvx s o).2).toNat s.size,true)):=by
  have e:(s.extract o.toNat s.size).size=s.size-o.toNat:=by rw[ByteArray.size_extract];omega
  unfold impl_reader_num.f
  rw[bu _ _ (by omega)]
  simp only[Option.bind_some]
  rw[if_pos trivial]
  have B:=aB s o h0 h1
  rw[show rv (bytesOf (s.extract o.toNat s.size)) 0 0=rvx s o from rfl]
  generalize rvx s o=p at *
  by_cases h:p.2=0
  · rw[if_neg (by omega),if_pos h];simp;omega
  · rw[if_pos (by omega),if_pos (by omega),if_pos (by rw[e];omega),if_neg h,eA _ _ _ (by omega),show(o+p.2).toNat=o.toNat+p.2.toNat by omega]
    simp;omega
theorem bG (s:ByteArray) (hs:s.size≤140737488351232) (k:Nat) (hk:310≤k):impl_ReadRec.f k s=some (aa s):=by
  unfold impl_ReadRec.f impl_reader_kind.f impl_reader_bytes.f
  rw[if_pos rfl]
  by_cases h0:s.size=0
  · rw[if_pos (by omega)]
    simp only[Option.bind_some]
    rw[if_pos (show(⟨#[]⟩:ByteArray).toList = [] by rw[ByteArray.toList_eq])]
    simp only[Option.bind_some]
    rw[av s k (by omega) hs]
    simp only[Option.bind_some]
    rw[av s k (by omega) hs]
    simp only[Option.bind_some]
    rw[av s k (by omega) hs]
    simp only[Option.bind_some,aa,if_pos h0]
    rfl
  · have hb0:=bt_range s 0
    have e1:(s.extract 0 (1:Int).toNat).size=1:=by rw[ByteArray.size_extract];omega
    have e2:bt (s.extract 0 (1:Int).toNat) 0=bt s 0:=by
      have h1:=bt_get (s:=s.extract 0 (1:Int).toNat) (i:=0) (by omega) (by omega)
      have h2:=bt_get (s:=s) (i:=0) (by omega) (by omega)
      rw[bytesOf_extract,List.drop_zero,List.getElem?_take_of_lt (by decide)]at h1
      exact Option.some.inj (h1.symm.trans h2)
    rw[if_neg (by omega),if_pos (by omega),if_pos (by omega)]
    simp only[Option.bind_some]
    rw[if_neg (fun h=>by
      rw[ByteArray.toList_eq]at h
      have:=congrArg List.length h
      rw[Array.length_toList]at this
      have e3:(s.extract 0 (1:Int).toNat).size=(s.extract 0 (1:Int).toNat).data.size:=rfl
      simp only[List.length_nil]at this
      omega),if_pos (by omega)]
    simp only[Option.bind_some]
    rw[e2,w64 (n:=bt s 0) (by omega) (by omega)]
    unfold aa
    rw[if_neg h0,bb s 1 k (by omega) hs (by omega) (by omega)]
    simp only[Option.bind_some]
    have B1:=aB s 1 (by omega) (by omega)
    generalize rvx s 1=p1 at *
    by_cases z1:p1.2=0
    · rw[if_pos z1,if_pos z1]
      have e4:(s.extract (1:Int).toNat s.size).size≤140737488351232:=by rw[ByteArray.size_extract];omega
      rw[av _ k (by omega) e4]
      simp only[Option.bind_some]
      rw[av _ k (by omega) e4]
      rfl
    · rw[if_neg z1,if_neg z1]
      simp only[]
      rw[bb s (1+p1.2) k (by omega) hs (by omega) (by omega)]
      simp only[Option.bind_some]
      have B2:=aB s (1+p1.2) (by omega) (by omega)
      generalize rvx s (1+p1.2)=p2 at *
      by_cases z2:p2.2=0
      · rw[if_pos z2,if_pos z2]
        have e4:(s.extract (1+p1.2).toNat s.size).size≤140737488351232:=by rw[ByteArray.size_extract];omega
        rw[av _ k (by omega) e4]
        rfl
      · rw[if_neg z2,if_neg z2]
        simp only[]
        rw[bb s (1+p1.2+p2.2) k (by omega) hs (by omega) (by omega)]
        simp only[Option.bind_some]
        have B3:=aB s (1+p1.2+p2.2) (by omega) (by omega)
        generalize rvx s (1+p1.2+p2.2)=p3 at *
        by_cases z3:p3.2=0
        · rw[if_pos z3,if_pos z3];rfl
        · rw[if_neg z3,if_neg z3]
          simp only[]
          rw[if_pos trivial,w64 (n:=p3.1-1) (by omega) (by omega),dw _ _ _ _ _ _ (by omega)]
          simp only[Option.bind_some,cj]
          split<;>rfl
def mT (n:Int):ByteArray:=strOfNums (109::decN n.toNat)
theorem gl:(⟨#[109]⟩:ByteArray)=strOfNums [109]:=by decide
theorem b8:∀(d k n:Nat) (l:List Int),n<10 ^ d→(0<n→True)→n≤4611686018427387904→l.length+d<90→d<k→
    laws_markText.l0 k (n:Int) (strOfNums l)=some (strOfNums (109::((if n=0 then[]else decN n)++l))):=by
  intro d
  induction d with
  |zero=>
    intro k n l n1 _ hd hl hk
    obtain⟨q,rfl⟩:∃m,k=m+1:=⟨k-1,by omega⟩
    have hn:n=0:=by omega
    simp only[laws_markText.l0]
    rw[if_neg (by omega),if_pos (by rw[size_strOfNums];omega),if_pos hn,gl,strOfNums_append];rfl
  |succ d ih=>
    intro k n l n1 _ hd hl hk
    obtain⟨q,rfl⟩:∃m,k=m+1:=⟨k-1,by omega⟩
    by_cases h0:n=0
    · simp only[laws_markText.l0]
      rw[if_neg (by omega),if_pos (by rw[size_strOfNums];omega),if_pos h0,gl,strOfNums_append];rfl
    · simp only[laws_markText.l0]
      rw[if_pos (by omega),tmod_nn (by omega),tdiv_nn (by omega),w64 (n:=48+(n:Int)%10) (by omega) (by omega),w64 (n:=(n:Int)/10) (by omega) (by omega)]
      simp only[Option.bind_some]
      rw[if_pos (by rw[size_strOfNums,size_strOfNums];simp;omega),strOfNums_append,show(n:Int)/10=((n/10:Nat):Int) by omega,ih q (n/10) _ (by rw[pow10]at n1;omega) (fun _=>trivial) (by omega) (by simp;omega) (by omega),if_neg h0]
      by_cases h:n<10
      · rw[if_pos (by omega),decN_lt h,show(48+(n:Int)%10)%256=48+(n:Int) by omega];simp
      · rw[if_neg (by omega),decN_ge h,show(48+(n:Int)%10)%256=48+((n%10:Nat):Int) by omega];simp
theorem af (n:Int) (h0:0<n) (h1:n≤4611686018427387904) (k:Nat) (hk:30<k):laws_markText.f k n=some (mT n):=by
  unfold laws_markText.f
  rw[if_neg (by omega)]
  have:=b8 19 k n.toNat [] (by omega) (fun _=>trivial) (by omega) (by simp) (by omega)
  rw[show((n.toNat:Nat):Int)=n by omega]at this
  rw[show(⟨#[]⟩:ByteArray)=strOfNums []from rfl,this,if_neg (by omega)];simp[mT]
theorem eK (a:List S115) (x:S115) (b:List S115):rd_T115 (a++x::b) (a.length:Int)=x:=by simp[rd_T115,List.getD]
theorem gz (a:List S115) (x y:S115) (b:List S115):(a++x::b).set ((a.length:Int)).toNat y=a++y::b:=by
  rw[show((a.length:Int)).toNat=a.length by omega,List.set_append_right _ _ (Nat.le_refl _),Nat.sub_self,List.set_cons_zero]
theorem dO (a0:Int) (a1:ByteArray):laws_eqEntry.f a0 a1 a0 a1=some true:=by unfold laws_eqEntry.f;simp
theorem cw (l:List S115) (hl:l.length≤1099511627776):∀(d k:Nat) (i:Int),0≤i→i+d=l.length→d<k→laws_eqEntryS.l0 k l l i=some true:=by
  intro d
  induction d with
  |zero=>
    intro k i h0 h1 hk
    obtain⟨q,rfl⟩:∃m,k=m+1:=⟨k-1,by omega⟩
    simp only[laws_eqEntryS.l0];rw[if_neg (by omega)]
  |succ d ih=>
    intro k i h0 h1 hk
    obtain⟨q,rfl⟩:∃m,k=m+1:=⟨k-1,by omega⟩
    simp only[laws_eqEntryS.l0]
    rw[if_pos (by omega),if_pos h0,if_pos (by omega),dO,w64 (n:=i+1) (by omega) (by omega)]
    simp only[Option.bind_some]
    rw[if_pos trivial,ih q (i+1) (by omega) (by omega) (by omega)]
theorem dh (l:List S115) (hl:l.length≤1099511627776) (k:Nat) (hk:l.length<k):laws_eqEntryS.f k l l=some true:=by
  unfold laws_eqEntryS.f;rw[if_pos rfl];exact cw l hl l.length k 0 (by omega) (by omega) hk
def bH (m:Int):S115:=⟨m,mT (m+1)⟩
def ae:Int→Nat→List S115
  | _,0=>[]
  |m,n+1=>bH m::ae (m+1+1) n
theorem aP:∀(n:Nat) (m:Int),(ae m n).length=n
  | 0,_=>rfl
  |n+1,m=>by simp[ae,aP n]
theorem bM:∀(b a:List S115) (k:Nat) (m:Int),0<m→m+2*b.length≤1099511627776→a.length+b.length≤1099511627776→b.length+40<k→
    laws_markEntryS.l0 k (a++b) m (a.length:Int)=some (m+2*b.length,a++ae m b.length):=by
  intro b
  induction b with
  |nil=>
    intro a k m h0 h1 h2 hk
    obtain⟨q,rfl⟩:∃m,k=m+1:=⟨k-1,by omega⟩
    simp only[laws_markEntryS.l0];rw[if_neg (by simp)];simp[ae]
  |cons x b ih=>
    intro a k m h0 h1 h2 hk
    simp only[List.length_cons]at h1 h2 hk
    obtain⟨q,rfl⟩:∃m,k=m+1:=⟨k-1,by omega⟩
    have e1:wrap64 (m+1)=m+1:=w64 (by omega) (by omega)
    have e2:wrap64 (m+1+1)=m+1+1:=w64 (by omega) (by omega)
    have t1:=af (m+1) (by omega) (by omega) q (by omega)
    simp only[laws_markEntryS.l0]
    rw[if_pos (by simp;omega)]
    rw[if_pos (by omega),w64 (n:=(a.length:Int)+1) (by omega) (by omega)]
    simp only[e1,e2,t1,Option.bind_some,gz,eK]
    have f:=ih (a ++ [bH m]) q (m+1+1) (by omega) (by omega) (by simp;omega) (by omega)
    rw[List.append_assoc,List.singleton_append,show(((a ++ [bH m]).length:Nat):Int)=(a.length:Int)+1 by simp]at f
    refine Eq.trans f ?_
    simp[ae];omega
theorem ch (l:List S115) (m:Int) (h0:0<m) (h1:m+2*l.length≤1099511627776) (k:Nat) (hk:l.length+40<k):laws_markEntryS.f k l m=some (m+2*l.length,ae m l.length):=by
  unfold laws_markEntryS.f
  have:=bM l [] k m h0 h1 (by simp;omega) hk
  simpa using this
theorem bI:∀(n:Nat) (a:List S115) (k:Nat) (m:Int),0<m→m+2*n≤1099511627776→a.length+n≤1099511627776→n+40<k→
    laws_heldEntryS.l0 k (a++ae m n) m (a.length:Int)=some (m+2*n):=by
  intro n
  induction n with
  |zero=>
    intro a k m h0 h1 h2 hk
    obtain⟨q,rfl⟩:∃m,k=m+1:=⟨k-1,by omega⟩
    simp only[laws_heldEntryS.l0];rw[if_neg (by simp[ae])];simp
  |succ n ih=>
    intro a k m h0 h1 h2 hk
    obtain⟨q,rfl⟩:∃m,k=m+1:=⟨k-1,by omega⟩
    have e1:wrap64 (m+1)=m+1:=w64 (by omega) (by omega)
    have e2:wrap64 (m+1+1)=m+1+1:=w64 (by omega) (by omega)
    have t1:=af (m+1) (by omega) (by omega) q (by omega)
    have f:=ih (a ++ [bH m]) q (m+1+1) (by omega) (by omega) (by simp;omega) (by omega)
    rw[List.append_assoc,List.singleton_append,show(((a ++ [bH m]).length:Nat):Int)=(a.length:Int)+1 by simp]at f
    have hl:(a++ae m (n+1)).length=a.length+(n+1):=by rw[List.length_append,aP]
    simp only[laws_heldEntryS.l0]
    rw[if_pos (by rw[hl];omega),if_pos (by omega),w64 (n:=(a.length:Int)+1) (by omega) (by omega),ae]
    simp only[e1,e2,t1,Option.bind_some,eK,bH,if_true]
    refine Eq.trans f ?_
    congr 1;omega
theorem ck (n:Nat) (m:Int) (h0:0<m) (h1:m+2*n≤1099511627776) (k:Nat) (hk:n+40<k):laws_heldEntryS.f k (ae m n) m=some (m+2*n):=by
  unfold laws_heldEntryS.f
  have:=bI n [] k m h0 h1 (by simp;omega) hk
  simpa using this
theorem gs (a:List S121) (x:S121) (b:List S121):rd_T121 (a++x::b) (a.length:Int)=x:=by simp[rd_T121,List.getD]
theorem b6 (a:List S130) (x:S130) (b:List S130):rd_T130 (a++x::b) (a.length:Int)=x:=by simp[rd_T130,List.getD]
theorem fO (a:List S130) (x y:S130) (b:List S130):(a++x::b).set ((a.length:Int)).toNat y=a++y::b:=by
  rw[show((a.length:Int)).toNat=a.length by omega,List.set_append_right _ _ (Nat.le_refl _),Nat.sub_self,List.set_cons_zero]
theorem eb (a0:Int) (a1:ByteArray) (a2:Int) (left:Int) (h1:a1.size≤maxLen) (l0:0≤left) (l1:left≤1048576):∃r,laws_szInode.f a0 a1 a2 left=some r∧-1≤r∧r≤left∧(0≤r→0≤left∧(a1.size:Int)≤left):=by
  unfold laws_szInode.f
  unfold maxLen at h1
  have e1:wrap64 (left-(a1.size:Int))=left-(a1.size:Int):=w64 (by omega) (by omega)
  simp only[e1]
  by_cases g1:left-(a1.size:Int)<0
  · rw[if_pos g1];exact⟨-1,rfl,by omega,by omega,fun h=>by omega⟩
  · rw[if_neg g1]
    exact⟨_,rfl,by omega,by omega,fun h=>by omega⟩
theorem ci:∀(b a:List S121) (k:Nat) (left:Int),a.length+b.length≤1048576→(∀x∈b,x.f1.size≤maxLen)→0≤left→left≤1048576→b.length<k→
    ∃r,laws_szInodeS.l0 k (a++b) left (a.length:Int)=some r∧-1≤r∧r≤left∧(0≤r→∀x∈b,(x.f1.size:Int)≤left):=by
  intro b
  induction b with
  |nil=>
    intro a k left h0 hg l0 l1 hk
    obtain⟨q,rfl⟩:∃m,k=m+1:=⟨k-1,by omega⟩
    simp only[laws_szInodeS.l0]
    rw[if_neg (by simp)]
    exact⟨left,rfl,by omega,by omega,fun _ x hx=>by simp at hx⟩
  |cons x b ih=>
    intro a k left h0 hg l0 l1 hk
    simp only[List.length_cons]at h0 hk
    obtain⟨q,rfl⟩:∃m,k=m+1:=⟨k-1,by omega⟩
    simp only[laws_szInodeS.l0]
    rw[if_pos (by simp;omega),if_pos (by omega),gs]
    have hgx:=hg x (List.mem_cons_self)
    obtain⟨r,e,r0,r1,r2⟩:=eb x.f0 x.f1 x.f2 left hgx l0 l1
    rw[e];simp only[Option.bind_some]
    by_cases hr:r<0
    · rw[if_pos hr];exact⟨-1,rfl,by omega,by omega,fun h=>by omega⟩
    · rw[if_neg hr,w64 (n:=(a.length:Int)+1) (by omega) (by omega)]
      obtain⟨s,f,s0,s1,s2⟩:=ih (a ++ [x]) q r (by simp;omega) (fun y hy=>hg y (List.mem_cons_of_mem _ hy)) (by omega) (by omega) (by omega)
      rw[List.append_assoc,List.singleton_append,show(((a ++ [x]).length:Nat):Int)=(a.length:Int)+1 by simp]at f
      refine⟨s,f,s0,by omega,fun hs y hy=>?_⟩
      have r3:=r2 (by omega)
      rcases List.mem_cons.1 hy with rfl|hy
      · omega
      · have:=s2 hs y hy
        omega
theorem da (l:List S121) (left:Int) (hl:l.length≤maxLen) (hg:∀x∈l,x.f1.size≤maxLen) (l0:0≤left) (l1:left≤1048576) (k:Nat) (hk:1048577<k) :
    ∃r,laws_szInodeS.f k l left=some r∧-1≤r∧r≤left∧(0≤r→l.length≤1048576∧∀x∈l,x.f1.size≤1048576):=by
  unfold laws_szInodeS.f maxLen at *
  rw[w64 (n:=left-(l.length:Int)) (by omega) (by omega)]
  by_cases h:left-(l.length:Int)<0
  · rw[if_pos h];exact⟨-1,rfl,by omega,by omega,fun h=>by omega⟩
  · rw[if_neg h]
    obtain⟨r,e,r0,r1,r2⟩:=ci l [] k (left-(l.length:Int)) (by simp;omega) (fun x hx=>by have:=hg x hx;(unfold maxLen;exact this)) (by omega) (by omega) (by omega)
    refine⟨r,by simpa using e,r0,by omega,fun hr=>⟨by omega,fun x hx=>?_⟩⟩
    have:=r2 hr x hx
    omega
def aC (x:S121):S130:=⟨x.f0,x.f1,x.f2⟩
theorem cv:∀(b a:List S121) (k:Nat),a.length+b.length≤1048576→b.length<k→
    laws_toInodeS.l0 k (a++b) (a.map aC++List.replicate b.length z130) (a.length:Int)=some ((a++b).map aC):=by
  intro b
  induction b with
  |nil=>
    intro a k h0 hk
    obtain⟨q,rfl⟩:∃m,k=m+1:=⟨k-1,by omega⟩
    simp only[laws_toInodeS.l0]
    rw[if_neg (by simp)];simp
  |cons x b ih=>
    intro a k h0 hk
    simp only[List.length_cons]at h0 hk
    obtain⟨q,rfl⟩:∃m,k=m+1:=⟨k-1,by omega⟩
    simp only[laws_toInodeS.l0]
    rw[if_pos (by simp;omega),if_pos (by omega),gs]
    simp only[laws_toInode.f,Option.bind_some]
    rw[if_pos (by simp;omega),w64 (n:=(a.length:Int)+1) (by omega) (by omega),List.length_cons,List.replicate_succ]
    have hs:=fO (a.map aC) z130 (aC x) (List.replicate b.length z130)
    rw[List.length_map]at hs
    rw[show(⟨x.f0,x.f1,x.f2⟩:S130)=aC x from rfl,hs]
    have f:=ih (a ++ [x]) q (by simp;omega) (by omega)
    rw[List.append_assoc,List.singleton_append,show(((a ++ [x]).length:Nat):Int)=(a.length:Int)+1 by simp,List.map_append,List.map_singleton,List.append_assoc,List.singleton_append]at f
    exact f
theorem cY (l:List S121) (hl:l.length≤1048576) (k:Nat) (hk:l.length<k):laws_toInodeS.f k l=some (l.map aC):=by
  unfold laws_toInodeS.f
  rw[if_pos (by omega),show((l.length:Int)).toNat=l.length by omega,if_pos (by omega)]
  have:=cv l [] k (by simp;omega) hk
  simpa using this
theorem d6 (a0:Int) (a1:ByteArray) (a2:Int):laws_eqInode.f a0 a1 a2 a0 a1 a2=some true:=by unfold laws_eqInode.f;simp
theorem co (l:List S130) (hl:l.length≤1099511627776):∀(d k:Nat) (i:Int),0≤i→i+d=l.length→d<k→laws_eqInodeS.l0 k l l i=some true:=by
  intro d
  induction d with
  |zero=>
    intro k i h0 h1 hk
    obtain⟨q,rfl⟩:∃m,k=m+1:=⟨k-1,by omega⟩
    simp only[laws_eqInodeS.l0];rw[if_neg (by omega)]
  |succ d ih=>
    intro k i h0 h1 hk
    obtain⟨q,rfl⟩:∃m,k=m+1:=⟨k-1,by omega⟩
    simp only[laws_eqInodeS.l0]
    rw[if_pos (by omega),if_pos h0,if_pos (by omega),d6,w64 (n:=i+1) (by omega) (by omega)]
    simp only[Option.bind_some]
    rw[if_pos trivial,ih q (i+1) (by omega) (by omega) (by omega)]
theorem dj (l:List S130) (hl:l.length≤1099511627776) (k:Nat) (hk:l.length<k):laws_eqInodeS.f k l l=some true:=by
  unfold laws_eqInodeS.f;rw[if_pos rfl];exact co l hl l.length k 0 (by omega) (by omega) hk
def eM (m:Int):S130:=⟨m,mT (m+1),m+1+1⟩
def aH:Int→Nat→List S130
  | _,0=>[]
  |m,n+1=>eM m::aH (m+1+1+1) n
theorem bJ:∀(b a:List S130) (k:Nat) (m:Int),0<m→m+3*b.length≤1099511627776→a.length+b.length≤1099511627776→b.length+40<k→
    laws_markInodeS.l0 k (a++b) m (a.length:Int)=some (m+3*b.length,a++aH m b.length):=by
  intro b
  induction b with
  |nil=>
    intro a k m h0 h1 h2 hk
    obtain⟨q,rfl⟩:∃m,k=m+1:=⟨k-1,by omega⟩
    simp only[laws_markInodeS.l0];rw[if_neg (by simp)];simp[aH]
  |cons x b ih=>
    intro a k m h0 h1 h2 hk
    simp only[List.length_cons]at h1 h2 hk
    obtain⟨q,rfl⟩:∃m,k=m+1:=⟨k-1,by omega⟩
    have e1:wrap64 (m+1)=m+1:=w64 (by omega) (by omega)
    have e2:wrap64 (m+1+1)=m+1+1:=w64 (by omega) (by omega)
    have e3:wrap64 (m+1+1+1)=m+1+1+1:=w64 (by omega) (by omega)
    have t1:=af (m+1) (by omega) (by omega) q (by omega)
    simp only[laws_markInodeS.l0]
    rw[if_pos (by simp;omega)]
    rw[if_pos (by omega),w64 (n:=(a.length:Int)+1) (by omega) (by omega)]
    simp only[e1,e2,e3,t1,Option.bind_some,fO,b6]
    have f:=ih (a ++ [eM m]) q (m+1+1+1) (by omega) (by omega) (by simp;omega) (by omega)
    rw[List.append_assoc,List.singleton_append,show(((a ++ [eM m]).length:Nat):Int)=(a.length:Int)+1 by simp]at f
    refine Eq.trans f ?_
    simp[aH];omega
theorem cd (l:List S130) (m:Int) (h0:0<m) (h1:m+3*l.length≤1099511627776) (k:Nat) (hk:l.length+40<k):laws_markInodeS.f k l m=some (m+3*l.length,aH m l.length):=by
  unfold laws_markInodeS.f
  have:=bJ l [] k m h0 h1 (by simp;omega) hk
  simpa using this
theorem gi (a:List S124) (x:S124) (b:List S124):rd_T124 (a++x::b) (a.length:Int)=x:=by simp[rd_T124,List.getD]
theorem aW (a:List S133) (x:S133) (b:List S133):rd_T133 (a++x::b) (a.length:Int)=x:=by simp[rd_T133,List.getD]
theorem fJ (a:List S133) (x y:S133) (b:List S133):(a++x::b).set ((a.length:Int)).toNat y=a++y::b:=by
  rw[show((a.length:Int)).toNat=a.length by omega,List.set_append_right _ _ (Nat.le_refl _),Nat.sub_self,List.set_cons_zero]
theorem en (a0:ByteArray) (a1:Int) (left:Int) (h0:a0.size≤maxLen) (l0:0≤left) (l1:left≤1048576):∃r,laws_szLink.f a0 a1 left=some r∧-1≤r∧r≤left∧(0≤r→0≤left∧(a0.size:Int)≤left):=by
  unfold laws_szLink.f
  unfold maxLen at h0
  have e0:wrap64 (left-(a0.size:Int))=left-(a0.size:Int):=w64 (by omega) (by omega)
  simp only[e0]
  by_cases g0:left-(a0.size:Int)<0
  · rw[if_pos g0];exact⟨-1,rfl,by omega,by omega,fun h=>by omega⟩
  · rw[if_neg g0]
    exact⟨_,rfl,by omega,by omega,fun h=>by omega⟩
theorem cC:∀(b a:List S124) (k:Nat) (left:Int),a.length+b.length≤1048576→(∀x∈b,x.f0.size≤maxLen)→0≤left→left≤1048576→b.length<k→
    ∃r,laws_szLinkS.l0 k (a++b) left (a.length:Int)=some r∧-1≤r∧r≤left∧(0≤r→∀x∈b,(x.f0.size:Int)≤left):=by
  intro b
  induction b with
  |nil=>
    intro a k left h0 hg l0 l1 hk
    obtain⟨q,rfl⟩:∃m,k=m+1:=⟨k-1,by omega⟩
    simp only[laws_szLinkS.l0]
    rw[if_neg (by simp)]
    exact⟨left,rfl,by omega,by omega,fun _ x hx=>by simp at hx⟩
  |cons x b ih=>
    intro a k left h0 hg l0 l1 hk
    simp only[List.length_cons]at h0 hk
    obtain⟨q,rfl⟩:∃m,k=m+1:=⟨k-1,by omega⟩
    simp only[laws_szLinkS.l0]
    rw[if_pos (by simp;omega),if_pos (by omega),gi]
    have hgx:=hg x (List.mem_cons_self)
    obtain⟨r,e,r0,r1,r2⟩:=en x.f0 x.f1 left hgx l0 l1
    rw[e];simp only[Option.bind_some]
    by_cases hr:r<0
    · rw[if_pos hr];exact⟨-1,rfl,by omega,by omega,fun h=>by omega⟩
    · rw[if_neg hr,w64 (n:=(a.length:Int)+1) (by omega) (by omega)]
      obtain⟨s,f,s0,s1,s2⟩:=ih (a ++ [x]) q r (by simp;omega) (fun y hy=>hg y (List.mem_cons_of_mem _ hy)) (by omega) (by omega) (by omega)
      rw[List.append_assoc,List.singleton_append,show(((a ++ [x]).length:Nat):Int)=(a.length:Int)+1 by simp]at f
      refine⟨s,f,s0,by omega,fun hs y hy=>?_⟩
      have r3:=r2 (by omega)
      rcases List.mem_cons.1 hy with rfl|hy
      · omega
      · have:=s2 hs y hy
        omega
theorem ea (l:List S124) (left:Int) (hl:l.length≤maxLen) (hg:∀x∈l,x.f0.size≤maxLen) (l0:0≤left) (l1:left≤1048576) (k:Nat) (hk:1048577<k) :
    ∃r,laws_szLinkS.f k l left=some r∧-1≤r∧r≤left∧(0≤r→l.length≤1048576∧∀x∈l,x.f0.size≤1048576):=by
  unfold laws_szLinkS.f maxLen at *
  rw[w64 (n:=left-(l.length:Int)) (by omega) (by omega)]
  by_cases h:left-(l.length:Int)<0
  · rw[if_pos h];exact⟨-1,rfl,by omega,by omega,fun h=>by omega⟩
  · rw[if_neg h]
    obtain⟨r,e,r0,r1,r2⟩:=cC l [] k (left-(l.length:Int)) (by simp;omega) (fun x hx=>by have:=hg x hx;(unfold maxLen;exact this)) (by omega) (by omega) (by omega)
    refine⟨r,by simpa using e,r0,by omega,fun hr=>⟨by omega,fun x hx=>?_⟩⟩
    have:=r2 hr x hx
    omega
def aT (x:S124):S133:=⟨x.f0,x.f1⟩
theorem cM:∀(b a:List S124) (k:Nat),a.length+b.length≤1048576→b.length<k→
    laws_toLinkS.l0 k (a++b) (a.map aT++List.replicate b.length z133) (a.length:Int)=some ((a++b).map aT):=by
  intro b
  induction b with
  |nil=>
    intro a k h0 hk
    obtain⟨q,rfl⟩:∃m,k=m+1:=⟨k-1,by omega⟩
    simp only[laws_toLinkS.l0]
    rw[if_neg (by simp)];simp
  |cons x b ih=>
    intro a k h0 hk
    simp only[List.length_cons]at h0 hk
    obtain⟨q,rfl⟩:∃m,k=m+1:=⟨k-1,by omega⟩
    simp only[laws_toLinkS.l0]
    rw[if_pos (by simp;omega),if_pos (by omega),gi]
    simp only[laws_toLink.f,Option.bind_some]
    rw[if_pos (by simp;omega),w64 (n:=(a.length:Int)+1) (by omega) (by omega),List.length_cons,List.replicate_succ]
    have hs:=fJ (a.map aT) z133 (aT x) (List.replicate b.length z133)
    rw[List.length_map]at hs
    rw[show(⟨x.f0,x.f1⟩:S133)=aT x from rfl,hs]
    have f:=ih (a ++ [x]) q (by simp;omega) (by omega)
    rw[List.append_assoc,List.singleton_append,show(((a ++ [x]).length:Nat):Int)=(a.length:Int)+1 by simp,List.map_append,List.map_singleton,List.append_assoc,List.singleton_append]at f
    exact f
theorem dE (l:List S124) (hl:l.length≤1048576) (k:Nat) (hk:l.length<k):laws_toLinkS.f k l=some (l.map aT):=by
  unfold laws_toLinkS.f
  rw[if_pos (by omega),show((l.length:Int)).toNat=l.length by omega,if_pos (by omega)]
  have:=cM l [] k (by simp;omega) hk
  simpa using this
theorem ej (a0:ByteArray) (a1:Int):laws_eqLink.f a0 a1 a0 a1=some true:=by unfold laws_eqLink.f;simp
theorem cK (l:List S133) (hl:l.length≤1099511627776):∀(d k:Nat) (i:Int),0≤i→i+d=l.length→d<k→laws_eqLinkS.l0 k l l i=some true:=by
  intro d
  induction d with
  |zero=>
    intro k i h0 h1 hk
    obtain⟨q,rfl⟩:∃m,k=m+1:=⟨k-1,by omega⟩
    simp only[laws_eqLinkS.l0];rw[if_neg (by omega)]
  |succ d ih=>
    intro k i h0 h1 hk
    obtain⟨q,rfl⟩:∃m,k=m+1:=⟨k-1,by omega⟩
    simp only[laws_eqLinkS.l0]
    rw[if_pos (by omega),if_pos h0,if_pos (by omega),ej,w64 (n:=i+1) (by omega) (by omega)]
    simp only[Option.bind_some]
    rw[if_pos trivial,ih q (i+1) (by omega) (by omega) (by omega)]
theorem dD (l:List S133) (hl:l.length≤1099511627776) (k:Nat) (hk:l.length<k):laws_eqLinkS.f k l l=some true:=by
  unfold laws_eqLinkS.f;rw[if_pos rfl];exact cK l hl l.length k 0 (by omega) (by omega) hk
def fx (m:Int):S133:=⟨mT (m),m+1⟩
def aZ:Int→Nat→List S133
  | _,0=>[]
  |m,n+1=>fx m::aZ (m+1+1) n
theorem bZ:∀(b a:List S133) (k:Nat) (m:Int),0<m→m+2*b.length≤1099511627776→a.length+b.length≤1099511627776→b.length+40<k→
    laws_markLinkS.l0 k (a++b) m (a.length:Int)=some (m+2*b.length,a++aZ m b.length):=by
  intro b
  induction b with
  |nil=>
    intro a k m h0 h1 h2 hk
    obtain⟨q,rfl⟩:∃m,k=m+1:=⟨k-1,by omega⟩
    simp only[laws_markLinkS.l0];rw[if_neg (by simp)];simp[aZ]
  |cons x b ih=>
    intro a k m h0 h1 h2 hk
    simp only[List.length_cons]at h1 h2 hk
    obtain⟨q,rfl⟩:∃m,k=m+1:=⟨k-1,by omega⟩
    have e1:wrap64 (m+1)=m+1:=w64 (by omega) (by omega)
    have e2:wrap64 (m+1+1)=m+1+1:=w64 (by omega) (by omega)
    have t0:=af (m) (by omega) (by omega) q (by omega)
    simp only[laws_markLinkS.l0]
    rw[if_pos (by simp;omega),t0];simp only[Option.bind_some]
    rw[if_pos (by omega),w64 (n:=(a.length:Int)+1) (by omega) (by omega)]
    simp only[e1,e2,t0,Option.bind_some,fJ,aW]
    have f:=ih (a ++ [fx m]) q (m+1+1) (by omega) (by omega) (by simp;omega) (by omega)
    rw[List.append_assoc,List.singleton_append,show(((a ++ [fx m]).length:Nat):Int)=(a.length:Int)+1 by simp]at f
    refine Eq.trans f ?_
    simp[aZ];omega
theorem cH (l:List S133) (m:Int) (h0:0<m) (h1:m+2*l.length≤1099511627776) (k:Nat) (hk:l.length+40<k):laws_markLinkS.f k l m=some (m+2*l.length,aZ m l.length):=by
  unfold laws_markLinkS.f
  have:=bZ l [] k m h0 h1 (by simp;omega) hk
  simpa using this
theorem gr (a:List S127) (x:S127) (b:List S127):rd_T127 (a++x::b) (a.length:Int)=x:=by simp[rd_T127,List.getD]
theorem cN (a:List S135) (x:S135) (b:List S135):rd_T135 (a++x::b) (a.length:Int)=x:=by simp[rd_T135,List.getD]
theorem fM (a:List S135) (x y:S135) (b:List S135):(a++x::b).set ((a.length:Int)).toNat y=a++y::b:=by
  rw[show((a.length:Int)).toNat=a.length by omega,List.set_append_right _ _ (Nat.le_refl _),Nat.sub_self,List.set_cons_zero]
theorem ep (a0:Int) (a1:ByteArray) (a2:ByteArray) (a3:Int) (left:Int) (h1:a1.size≤maxLen) (h2:a2.size≤maxLen) (l0:0≤left) (l1:left≤1048576):∃r,laws_szMove.f a0 a1 a2 a3 left=some r∧-1≤r∧r≤left∧(0≤r→0≤left∧(a1.size:Int)≤left∧(a2.size:Int)≤left):=by
  unfold laws_szMove.f
  unfold maxLen at h1 h2
  have e1:wrap64 (left-(a1.size:Int))=left-(a1.size:Int):=w64 (by omega) (by omega)
  simp only[e1]
  by_cases g1:left-(a1.size:Int)<0
  · rw[if_pos g1];exact⟨-1,rfl,by omega,by omega,fun h=>by omega⟩
  · rw[if_neg g1]
    have e2:wrap64 (left-(a1.size:Int)-(a2.size:Int))=left-(a1.size:Int)-(a2.size:Int):=w64 (by omega) (by omega)
    simp only[e2]
    by_cases g2:left-(a1.size:Int)-(a2.size:Int)<0
    · rw[if_pos g2];exact⟨-1,rfl,by omega,by omega,fun h=>by omega⟩
    · rw[if_neg g2]
      exact⟨_,rfl,by omega,by omega,fun h=>by omega⟩
theorem cG:∀(b a:List S127) (k:Nat) (left:Int),a.length+b.length≤1048576→(∀x∈b,x.f1.size≤maxLen∧x.f2.size≤maxLen)→0≤left→left≤1048576→b.length<k→
    ∃r,laws_szMoveS.l0 k (a++b) left (a.length:Int)=some r∧-1≤r∧r≤left∧(0≤r→∀x∈b,(x.f1.size:Int)≤left∧(x.f2.size:Int)≤left):=by
  intro b
  induction b with
  |nil=>
    intro a k left h0 hg l0 l1 hk
    obtain⟨q,rfl⟩:∃m,k=m+1:=⟨k-1,by omega⟩
    simp only[laws_szMoveS.l0]
    rw[if_neg (by simp)]
    exact⟨left,rfl,by omega,by omega,fun _ x hx=>by simp at hx⟩
  |cons x b ih=>
    intro a k left h0 hg l0 l1 hk
    simp only[List.length_cons]at h0 hk
    obtain⟨q,rfl⟩:∃m,k=m+1:=⟨k-1,by omega⟩
    simp only[laws_szMoveS.l0]
    rw[if_pos (by simp;omega),if_pos (by omega),gr]
    have hgx:=hg x (List.mem_cons_self)
    obtain⟨r,e,r0,r1,r2⟩:=ep x.f0 x.f1 x.f2 x.f3 left hgx.1 hgx.2 l0 l1
    rw[e];simp only[Option.bind_some]
    by_cases hr:r<0
    · rw[if_pos hr];exact⟨-1,rfl,by omega,by omega,fun h=>by omega⟩
    · rw[if_neg hr,w64 (n:=(a.length:Int)+1) (by omega) (by omega)]
      obtain⟨s,f,s0,s1,s2⟩:=ih (a ++ [x]) q r (by simp;omega) (fun y hy=>hg y (List.mem_cons_of_mem _ hy)) (by omega) (by omega) (by omega)
      rw[List.append_assoc,List.singleton_append,show(((a ++ [x]).length:Nat):Int)=(a.length:Int)+1 by simp]at f
      refine⟨s,f,s0,by omega,fun hs y hy=>?_⟩
      have r3:=r2 (by omega)
      rcases List.mem_cons.1 hy with rfl|hy
      · exact⟨by omega,by omega⟩
      · have:=s2 hs y hy
        exact⟨by omega,by omega⟩
theorem dx (l:List S127) (left:Int) (hl:l.length≤maxLen) (hg:∀x∈l,x.f1.size≤maxLen∧x.f2.size≤maxLen) (l0:0≤left) (l1:left≤1048576) (k:Nat) (hk:1048577<k) :
    ∃r,laws_szMoveS.f k l left=some r∧-1≤r∧r≤left∧(0≤r→l.length≤1048576∧∀x∈l,x.f1.size≤1048576∧x.f2.size≤1048576):=by
  unfold laws_szMoveS.f maxLen at *
  rw[w64 (n:=left-(l.length:Int)) (by omega) (by omega)]
  by_cases h:left-(l.length:Int)<0
  · rw[if_pos h];exact⟨-1,rfl,by omega,by omega,fun h=>by omega⟩
  · rw[if_neg h]
    obtain⟨r,e,r0,r1,r2⟩:=cG l [] k (left-(l.length:Int)) (by simp;omega) (fun x hx=>by have:=hg x hx;(unfold maxLen;exact this)) (by omega) (by omega) (by omega)
    refine⟨r,by simpa using e,r0,by omega,fun hr=>⟨by omega,fun x hx=>?_⟩⟩
    have:=r2 hr x hx
    exact⟨by omega,by omega⟩
def aU (x:S127):S135:=⟨x.f0,x.f1,x.f2,x.f3⟩
theorem cJ:∀(b a:List S127) (k:Nat),a.length+b.length≤1048576→b.length<k→
    laws_toMoveS.l0 k (a++b) (a.map aU++List.replicate b.length z135) (a.length:Int)=some ((a++b).map aU):=by
  intro b
  induction b with
  |nil=>
    intro a k h0 hk
    obtain⟨q,rfl⟩:∃m,k=m+1:=⟨k-1,by omega⟩
    simp only[laws_toMoveS.l0]
    rw[if_neg (by simp)];simp
  |cons x b ih=>
    intro a k h0 hk
    simp only[List.length_cons]at h0 hk
    obtain⟨q,rfl⟩:∃m,k=m+1:=⟨k-1,by omega⟩
    simp only[laws_toMoveS.l0]
    rw[if_pos (by simp;omega),if_pos (by omega),gr]
    simp only[laws_toMove.f,Option.bind_some]
    rw[if_pos (by simp;omega),w64 (n:=(a.length:Int)+1) (by omega) (by omega),List.length_cons,List.replicate_succ]
    have hs:=fM (a.map aU) z135 (aU x) (List.replicate b.length z135)
    rw[List.length_map]at hs
    rw[show(⟨x.f0,x.f1,x.f2,x.f3⟩:S135)=aU x from rfl,hs]
    have f:=ih (a ++ [x]) q (by simp;omega) (by omega)
    rw[List.append_assoc,List.singleton_append,show(((a ++ [x]).length:Nat):Int)=(a.length:Int)+1 by simp,List.map_append,List.map_singleton,List.append_assoc,List.singleton_append]at f
    exact f
theorem ed (l:List S127) (hl:l.length≤1048576) (k:Nat) (hk:l.length<k):laws_toMoveS.f k l=some (l.map aU):=by
  unfold laws_toMoveS.f
  rw[if_pos (by omega),show((l.length:Int)).toNat=l.length by omega,if_pos (by omega)]
  have:=cJ l [] k (by simp;omega) hk
  simpa using this
theorem eo (a0:Int) (a1:ByteArray) (a2:ByteArray) (a3:Int):laws_eqMove.f a0 a1 a2 a3 a0 a1 a2 a3=some true:=by unfold laws_eqMove.f;simp
theorem cD (l:List S135) (hl:l.length≤1099511627776):∀(d k:Nat) (i:Int),0≤i→i+d=l.length→d<k→laws_eqMoveS.l0 k l l i=some true:=by
  intro d
  induction d with
  |zero=>
    intro k i h0 h1 hk
    obtain⟨q,rfl⟩:∃m,k=m+1:=⟨k-1,by omega⟩
    simp only[laws_eqMoveS.l0];rw[if_neg (by omega)]
  |succ d ih=>
    intro k i h0 h1 hk
    obtain⟨q,rfl⟩:∃m,k=m+1:=⟨k-1,by omega⟩
    simp only[laws_eqMoveS.l0]
    rw[if_pos (by omega),if_pos h0,if_pos (by omega),eo,w64 (n:=i+1) (by omega) (by omega)]
    simp only[Option.bind_some]
    rw[if_pos trivial,ih q (i+1) (by omega) (by omega) (by omega)]
theorem dG (l:List S135) (hl:l.length≤1099511627776) (k:Nat) (hk:l.length<k):laws_eqMoveS.f k l l=some true:=by
  unfold laws_eqMoveS.f;rw[if_pos rfl];exact cD l hl l.length k 0 (by omega) (by omega) hk
def fz (m:Int):S135:=⟨m,mT (m+1),mT (m+1+1),m+1+1+1⟩
def ba:Int→Nat→List S135
  | _,0=>[]
  |m,n+1=>fz m::ba (m+1+1+1+1) n
theorem bY:∀(b a:List S135) (k:Nat) (m:Int),0<m→m+4*b.length≤1099511627776→a.length+b.length≤1099511627776→b.length+40<k→
    laws_markMoveS.l0 k (a++b) m (a.length:Int)=some (m+4*b.length,a++ba m b.length):=by
  intro b
  induction b with
  |nil=>
    intro a k m h0 h1 h2 hk
    obtain⟨q,rfl⟩:∃m,k=m+1:=⟨k-1,by omega⟩
    simp only[laws_markMoveS.l0];rw[if_neg (by simp)];simp[ba]
  |cons x b ih=>
    intro a k m h0 h1 h2 hk
    simp only[List.length_cons]at h1 h2 hk
    obtain⟨q,rfl⟩:∃m,k=m+1:=⟨k-1,by omega⟩
    have e1:wrap64 (m+1)=m+1:=w64 (by omega) (by omega)
    have e2:wrap64 (m+1+1)=m+1+1:=w64 (by omega) (by omega)
    have e3:wrap64 (m+1+1+1)=m+1+1+1:=w64 (by omega) (by omega)
    have e4:wrap64 (m+1+1+1+1)=m+1+1+1+1:=w64 (by omega) (by omega)
    have t1:=af (m+1) (by omega) (by omega) q (by omega)
    have t2:=af (m+1+1) (by omega) (by omega) q (by omega)
    simp only[laws_markMoveS.l0]
    rw[if_pos (by simp;omega)]
    rw[if_pos (by omega),w64 (n:=(a.length:Int)+1) (by omega) (by omega)]
    simp only[e1,e2,e3,e4,t1,t2,Option.bind_some,fM,cN]
    have f:=ih (a ++ [fz m]) q (m+1+1+1+1) (by omega) (by omega) (by simp;omega) (by omega)
    rw[List.append_assoc,List.singleton_append,show(((a ++ [fz m]).length:Nat):Int)=(a.length:Int)+1 by simp]at f
    refine Eq.trans f ?_
    simp[ba];omega
theorem cF (l:List S135) (m:Int) (h0:0<m) (h1:m+4*l.length≤1099511627776) (k:Nat) (hk:l.length+40<k):laws_markMoveS.f k l m=some (m+4*l.length,ba m l.length):=by
  unfold laws_markMoveS.f
  have:=bY l [] k m h0 h1 (by simp;omega) hk
  simpa using this
def bC:Int→Int→List S115→Bool
  | _,_,[]=>true
  |low,hi,e::r=>decide (1≤e.f0∧low≤e.f0∧e.f0≤hi∧e.f1.size≤900)&&bC e.f0 hi r
def aY (t v b bt:Int) (l:List S115):Bool:=decide (0≤t∧t≤100000∧-1≤v∧v≤4∧placeM b bt=true∧bt≤t∧l.length≤60∧b+l.length≤100000)&&bC bt t l
theorem dM (t v bs bt:Int):∀(b a:List S115) (k:Nat) (low:Int),a.length+b.length≤1048576→b.length<k→
    spec_WalOk.l0 k low (a.length:Int) t v bs bt (a++b)=some (bC low t b):=by
  intro b
  induction b with
  |nil=>
    intro a k low h0 hk
    obtain⟨q,rfl⟩:∃m,k=m+1:=⟨k-1,by omega⟩
    simp only[spec_WalOk.l0];rw[if_neg (by simp)];rfl
  |cons x b ih=>
    intro a k low h0 hk
    simp only[List.length_cons]at h0 hk
    obtain⟨q,rfl⟩:∃m,k=m+1:=⟨k-1,by omega⟩
    have f:=ih (a ++ [x]) q x.f0 (by simp;omega) (by omega)
    rw[List.append_assoc,List.singleton_append,show(((a ++ [x]).length:Nat):Int)=(a.length:Int)+1 by simp]at f
    simp only[spec_WalOk.l0,eK,bC]
    rw[if_pos (by simp;omega),if_pos (by omega),w64 (n:=(a.length:Int)+1) (by omega) (by omega),f]
    by_cases h:1≤x.f0∧low≤x.f0∧x.f0≤t∧x.f1.size≤900
    · rw[if_neg (by omega),if_neg (by omega),if_neg (by omega),if_neg (by omega),decide_eq_true h,Bool.true_and]
    · rw[decide_eq_false h,Bool.false_and]
      repeat' split
      all_goals (first|rfl|(exfalso;omega))
theorem eJ (t v b bt:Int) (l:List S115) (hl:l.length≤1048576) (k:Nat) (hk:1048578<k):spec_WalOk.f k t v b bt l=some (aY t v b bt l):=by
  obtain⟨q,rfl⟩:∃m,k=m+1:=⟨k-1,by omega⟩
  have f:=dM t v b bt l [] q bt (by simp;omega) (by omega)
  simp only[List.nil_append,List.length_nil]at f
  unfold spec_WalOk.f aY
  simp only[ac,a6,Option.bind_some,decide_eq_true_eq,spec_WalOk.j0]
  by_cases h1:0≤t∧t≤100000
  · rw[if_pos h1]
    by_cases h2 : -1≤v∧v≤4
    · rw[if_pos h2]
      by_cases h3:placeM b bt=true
      · have hb:0≤b∧b≤100000:=by unfold placeM at h3;simp only[decide_eq_true_eq]at h3;omega
        rw[if_pos h3]
        by_cases h4:bt>t
        · rw[if_pos h4,if_pos trivial,decide_eq_false (by omega),Bool.false_and]
        · rw[if_neg h4]
          by_cases h5:(l.length:Int)>60
          · rw[if_pos h5,if_pos trivial,decide_eq_false (by omega),Bool.false_and]
          · rw[if_neg h5,w64 (by omega) (by omega)]
            by_cases h6:b+(l.length:Int)>100000
            · rw[if_pos h6,decide_eq_false (by omega),Bool.false_and]
            · rw[if_neg h6,decide_eq_true ⟨h1.1,h1.2,h2.1,h2.2,h3,by omega,by omega,by omega⟩,Bool.true_and]
              exact f
      · rw[if_neg h3,if_pos trivial,decide_eq_false (fun g=>h3 g.2.2.2.2.1),Bool.false_and]
    · rw[if_neg h2,if_pos trivial,decide_eq_false (fun g=>h2 ⟨g.2.2.1,g.2.2.2.1⟩),Bool.false_and]
  · rw[if_neg h1,if_pos trivial,decide_eq_false (fun g=>h1 ⟨g.1,g.2.1⟩),Bool.false_and]
theorem cS (hi:Int):∀(b a:List S115) (k:Nat) (low:Int),a.length+b.length≤1048576→b.length<k→
    impl_termsOk.l0 k low hi (a++b) ((a++b).length:Int) (a.length:Int)=some (bC low hi b):=by
  intro b
  induction b with
  |nil=>
    intro a k low h0 hk
    obtain⟨q,rfl⟩:∃m,k=m+1:=⟨k-1,by omega⟩
    simp only[impl_termsOk.l0];rw[if_neg (by simp)];rfl
  |cons x b ih=>
    intro a k low h0 hk
    simp only[List.length_cons]at h0 hk
    obtain⟨q,rfl⟩:∃m,k=m+1:=⟨k-1,by omega⟩
    have f:=ih (a ++ [x]) q x.f0 (by simp;omega) (by omega)
    rw[List.append_assoc,List.singleton_append,show(((a ++ [x]).length:Nat):Int)=(a.length:Int)+1 by simp]at f
    simp only[impl_termsOk.l0,eK,bC,ab,Option.bind_some,decide_eq_true_eq]
    rw[if_pos (by simp;omega),if_pos (by omega),if_pos (by simp;omega),w64 (n:=(a.length:Int)+1) (by omega) (by omega),f]
    by_cases h:1≤x.f0∧low≤x.f0∧x.f0≤hi∧x.f1.size≤900
    · rw[if_neg (by omega),if_pos (by omega),if_neg (by omega),decide_eq_true h,Bool.true_and]
    · rw[decide_eq_false h,Bool.false_and]
      repeat' split
      all_goals (first|rfl|(exfalso;omega))
theorem eE (t v b bt:Int) (l:List S115) (hl:l.length≤1048576) (k:Nat) (hk:1048578<k):impl_WalOk.f k t v b bt l=some (aY t v b bt l):=by
  have f:=cS t l [] k bt (by simp;omega) (by omega)
  simp only[List.nil_append,List.length_nil]at f
  unfold impl_WalOk.f aY impl_termsOk.f
  rw[show((0:Nat):Int)=0 from rfl]at f
  simp only[ab,bi,a8,Option.bind_some,decide_eq_true_eq,f]
  by_cases h1:0≤t∧t≤100000
  · rw[if_pos h1]
    by_cases h2 : -1≤v∧v≤4
    · rw[if_pos h2]
      by_cases h3:placeM b bt=true
      · have hb:0≤b∧b≤100000:=by unfold placeM at h3;simp only[decide_eq_true_eq]at h3;omega
        rw[if_pos h3]
        by_cases h4:bt≤t
        · rw[if_pos h4]
          by_cases h5:(l.length:Int)≤60
          · rw[if_pos h5,w64 (by omega) (by omega)]
            by_cases h6:b+(l.length:Int)≤100000
            · rw[decide_eq_true h6,decide_eq_true ⟨h1.1,h1.2,h2.1,h2.2,h3,h4,by omega,h6⟩,Bool.true_and]
              cases bC bt t l<;>simp
            · rw[decide_eq_false h6,decide_eq_false (fun g=>h6 g.2.2.2.2.2.2.2),Bool.false_and]
              cases bC bt t l<;>simp
          · rw[if_neg h5,decide_eq_false (by omega),Bool.false_and]
        · rw[if_neg h4,decide_eq_false (by omega),Bool.false_and]
      · rw[if_neg h3,decide_eq_false (fun g=>h3 g.2.2.2.2.1),Bool.false_and]
    · rw[if_neg h2,decide_eq_false (fun g=>h2 ⟨g.2.2.1,g.2.2.2.1⟩),Bool.false_and]
  · rw[if_neg h1,decide_eq_false (fun g=>h1 ⟨g.1,g.2.1⟩),Bool.false_and]
theorem eG (t v b bt:Int) (l:List S115) (hl:l.length≤1048576) (k:Nat) (hk:1048577<k):laws_eqWal.f k t v b bt l t v b bt l=some true:=by
  unfold laws_eqWal.f;rw[dh l (by omega) k (by omega)];simp
theorem d2 (t v b bt:Int) (l:List S115) (m:Int) (h0:0<m) (h1:m+2*l.length≤1099511627776) (k:Nat) (hk:l.length+40<k):laws_markWal.f k t v b bt l m=some (m+2*l.length,ae m l.length):=by
  unfold laws_markWal.f;rw[ch l m h0 h1 k hk];rfl
def aN (t v t' v':Int):Bool:=decide (t<t'∨(t'=t∧(v = -1∨v=v')))
theorem cp (t v b bt:Int) (l:List S115) (t' v':Int):impl_hardFits.f t v b bt l t' v'=some (aN t v t' v'):=by
  unfold impl_hardFits.f aN
  repeat' split
  all_goals (congr 1;rw[Bool.eq_iff_iff];simp only[decide_eq_true_eq,beq_iff_eq,true_iff,Bool.false_eq_true,false_iff];omega)
theorem bf {t v b bt:Int} {l:List S115} (h:aY t v b bt l=true):l.length≤60∧0≤b∧b≤100000:=by
  unfold aY at h
  simp only[Bool.and_eq_true,decide_eq_true_eq]at h
  have h3:=h.1.2.2.2.2.1
  unfold placeM at h3;simp only[decide_eq_true_eq]at h3;omega
def aR (bt:Int) (l:List S115):Int:=if(l.length:Int)=0 then bt else(rd_T115 l ((l.length:Int)-1)).f0
theorem ct (t v b bt:Int) (l:List S115) (hl:l.length≤60):impl_lastTerm.f t v b bt l=some (aR bt l):=by
  unfold impl_lastTerm.f aR
  by_cases h:(l.length:Int)=0
  · rw[if_pos h,if_pos h]
  · rw[if_neg h,if_neg h,w64 (n:=(l.length:Int)-1) (by omega) (by omega),if_pos (by omega),if_pos (by omega)]
theorem cg (t v b bt:Int) (l:List S115) (hl:l.length≤60):spec_l5LastTerm.f t v b bt l=some (aR bt l):=by
  unfold spec_l5LastTerm.f aR
  by_cases h:(l.length:Int)=0
  · rw[if_pos h,if_pos h]
  · rw[if_neg h,if_neg h,w64 (n:=(l.length:Int)-1) (by omega) (by omega),if_pos (by omega),if_pos (by omega)]
def dK (t v b bt:Int) (l:List S115) (c t' i v':Int):Bool:=
  if c=1 then aN t v t' v' else if c=2 then decide (i=b+(l.length:Int)+1∧(l.length:Int)<60∧aR bt l≤t'∧t'≤t)else if c=3 then decide (b<i∧i≤b+(l.length:Int))else false
def d1 (t v b bt:Int) (l:List S115) (c t' i v':Int) (d:ByteArray):Int×Int×Int×Int×List S115×Bool:=
  if c=1 then(t',v',b,bt,l,true)else if c=2 then(t,v,b,bt,l ++ [⟨t',d⟩],true)else(t,v,b,bt,l.take (i-b-1).toNat,true)
def aj (t v b bt:Int) (l:List S115) (c t' i v':Int) (d:ByteArray):Int×Int×Int×Int×List S115×Bool:=
  if aY t v b bt l=true then
    if recOkM c t' i v' d.size=true∧dK t v b bt l c t' i v'=true then d1 t v b bt l c t' i v' d else(t,v,b,bt,l,false)
  else(0,0,0,0,[],false)
theorem bg (t v b bt:Int) (l:List S115) (c t' i v':Int) (d:ByteArray):(aj t v b bt l c t' i v' d).2.2.2.2.1.length≤61:=by
  unfold aj
  split
  · rename_i h
    have:=(bf h).1
    split
    · unfold d1
      split
      · simp only;omega
      · split
        · simp;omega
        · simp only[List.length_take];omega
    · simp only;omega
  · simp
theorem ek (t v b bt:Int) (l:List S115) (h:aY t v b bt l=true) (c t' i v':Int) (d:ByteArray):spec_l5Fits.f t v b bt l c t' i v' d=some (dK t v b bt l c t' i v'):=by
  obtain⟨n1,b0,b1⟩:=bf h
  unfold spec_l5Fits.f dK
  by_cases h1:c=1
  · rw[if_pos h1,if_pos h1]
    unfold aN
    repeat' split
    all_goals (congr 1;rw[Bool.eq_iff_iff];simp only[decide_eq_true_eq,beq_iff_eq,true_iff,Bool.false_eq_true,false_iff];omega)
  · rw[if_neg h1,if_neg h1]
    rw[w64 (n:=b+(l.length:Int)) (by omega) (by omega),w64 (n:=b+(l.length:Int)+1) (by omega) (by omega),cg _ _ _ _ _ n1]
    simp only[Option.bind_some]
    repeat' split
    all_goals (first|(exfalso;omega)|rfl|(congr 1;rw[Bool.eq_iff_iff];simp only[decide_eq_true_eq,Bool.false_eq_true,false_iff,true_iff];omega))
theorem dS (t v b bt:Int) (l:List S115) (hl:l.length≤1048576) (c t' i v':Int) (d:ByteArray) (k:Nat) (hk:1048580<k):spec_WalStep.f k t v b bt l c t' i v' d=some (aj t v b bt l c t' i v' d):=by
  unfold spec_WalStep.f aj
  rw[eJ _ _ _ _ _ hl _ (by omega)]
  simp only[Option.bind_some]
  by_cases h:aY t v b bt l=true
  · obtain⟨n1,b0,b1⟩:=bf h
    rw[if_pos h,if_pos h]
    have hc:spec_l5Copy.f t v b bt l=some (t,v,b,bt,l):=by
      unfold spec_l5Copy.f
      simp only[Option.bind_some]
      rw[if_pos (by simp;omega),List.nil_append]
    rw[hc,bq];simp only[Option.bind_some]
    obtain⟨q,rfl⟩:∃m,k=m+1:=⟨k-1,by omega⟩
    by_cases hr:recOkM c t' i v' d.size=true
    · rw[if_pos hr,ek _ _ _ _ _ h];simp only[Option.bind_some,spec_WalStep.j0]
      by_cases hf:dK t v b bt l c t' i v'=true
      · have hg:recOkM c t' i v' d.size=true∧dK t v b bt l c t' i v'=true:=⟨hr,hf⟩
        rw[if_neg (by rw[hf];decide),if_pos hg]
        unfold d1
        by_cases c1:c=1
        · rw[if_pos c1,if_pos c1]
        · rw[if_neg c1,if_neg c1]
          by_cases c2:c=2
          · rw[if_pos c2,if_pos c2,if_pos (by omega)]
          · rw[if_neg c2,if_neg c2]
            unfold dK at hf
            rw[if_neg c1,if_neg c2]at hf
            by_cases c3:c=3
            · rw[if_pos c3,decide_eq_true_eq]at hf
              rw[w64 (n:=i-b) (by omega) (by omega),w64 (n:=i-b-1) (by omega) (by omega),if_pos (by omega),if_pos (by omega)]
            · rw[if_neg c3]at hf;exact absurd hf (by decide)
      · have hg:¬(recOkM c t' i v' d.size=true∧dK t v b bt l c t' i v'=true):=fun g=>hf g.2
        rw[if_pos (show(!dK t v b bt l c t' i v')=true by simpa using hf),if_neg hg]
    · have hg:¬(recOkM c t' i v' d.size=true∧dK t v b bt l c t' i v'=true):=fun g=>hr g.1
      rw[if_neg hr,if_neg hg];simp only[spec_WalStep.j0];rw[if_pos trivial]
  · rw[if_neg h,if_neg h]
theorem dX (t v b bt:Int) (l:List S115) (hl:l.length≤1048576) (c t' i v':Int) (d:ByteArray) (k:Nat) (hk:1048580<k):impl_WalStep.f k t v b bt l c t' i v' d=some (aj t v b bt l c t' i v' d):=by
  unfold impl_WalStep.f aj
  rw[eE _ _ _ _ _ hl _ (by omega)]
  simp only[Option.bind_some]
  by_cases h:aY t v b bt l=true
  · obtain⟨n1,b0,b1⟩:=bf h
    rw[if_pos h,if_pos h]
    have hc:impl_copyWal.f t v b bt l=some (t,v,b,bt,l):=by
      unfold impl_copyWal.f impl_Entry.f
      rw[if_pos (by omega)];rfl
    rw[hc,bp];simp only[Option.bind_some]
    rw[w64 (n:=b+(l.length:Int)) (by omega) (by omega),cp];simp only[Option.bind_some]
    obtain⟨p,rfl⟩:∃m,k=m+1:=⟨k-1,by omega⟩
    obtain⟨q,rfl⟩:∃m,p=m+1:=⟨p-1,by omega⟩
    by_cases hr:recOkM c t' i v' d.size=true
    · rw[if_pos hr]
      unfold dK d1
      by_cases c1:c=1
      · rw[if_pos c1,if_pos c1,if_pos c1]
        simp only[impl_WalStep.j0]
        by_cases hf:aN t v t' v'=true
        · have hg:recOkM c t' i v' d.size=true∧aN t v t' v'=true:=⟨hr,hf⟩
          rw[if_pos hf,if_pos hg]
        · have hg:¬(recOkM c t' i v' d.size=true∧aN t v t' v'=true):=fun g=>hf g.2
          rw[if_neg hf,if_neg hg,if_neg (show ¬c=2 by omega)]
          simp only[impl_WalStep.j1]
          rw[if_neg (by decide),if_neg (by omega)]
      · rw[if_neg c1,if_neg c1,if_neg c1]
        simp only[impl_WalStep.j0]
        rw[if_neg (by decide)]
        by_cases c2:c=2
        · rw[if_pos c2,if_pos c2,if_pos c2]
          have hj:∀z:Bool,impl_WalStep.j1 (q+1) (b+(l.length:Int)) z t v b bt l c t' i v' d=some (if z=true then(t,v,b,bt,l ++ [(⟨t',d⟩:S115)],true)else(t,v,b,bt,l,false)):=by
            intro z
            simp only[impl_WalStep.j1]
            by_cases hz:z=true
            · rw[if_pos hz,if_pos hz,if_pos (by omega)]
            · rw[if_neg hz,if_neg hz,if_neg (by omega)]
          rw[w64 (n:=b+(l.length:Int)+1) (by omega) (by omega),ct _ _ _ _ _ n1];simp only[Option.bind_some]
          have hfr:impl_from.f t' (aR bt l) t=some (decide (aR bt l≤t'∧t'≤t)):=by
            unfold impl_from.f
            split
            · congr 1;rw[Bool.eq_iff_iff];simp only[decide_eq_true_eq];omega
            · congr 1;rw[Bool.eq_iff_iff];simp only[decide_eq_true_eq,Bool.false_eq_true,false_iff];omega
          rw[hfr];simp only[Option.bind_some,hj]
          by_cases e1:i=b+(l.length:Int)+1
          · rw[if_pos e1]
            by_cases e2:(l.length:Int)<60
            · rw[if_pos e2]
              by_cases e3:aR bt l≤t'∧t'≤t
              · have hg:(recOkM c t' i v' d.size=true∧decide (i=b+(l.length:Int)+1∧(l.length:Int)<60∧aR bt l≤t'∧t'≤t)=true):=⟨hr,by simp only[decide_eq_true_eq];exact⟨e1,e2,e3⟩⟩
                have hz:decide (aR bt l≤t'∧t'≤t)=true:=by simpa using e3
                rw[if_pos hz,if_pos hg]
              · have hg:¬(recOkM c t' i v' d.size=true∧decide (i=b+(l.length:Int)+1∧(l.length:Int)<60∧aR bt l≤t'∧t'≤t)=true):=fun g=>e3 (by have:=g.2;simp only[decide_eq_true_eq]at this;exact this.2.2)
                have hz:¬decide (aR bt l≤t'∧t'≤t)=true:=by simpa using e3
                rw[if_neg hz,if_neg hg]
            · have hg:¬(recOkM c t' i v' d.size=true∧decide (i=b+(l.length:Int)+1∧(l.length:Int)<60∧aR bt l≤t'∧t'≤t)=true):=fun g=>e2 (by have:=g.2;simp only[decide_eq_true_eq]at this;exact this.2.1)
              rw[if_neg e2,if_neg hg,if_neg (by decide)]
          · have hg:¬(recOkM c t' i v' d.size=true∧decide (i=b+(l.length:Int)+1∧(l.length:Int)<60∧aR bt l≤t'∧t'≤t)=true):=fun g=>e1 (by have:=g.2;simp only[decide_eq_true_eq]at this;exact this.1)
            rw[if_neg e1,if_neg hg,if_neg (by decide)]
        · rw[if_neg c2,if_neg c2,if_neg c2]
          simp only[impl_WalStep.j1]
          rw[if_neg (by decide)]
          by_cases c3:c=3
          · have hfr:impl_from.f i (wrap64 (b+1)) (b+(l.length:Int))=some (decide (b<i∧i≤b+(l.length:Int))):=by
              rw[w64 (n:=b+1) (by omega) (by omega)]
              unfold impl_from.f
              split
              · congr 1;rw[Bool.eq_iff_iff];simp only[decide_eq_true_eq];omega
              · congr 1;rw[Bool.eq_iff_iff];simp only[decide_eq_true_eq,Bool.false_eq_true,false_iff];omega
            rw[if_pos c3,if_pos c3,hfr];simp only[Option.bind_some]
            by_cases e:b<i∧i≤b+(l.length:Int)
            · have hg:(recOkM c t' i v' d.size=true∧decide (b<i∧i≤b+(l.length:Int))=true):=⟨hr,by simpa using e⟩
              have hz:decide (b<i∧i≤b+(l.length:Int))=true:=by simpa using e
              rw[if_pos hz,if_pos hg,w64 (n:=i-b) (by omega) (by omega),w64 (n:=i-b-1) (by omega) (by omega),if_pos (by omega),if_pos (by omega)]
            · have hg:¬(recOkM c t' i v' d.size=true∧decide (b<i∧i≤b+(l.length:Int))=true):=fun g=>e (by simpa using g.2)
              have hz:¬decide (b<i∧i≤b+(l.length:Int))=true:=by simpa using e
              rw[if_neg hz,if_neg hg]
          · rw[if_neg c3,if_neg c3,if_neg (show ¬(recOkM c t' i v' d.size=true∧false=true)from fun g=>absurd g.2 (by decide))]
    · have hg:¬(recOkM c t' i v' d.size=true∧dK t v b bt l c t' i v'=true):=fun g=>hr g.1
      rw[if_neg hr,if_neg hg]
  · rw[if_neg h,if_neg h]
theorem dZ (t v b bt:Int) (n:Nat) (m:Int) (h0:0<m) (h1:m+2*n≤1099511627776) (k:Nat) (hk:n+40<k):laws_heldWal.f k t v b bt (ae m n) m=some (m+2*n):=by
  unfold laws_heldWal.f;rw[ck n m h0 h1 k hk];simp only[Option.bind_some];rw[if_neg (by omega)]
theorem fU (s:ByteArray):(unfM s).1.size≤s.size:=by
  unfold unfM
  repeat' split
  all_goals first|exact Nat.zero_le _|(simp only[ByteArray.size_extract];omega)
theorem eY:∀(f:Nat) (s:ByteArray) (a:Int),∀x∈(frs f s a).1,x.size≤s.size
  | 0,s,a,x,hx=>by simp[frs]at hx
  |f+1,s,a,x,hx=>by
    rw[frs]at hx
    split at hx
    · rcases List.mem_cons.1 hx with rfl|hx
      · have:=fU (s.extract a.toNat s.size)
        rw[ByteArray.size_extract]at this;omega
      · exact eY f s _ x hx
    · simp at hx
abbrev Wv:=Int×Int×Int×Int×List S115×Int×Bool
def bR:Int→Int→Int→Int→List S115→Int→List ByteArray→Wv
  |t,v,b,bt,l,p,[]=>(t,v,b,bt,l,p,true)
  |t,v,b,bt,l,p,x::r=>
    if(aa x).2.2.2.2.2=true∧(aj t v b bt l (aa x).1 (aa x).2.1 (aa x).2.2.1 (aa x).2.2.2.1 (aa x).2.2.2.2.1).2.2.2.2.2=true then
      bR (aj t v b bt l (aa x).1 (aa x).2.1 (aa x).2.2.1 (aa x).2.2.2.1 (aa x).2.2.2.2.1).1 (aj t v b bt l (aa x).1 (aa x).2.1 (aa x).2.2.1 (aa x).2.2.2.1 (aa x).2.2.2.2.1).2.1 (aj t v b bt l (aa x).1 (aa x).2.1 (aa x).2.2.1 (aa x).2.2.2.1 (aa x).2.2.2.2.1).2.2.1 (aj t v b bt l (aa x).1 (aa x).2.1 (aa x).2.2.1 (aa x).2.2.2.1 (aa x).2.2.2.2.1).2.2.2.1 (aj t v b bt l (aa x).1 (aa x).2.1 (aa x).2.2.1 (aa x).2.2.2.1 (aa x).2.2.2.2.1).2.2.2.2.1 (p+8+(x.size:Int)) r
    else(t,v,b,bt,l,p,true)
theorem fk:∀(b:List ByteArray) (t v bs bt:Int) (l:List S115) (p:Int),l.length≤61→(bR t v bs bt l p b).2.2.2.2.1.length≤61
  | [],t,v,bs,bt,l,p,h=>h
  |x::r,t,v,bs,bt,l,p,h=>by
    rw[bR]
    split
    · exact fk r _ _ _ _ _ _ (bg t v bs bt l _ _ _ _ _)
    · exact h
theorem rdS (a:List ByteArray) (x:ByteArray) (b:List ByteArray):rdOf ByteArray.empty (a++x::b) (a.length:Int)=x:=by simp[rdOf,List.getD]
theorem eX:∀(b a:List ByteArray) (k:Nat) (p t v bs bt:Int) (l:List S115),a.length+b.length≤1048600→(∀x∈b,x.size≤1048576)→0≤p→p≤2000000*(a.length:Int)→l.length≤61→b.length+1048700<k→
    spec_Replay.l0 k (a++b) p (a.length:Int) t v bs bt l=some (bR t v bs bt l p b)
  | [],a,k,p,t,v,bs,bt,l,h0,hz,p0,p1,hl,hk=>by
    obtain⟨q,rfl⟩:∃m,k=m+1:=⟨k-1,by omega⟩
    simp only[spec_Replay.l0];rw[if_neg (by simp)];rfl
  |x::b,a,k,p,t,v,bs,bt,l,h0,hz,p0,p1,hl,hk=>by
    simp only[List.length_cons]at h0 hk
    obtain⟨q,rfl⟩:∃m,k=m+1:=⟨k-1,by omega⟩
    have hx:=hz x List.mem_cons_self
    have hs:=bg t v bs bt l (aa x).1 (aa x).2.1 (aa x).2.2.1 (aa x).2.2.2.1 (aa x).2.2.2.2.1
    have f:=eX b (a ++ [x]) q (p+8+(x.size:Int)) (aj t v bs bt l (aa x).1 (aa x).2.1 (aa x).2.2.1 (aa x).2.2.2.1 (aa x).2.2.2.2.1).1 (aj t v bs bt l (aa x).1 (aa x).2.1 (aa x).2.2.1 (aa x).2.2.2.1 (aa x).2.2.2.2.1).2.1 (aj t v bs bt l (aa x).1 (aa x).2.1 (aa x).2.2.1 (aa x).2.2.2.1 (aa x).2.2.2.2.1).2.2.1 (aj t v bs bt l (aa x).1 (aa x).2.1 (aa x).2.2.1 (aa x).2.2.2.1 (aa x).2.2.2.2.1).2.2.2.1 (aj t v bs bt l (aa x).1 (aa x).2.1 (aa x).2.2.1 (aa x).2.2.2.1 (aa x).2.2.2.2.1).2.2.2.2.1 (by simp;omega) (fun y hy=>hz y (List.mem_cons_of_mem _ hy)) (by omega) (by rw[List.length_append,List.length_singleton];omega) hs (by omega)
    rw[List.append_assoc,List.singleton_append,show(((a ++ [x]).length:Nat):Int)=(a.length:Int)+1 by simp]at f
    simp only[spec_Replay.l0]
    rw[if_pos (by simp;omega),if_pos (by omega),rdS,bA x (by omega) q (by omega)]
    simp only[Option.bind_some]
    rw[dS t v bs bt l (by omega) _ _ _ _ _ q (by omega)]
    simp only[Option.bind_some]
    rw[w64 (n:=p+8) (by omega) (by omega),w64 (n:=p+8+(x.size:Int)) (by omega) (by omega),w64 (n:=(a.length:Int)+1) (by omega) (by omega),f,bR]
    by_cases c1:(aa x).2.2.2.2.2=true
    · rw[if_pos c1]
      by_cases c2:(aj t v bs bt l (aa x).1 (aa x).2.1 (aa x).2.2.1 (aa x).2.2.2.1 (aa x).2.2.2.2.1).2.2.2.2.2=true
      · rw[if_pos c2,if_pos ⟨c1,c2⟩]
      · rw[if_neg c2,if_neg (fun h=>c2 h.2)]
    · rw[if_neg c1,if_neg (fun h=>c1 h.1)]
theorem fi:∀(b a:List ByteArray) (k:Nat) (p t v bs bt:Int) (l:List S115),a.length+b.length≤1048600→(∀x∈b,x.size≤1048576)→0≤p→p≤2000000*((a.length:Int)+1)→l.length≤61→b.length+1048700<k→
    impl_Replay.l0 k p (a++b) (((a++b).length:Nat):Int) (a.length:Int) t v bs bt l=some (bR t v bs bt l p b)
  | [],a,k,p,t,v,bs,bt,l,h0,hz,p0,p1,hl,hk=>by
    obtain⟨q,rfl⟩:∃m,k=m+1:=⟨k-1,by omega⟩
    simp only[impl_Replay.l0];rw[if_neg (by simp)];rfl
  |x::b,a,k,p,t,v,bs,bt,l,h0,hz,p0,p1,hl,hk=>by
    simp only[List.length_cons]at h0 hk
    obtain⟨q,rfl⟩:∃m,k=m+1:=⟨k-1,by omega⟩
    have hx:=hz x List.mem_cons_self
    have hs:=bg t v bs bt l (aa x).1 (aa x).2.1 (aa x).2.2.1 (aa x).2.2.2.1 (aa x).2.2.2.2.1
    have f:=fi b (a ++ [x]) q (p+8+(x.size:Int)) (aj t v bs bt l (aa x).1 (aa x).2.1 (aa x).2.2.1 (aa x).2.2.2.1 (aa x).2.2.2.2.1).1 (aj t v bs bt l (aa x).1 (aa x).2.1 (aa x).2.2.1 (aa x).2.2.2.1 (aa x).2.2.2.2.1).2.1 (aj t v bs bt l (aa x).1 (aa x).2.1 (aa x).2.2.1 (aa x).2.2.2.1 (aa x).2.2.2.2.1).2.2.1 (aj t v bs bt l (aa x).1 (aa x).2.1 (aa x).2.2.1 (aa x).2.2.2.1 (aa x).2.2.2.2.1).2.2.2.1 (aj t v bs bt l (aa x).1 (aa x).2.1 (aa x).2.2.1 (aa x).2.2.2.1 (aa x).2.2.2.2.1).2.2.2.2.1 (by simp;omega) (fun y hy=>hz y (List.mem_cons_of_mem _ hy)) (by omega) (by rw[List.length_append,List.length_singleton];omega) hs (by omega)
    rw[List.append_assoc,List.singleton_append,show(((a ++ [x]).length:Nat):Int)=(a.length:Int)+1 by simp]at f
    simp only[impl_Replay.l0]
    rw[if_pos (by simp;omega),if_pos (by omega),if_pos (by simp;omega),rdS,bG x (by omega) q (by omega)]
    simp only[Option.bind_some]
    rw[dX t v bs bt l (by omega) _ _ _ _ _ q (by omega)]
    simp only[Option.bind_some]
    rw[w64 (n:=(x.size:Int)+8) (by omega) (by omega),w64 (n:=p+((x.size:Int)+8)) (by omega) (by omega),w64 (n:=(a.length:Int)+1) (by omega) (by omega),show p+((x.size:Int)+8)=p+8+(x.size:Int) by omega,f,bR]
    by_cases c1:(aa x).2.2.2.2.2=true
    · rw[if_pos c1]
      by_cases c2:(aj t v bs bt l (aa x).1 (aa x).2.1 (aa x).2.2.1 (aa x).2.2.2.1 (aa x).2.2.2.2.1).2.2.2.2.2=true
      · rw[if_pos c2,if_pos ⟨c1,c2⟩]
      · rw[if_neg c2,if_neg (fun h=>c2 h.2)]
    · rw[if_neg c1,if_neg (fun h=>c1 h.1)]
theorem fu {t v b bt:Int} {l:List S115} {c t' i v':Int} {d:ByteArray} (h:(aj t v b bt l c t' i v' d).2.2.2.2.2=true):(aj t v b bt l c t' i v' d).2.2.1=b:=by
  unfold aj at h ⊢
  split at h
  · rename_i h1
    rw[if_pos h1]
    split at h
    · rename_i h2
      rw[if_pos h2]
      unfold d1
      repeat' split
      all_goals rfl
    · cases h
  · cases h
theorem cE:∀(r:List ByteArray) (t v bs bt:Int) (l:List S115) (p:Int),(bR t v bs bt l p r).2.2.1=bs
  | [],t,v,bs,bt,l,p=>rfl
  |x::r,t,v,bs,bt,l,p=>by
    rw[bR]
    split
    · rename_i h
      rw[cE r,fu h.2]
    · rfl
theorem bP {s:ByteArray} (h:(aa s).2.2.2.2.2=true):0≤(aa s).2.2.1∧(aa s).2.2.1≤100000:=by
  have z:¬fY.2.2.2.2.2=true:=by decide
  unfold aa at h ⊢
  by_cases h0:s.size=0
  · rw[if_pos h0]at h;exact absurd h z
  rw[if_neg h0]at h ⊢
  generalize rvx s 1=A at h ⊢
  by_cases c1:A.2=0
  · rw[if_pos c1]at h;exact absurd h z
  rw[if_neg c1]at h ⊢
  generalize rvx s (1+A.2)=B at h ⊢
  by_cases c2:B.2=0
  · rw[if_pos c2]at h;exact absurd h z
  rw[if_neg c2]at h ⊢
  generalize rvx s (1+A.2+B.2)=C at h ⊢
  by_cases c3:C.2=0
  · rw[if_pos c3]at h;exact absurd h z
  rw[if_neg c3]at h ⊢
  generalize bt s 0=kd at h ⊢
  generalize s.extract (1+A.2+B.2+C.2).toNat s.size=dd at h ⊢
  by_cases c4:ah kd A.1 B.1 (C.1-1) dd=bytesOf s
  · rw[if_pos c4]
    show 0≤B.1∧B.1≤100000
    unfold ah at c4
    by_cases g:recOkM kd A.1 B.1 (C.1-1) dd.size=true
    · clear c4 h z
      generalize B.1=i at g ⊢
      generalize A.1=t at g ⊢
      generalize C.1-1=v at g ⊢
      generalize dd.size=n at g ⊢
      unfold recOkM placeM at g
      by_cases e1:kd=1
      · rw[if_pos e1]at g;have:=of_decide_eq_true g;omega
      rw[if_neg e1]at g
      by_cases e2:kd=2
      · rw[if_pos e2]at g;have:=of_decide_eq_true g;omega
      rw[if_neg e2]at g
      by_cases e3:kd=3
      · rw[if_pos e3]at g;have:=of_decide_eq_true g;omega
      rw[if_neg e3]at g
      by_cases e4:kd=4
      · rw[if_pos e4,Bool.and_eq_true]at g;have:=of_decide_eq_true g.1;omega
      · rw[if_neg e4]at g;cases g
    · rw[if_neg g]at c4
      have e:=congrArg List.length c4
      have e2:=size_bytes s
      rw[List.length_nil]at e
      omega
  · rw[if_neg c4]at h;exact absurd h z
theorem gv (s:ByteArray) (hs:s.size≤1048576):∃r:Wv,(r.2.2.2.2.1.length≤61∧0≤r.2.2.1∧r.2.2.1≤100000)∧(∀k,2097600<k→spec_Replay.f k s=some r)∧(∀k,2097600<k→impl_Replay.f k s=some r):=by
  have hz:=eY (s.size+1) s 0
  have hn:=fD (s.size+1) s 0
  have e1:∀k,2097600<k→spec_Frames.f k s=some (frs (s.size+1) s 0):=fun k hk=>er s hs k (by omega)
  have e2:∀k,2097600<k→impl_Frames.f k s=some (frs (s.size+1) s 0):=fun k hk=>ei s hs k (by omega)
  generalize frs (s.size+1) s 0=R at *
  obtain⟨L,e⟩:=R
  simp only[]at hz hn
  cases L with
  |nil=>
    refine⟨(0,0,0,0,[],0,false),⟨by simp,by simp,by simp⟩,fun k hk=>?_,fun k hk=>?_⟩
    · unfold spec_Replay.f
      rw[e1 k hk];simp
    · unfold impl_Replay.f
      rw[e2 k hk];simp
  |cons x r=>
    rw[List.length_cons]at hn
    have hx:=hz x List.mem_cons_self
    have hr0:rdOf ByteArray.empty (x::r) 0=x:=rfl
    have no:((((x::r).length:Nat)):Int)≠0:=by rw[List.length_cons];omega
    have yes:(0:Int)<(((x::r).length:Nat):Int):=by rw[List.length_cons];omega
    have S:∀k,2097600<k→spec_Replay.f k s=if(aa x).2.2.2.2.2=true∧(aa x).1=4 then some (bR (aa x).2.1 (-1) (aa x).2.2.1 (aa x).2.1 [] (8+(x.size:Int)) r)else some (0,0,0,0,[],0,false):=by
      intro k hk
      obtain⟨q,rfl⟩:∃m,k=m+1:=⟨k-1,by omega⟩
      have j0:∀b y0 y1 y2 y3 y4,spec_Replay.j0 (q+1) (x::r) b y0 y1 y2 y3 y4=if b=true then some (0,0,0,0,[],0,false)else some (bR y1 (-1) y2 y1 [] (8+(x.size:Int)) r):=by
        intro b y0 y1 y2 y3 y4
        simp only[spec_Replay.j0]
        have f:spec_Replay.l0 q (x::r) (8+(x.size:Int)) 1 y1 (-1) y2 y1 []=some (bR y1 (-1) y2 y1 [] (8+(x.size:Int)) r):=eX r [x] q (8+(x.size:Int)) y1 (-1) y2 y1 [] (by simp;omega) (fun y hy=>by have:=hz y (List.mem_cons_of_mem _ hy);omega) (by omega) (by simp;omega) (by simp) (by omega)
        rw[if_pos yes,hr0,w64 (n:=8+(x.size:Int)) (by omega) (by omega),f]
      unfold spec_Replay.f
      rw[e1 _ hk]
      simp only[Option.bind_some]
      rw[if_neg no,if_pos yes,hr0,bA x (by omega) (q+1) (by omega)]
      simp only[Option.bind_some,j0]
      by_cases c1:(aa x).2.2.2.2.2=true
      · rw[if_pos c1]
        by_cases c2:(aa x).1=4
        · rw[if_neg (by rw[bne_iff_ne];exact fun h=>h c2),if_pos ⟨c1,c2⟩]
        · rw[if_pos (by rw[bne_iff_ne];exact c2),if_neg (fun h=>c2 h.2)]
      · rw[if_neg c1];first|rw[if_pos trivial,if_neg (fun h=>c1 h.1)]|rw[if_pos rfl,if_neg (fun h=>c1 h.1)]
    have I:∀k,2097600<k→impl_Replay.f k s=if(aa x).2.2.2.2.2=true∧(aa x).1=4 then some (bR (aa x).2.1 (-1) (aa x).2.2.1 (aa x).2.1 [] (8+(x.size:Int)) r)else some (0,0,0,0,[],0,false):=by
      intro k hk
      obtain⟨q,rfl⟩:∃m,k=m+1:=⟨k-1,by omega⟩
      have j0:∀b y0 y1 y2 y3 y4,impl_Replay.j0 (q+1) (x::r) b y0 y1 y2 y3 y4=if b=true then some (0,0,0,0,[],0,false)else some (bR y1 (-1) y2 y1 [] (8+(x.size:Int)) r):=by
        intro b y0 y1 y2 y3 y4
        simp only[impl_Replay.j0,Option.bind_some]
        have f:=fi r [] q (8+(x.size:Int)) y1 (-1) y2 y1 [] (by simp;omega) (fun y hy=>by have:=hz y (List.mem_cons_of_mem _ hy);omega) (by omega) (by simp;omega) (by simp) (by omega)
        rw[List.nil_append,List.length_nil,show((0:Nat):Int)=0 from rfl]at f
        rw[if_pos yes,if_pos (show(1:Int)≤(((x::r).length:Nat):Int) by omega),hr0,w64 (n:=(x.size:Int)+8) (by omega) (by omega),show(x::r).drop 1=r from rfl,show(x.size:Int)+8=8+(x.size:Int) by omega,f]
      unfold impl_Replay.f
      rw[e2 _ hk]
      simp only[Option.bind_some]
      rw[if_neg no,if_pos yes,hr0,bG x (by omega) (q+1) (by omega)]
      simp only[Option.bind_some,j0]
      by_cases c1:(aa x).2.2.2.2.2=true
      · rw[if_pos c1]
        by_cases c2:(aa x).1=4
        · rw[if_neg (by rw[bne_iff_ne];exact fun h=>h c2),if_pos ⟨c1,c2⟩]
        · rw[if_pos (by rw[bne_iff_ne];exact c2),if_neg (fun h=>c2 h.2)]
      · rw[if_neg c1];first|rw[if_pos trivial,if_neg (fun h=>c1 h.1)]|rw[if_pos rfl,if_neg (fun h=>c1 h.1)]
    by_cases c:(aa x).2.2.2.2.2=true∧(aa x).1=4
    · exact⟨bR (aa x).2.1 (-1) (aa x).2.2.1 (aa x).2.1 [] (8+(x.size:Int)) r,⟨fk r _ _ _ _ _ _ (Nat.zero_le 61),by rw[cE];exact(bP c.1).1,by rw[cE];exact(bP c.1).2⟩,fun k hk=>by rw[S k hk,if_pos c],fun k hk=>by rw[I k hk,if_pos c]⟩
    · exact⟨(0,0,0,0,[],0,false),⟨Nat.zero_le 61,by simp,by simp⟩,fun k hk=>by rw[S k hk,if_neg c],fun k hk=>by rw[I k hk,if_neg c]⟩
theorem fR:∀a:List UInt8,Lib.compareBytes a a=0
  | []=>rfl
  |x::a=>by rw[Lib.compareBytes,if_neg (UInt8.lt_irrefl x),if_neg (UInt8.lt_irrefl x)];exact fR a
theorem gF:∀{a b:List UInt8},Lib.compareBytes a b=0→a=b
  | [],[],_=>rfl
  | [],_::_,h=>by simp[Lib.compareBytes]at h
  | _::_,[],h=>by simp[Lib.compareBytes]at h
  |x::a,y::b,h=>by
    rw[Lib.compareBytes]at h
    by_cases h1:x<y
    · rw[if_pos h1]at h;omega
    · rw[if_neg h1]at h
      by_cases h2:y<x
      · rw[if_pos h2]at h;omega
      · rw[if_neg h2]at h
        rw[gF h,UInt8.le_antisymm (UInt8.not_lt.1 h2) (UInt8.not_lt.1 h1)]
theorem fT:∀(a b:List UInt8),Lib.compareBytes b a = - Lib.compareBytes a b
  | [],[]=>rfl
  | [],_::_=>rfl
  | _::_,[]=>rfl
  |x::a,y::b=>by
    rw[Lib.compareBytes,Lib.compareBytes]
    by_cases h1:x<y
    · rw[if_neg (UInt8.lt_asymm h1),if_pos h1,if_pos h1];rfl
    · rw[if_neg h1]
      by_cases h2:y<x
      · rw[if_pos h2,if_neg h1,if_pos h2]
      · rw[if_neg h2,if_neg h1,if_neg h2];exact fT a b
theorem e9:∀{a b c:List UInt8},Lib.compareBytes a b<0→Lib.compareBytes b c<0→Lib.compareBytes a c<0
  | [],[],_,h,_=>by simp[Lib.compareBytes]at h
  | [],_::_,[],_,h=>by simp[Lib.compareBytes]at h
  | [],_::_,_::_,_,_=>by simp[Lib.compareBytes]
  | _::_,[],_,h,_=>by simp[Lib.compareBytes]at h
  | _::_,_::_,[],_,h=>by simp[Lib.compareBytes]at h
  |x::a,y::b,z::c,h,g=>by
    rw[Lib.compareBytes]at h g ⊢
    by_cases h1:x<y
    · by_cases g1:y<z
      · rw[if_pos (UInt8.lt_trans h1 g1)];omega
      · rw[if_neg g1]at g
        by_cases g2:z<y
        · rw[if_pos g2]at g;omega
        · have e:y=z:=UInt8.le_antisymm (UInt8.not_lt.1 g2) (UInt8.not_lt.1 g1)
          subst e
          rw[if_pos h1];omega
    · rw[if_neg h1]at h
      by_cases h2:y<x
      · rw[if_pos h2]at h;omega
      · rw[if_neg h2]at h
        have e:x=y:=UInt8.le_antisymm (UInt8.not_lt.1 h2) (UInt8.not_lt.1 h1)
        subst e
        by_cases g1:x<z
        · rw[if_pos g1];omega
        · rw[if_neg g1]at g ⊢
          by_cases g2:z<x
          · rw[if_pos g2]at g;omega
          · rw[if_neg g2]at g ⊢;exact e9 h g
theorem fL (a:ByteArray):cmpS a a=0:=fR _
theorem gk {a b:ByteArray} (h:cmpS a b=0):a=b:=ByteArray.ext (Array.toList_inj.1 (gF h))
theorem fN (a b:ByteArray):cmpS b a = - cmpS a b:=fT _ _
theorem ec {a b c:ByteArray} (h:cmpS a b<0) (g:cmpS b c<0):cmpS a c<0:=e9 h g
theorem gH {a b:ByteArray} (h:cmpS a b<0):a≠b:=fun e=>by rw[e,fL]at h;omega
abbrev Lk:=S133
def Srt (l:List Lk):Prop:=l.Pairwise fun x y=>cmpS x.f0 y.f0<0
theorem aI {x:Lk} {l:List Lk}:Srt (x::l)↔(∀y∈l,cmpS x.f0 y.f0<0)∧Srt l:=List.pairwise_cons
theorem fP:Srt []:=List.Pairwise.nil
def ax:List Lk→ByteArray→Nat
  | [],_=>0
  |x::r,s=>if cmpS x.f0 s<0 then ax r s+1 else 0
def idM:List Lk→ByteArray→Option Int
  | [],_=>none
  |x::r,s=>if x.f0=s then some x.f1 else idM r s
theorem eH:∀(l:List Lk) (s:ByteArray),ax l s≤l.length
  | [],_=>Nat.le_refl _
  |x::r,s=>by rw[ax];split<;>simp;exact eH r s
theorem dH (x:Lk) (r:List Lk) (i:Int) (h:0<i):rd_T133 (x::r) i=rd_T133 r (i-1):=by
  unfold rd_T133
  rw[show i.toNat=(i-1).toNat+1 by omega];rfl
theorem fS:∀(l:List Lk) (s:ByteArray),Srt l→∀i:Int,0≤i→i<(l.length:Int)→(cmpS (rd_T133 l i).f0 s<0↔i<(ax l s:Int))
  | [],s,_,i,h0,h1=>by simp at h1;omega
  |x::r,s,hs,i,h0,h1=>by
    obtain⟨hx,hr⟩:=aI.1 hs
    rw[List.length_cons]at h1
    rw[ax]
    by_cases hi:i=0
    · subst hi
      have e:rd_T133 (x::r) 0=x:=rfl
      rw[e]
      by_cases c:cmpS x.f0 s<0
      · rw[if_pos c];exact⟨fun _=>by omega,fun _=>c⟩
      · rw[if_neg c];exact⟨fun h=>absurd h c,fun h=>by omega⟩
    · rw[dH x r i (by omega)]
      have ih:=fS r s hr (i-1) (by omega) (by omega)
      by_cases c:cmpS x.f0 s<0
      · rw[if_pos c,ih];omega
      · rw[if_neg c]
        refine⟨fun h=>?_,fun h=>by omega⟩
        exfalso
        have hm:rd_T133 r (i-1)∈r:=by
          unfold rd_T133
          rw[List.getD_eq_getElem?_getD,List.getElem?_eq_getElem (by omega)]
          exact List.getElem_mem _
        exact c (ec (hx _ hm) h)
theorem du (l:List Lk) (s:ByteArray) (hs:Srt l):∀(k:Nat) (i j:Int),0≤i→i≤(ax l s:Int)→(ax l s:Int)≤j→j≤(l.length:Int)→j-i≤k→bsn l s k i j=(ax l s:Int)
  | 0,i,j,h0,h1,h2,h3,h4=>by simp only[bsn];omega
  |k+1,i,j,h0,h1,h2,h3,h4=>by
    simp only[bsn]
    by_cases c:i<j
    · rw[if_pos c]
      have e:=fS l s hs ((i+j)/2) (by omega) (by omega)
      by_cases c2:cmpS (rd_T133 l ((i+j)/2)).f0 s<0
      · rw[if_pos c2]
        have:=e.1 c2
        exact du l s hs k _ _ (by omega) (by omega) h2 h3 (by omega)
      · rw[if_neg c2]
        have:¬((i+j)/2<(ax l s:Int)):=fun h=>c2 (e.2 h)
        exact du l s hs k _ _ h0 h1 (by omega) (by omega) (by omega)
    · rw[if_neg c];omega
theorem eZ:∀(l:List Lk) (s:ByteArray),(∀y∈l,y.f0≠s)→idM l s=none
  | [],_,_=>rfl
  |x::r,s,h=>by rw[idM,if_neg (h x List.mem_cons_self)];exact eZ r s (fun y hy=>h y (List.mem_cons_of_mem _ hy))
theorem eP:∀(l:List Lk) (s:ByteArray),Srt l→(match idM l s with
    |some i=>ax l s<l.length∧rd_T133 l (ax l s:Int) = ⟨s,i⟩
    |none=>¬(ax l s<l.length∧cmpS (rd_T133 l (ax l s:Int)).f0 s=0))
  | [],s,_=>by simp[idM,ax]
  |x::r,s,hs=>by
    obtain⟨hx,hr⟩:=aI.1 hs
    have ih:=eP r s hr
    rw[idM,ax]
    by_cases c:cmpS x.f0 s<0
    · rw[if_pos c,if_neg (gH c)]
      rw[show(((ax r s+1:Nat)):Int)=(ax r s:Int)+1 by omega,dH x r _ (by omega),show(ax r s:Int)+1-1=(ax r s:Int) by omega,List.length_cons]
      cases hd:idM r s with
      |some i=>rw[hd]at ih;exact⟨by have:=ih.1;omega,ih.2⟩
      |none=>rw[hd]at ih;exact fun h=>ih ⟨by have:=h.1;omega,h.2⟩
    · rw[if_neg c]
      have e:rd_T133 (x::r) ((0:Nat):Int)=x:=rfl
      rw[e]
      by_cases c2:x.f0=s
      · rw[if_pos c2]
        refine⟨by simp,?_⟩
        rw[←c2]
      · rw[if_neg c2]
        have hn:idM r s=none:=eZ r s (fun y hy he=>by
          have h1:=hx y hy
          rw[he]at h1
          exact c h1)
        rw[hn]
        exact fun h=>c2 (gk h.2)
def bc:List Lk→Lk→List Lk
  | [],x=>[x]
  |y::r,x=>if cmpS y.f0 x.f0<0 then y::bc r x else x::y::r
theorem fK:∀(l:List Lk) (x:Lk),l.take (ax l x.f0)++x::l.drop (ax l x.f0)=bc l x
  | [],x=>rfl
  |y::r,x=>by
    rw[bc,ax]
    by_cases c:cmpS y.f0 x.f0<0
    · rw[if_pos c,if_pos c,List.take_succ_cons,List.drop_succ_cons,List.cons_append,fK r x]
    · rw[if_neg c,if_neg c];rfl
theorem e6:∀(l:List Lk) (x y:Lk),y∈bc l x↔y=x∨y∈l
  | [],x,y=>by simp[bc]
  |z::r,x,y=>by
    rw[bc]
    split
    · rw[List.mem_cons,e6 r x y,List.mem_cons];exact⟨fun h=>by rcases h with h|h|h<;>simp[h],fun h=>by rcases h with h|h|h<;>simp[h]⟩
    · rw[List.mem_cons]
theorem bB:∀(l:List Lk) (x:Lk),(bc l x).length=l.length+1
  | [],x=>rfl
  |z::r,x=>by
    rw[bc]
    split
    · rw[List.length_cons,bB r x,List.length_cons]
    · simp
theorem d8:∀(l:List Lk) (x:Lk),Srt l→(∀y∈l,y.f0≠x.f0)→Srt (bc l x)
  | [],x,_,_=>aI.2 ⟨fun y hy=>(by cases hy),fP⟩
  |y::r,x,hs,hn=>by
    obtain⟨hy,hr⟩:=aI.1 hs
    rw[bc]
    by_cases c:cmpS y.f0 x.f0<0
    · rw[if_pos c]
      refine aI.2 ⟨fun z hz=>?_,d8 r x hr (fun z hz=>hn z (List.mem_cons_of_mem _ hz))⟩
      rcases(e6 r x z).1 hz with rfl|hz
      · exact c
      · exact hy z hz
    · rw[if_neg c]
      have h1:cmpS x.f0 y.f0<0:=by
        have h2:=fN y.f0 x.f0
        have h3:cmpS y.f0 x.f0≠0:=fun h=>hn y List.mem_cons_self (gk h)
        omega
      refine aI.2 ⟨fun z hz=>?_,hs⟩
      rcases List.mem_cons.1 hz with rfl|hz
      · exact h1
      · exact ec h1 (hy z hz)
theorem eQ (s:ByteArray) (l:List Lk):∀y∈delM s l,y.f0≠s:=by
  intro y hy he
  unfold delM at hy
  have:=(List.mem_filter.1 hy).2
  rw[he]at this
  simp at this
theorem a4 (s:ByteArray) {l:List Lk} (h:Srt l):Srt (delM s l):=List.Pairwise.filter _ h
theorem ak (s:ByteArray) (l:List Lk):(delM s l).length≤l.length:=List.length_filter_le _ _
theorem bj:∀(a b:List Int),a.Nodup→(∀x∈a,x∈b)→a.length≤b.length
  | [],b,_,_=>Nat.zero_le _
  |x::a,b,hn,h=>by
    obtain⟨h1,h2⟩:=List.nodup_cons.1 hn
    have hx:=h x List.mem_cons_self
    have e:=List.length_erase_of_mem hx
    have hp:=List.length_pos_of_mem hx
    have ih:=bj a (b.erase x) h2 (fun y hy=>(List.mem_erase_of_ne (fun e=>h1 (by rw[←e];exact hy))).2 (h y (List.mem_cons_of_mem _ hy)))
    rw[List.length_cons];omega
theorem ev {a b:List Int} (ha:a.Nodup) (hb:b.Nodup) (h:∀x∈a,x∈b):a.length=b.length↔∀y∈b,y∈a:=by
  constructor
  · intro e y hy
    by_cases c:y∈a
    · exact c
    · have:=bj (y::a) b (List.nodup_cons.2 ⟨c,ha⟩) (fun x hx=>by
        rcases List.mem_cons.1 hx with rfl|hx
        · exact hy
        · exact h x hx)
      rw[List.length_cons]at this;omega
  · intro g
    have h1:=bj a b ha h
    have h2:=bj b a hb g
    omega
abbrev Nd:=S130
abbrev Mv:=S135
def dV (b:Int):Bool:=decide ((97≤b∧b≤122)∨(48≤b∧b≤57)∨b=46)
def ai (s:ByteArray):Bool:=decide (1≤(s.size:Int)∧(s.size:Int)≤12)&&(bytesOf s).all dV
def aw (l:List Lk) (m:Mv):Option (List Lk):=
  if ai m.f1=true then
    if m.f0=1 then(if idM l m.f1=none∧m.f2.size=0 then some (bc (delM m.f1 l) ⟨m.f1,m.f3⟩)else none)
    else if m.f0=2 then(match idM l m.f1 with
      |some i=>if m.f3=0∧ai m.f2=true∧m.f2≠m.f1 then some (bc (delM m.f2 (delM m.f1 l)) ⟨m.f2,i⟩)else none
      |none=>none)
    else if m.f0=3 then(if idM l m.f1≠none∧m.f2.size=0∧m.f3=0 then some (delM m.f1 l)else none)
    else none
  else none
theorem cu {l l':List Lk} {m:Mv} (hs:Srt l) (h:aw l m=some l'):Srt l':=by
  unfold aw at h
  split at h
  · split at h
    · split at h
      · cases h;exact d8 _ _ (a4 _ hs) (eQ _ _)
      · cases h
    · split at h
      · split at h
        · split at h
          · cases h;exact d8 _ _ (a4 _ (a4 _ hs)) (eQ _ _)
          · cases h
        · cases h
      · split at h
        · split at h
          · cases h;exact a4 _ hs
          · cases h
        · cases h
  · cases h
theorem aD {l l':List Lk} {m:Mv} (h:aw l m=some l'):l'.length≤l.length+1:=by
  unfold aw at h
  split at h
  · split at h
    · split at h
      · cases h;rw[bB];have:=ak m.f1 l;omega
      · cases h
    · split at h
      · split at h
        · split at h
          · cases h;rw[bB];have:=ak m.f1 l;have:=ak m.f2 (delM m.f1 l);omega
          · cases h
        · cases h
      · split at h
        · split at h
          · cases h;have:=ak m.f1 l;omega
          · cases h
        · cases h
  · cases h
def a7:List Lk→List Mv→Option (List Lk)
  |l,[]=>some l
  |l,m::r=>(aw l m).bind fun l'=>a7 l' r
theorem eU:∀(ms:List Mv) {l l':List Lk},Srt l→a7 l ms=some l'→Srt l'∧l'.length≤l.length+ms.length
  | [],l,l',hs,h=>by cases h;exact⟨hs,by simp⟩
  |m::r,l,l',hs,h=>by
    rw[a7]at h
    cases e:aw l m with
    |none=>rw[e]at h;cases h
    |some l1=>
      rw[e]at h
      obtain⟨q1,q2⟩:=eU r (cu hs e) h
      have:=aD e
      rw[List.length_cons]
      exact⟨q1,by omega⟩
def bK (l:List Nd) (i:Int):Bool:=l.any fun x=>decide (x.f0=i)
def aS (nd:List Nd):Option ByteArray→List Int→List Lk→Bool
  | _,_,[]=>true
  |p,own,x::r=>ai x.f0&&(match p with|none=>true|some q=>decide (cmpS q x.f0<0))&&bK nd x.f1 && !(decide (x.f1∈own))&&aS nd (some x.f0) (own ++ [x.f1]) r
theorem a5 (nd:List Nd):∀(l:List Lk) (p:Option ByteArray) (own:List Int),aS nd p own l=true→Srt l∧(∀q,p=some q→∀y∈l,cmpS q y.f0<0)∧(∀y∈l,bK nd y.f1=true)∧(own.Nodup→(own++l.map fun y=>y.f1).Nodup)
  | [],p,own,_=>⟨fP,fun _ _ y hy=>(by cases hy),fun y hy=>(by cases hy),fun h=>by simpa using h⟩
  |x::r,p,own,h=>by
    unfold aS at h
    simp only[Bool.and_eq_true,Bool.not_eq_true',decide_eq_false_iff_not]at h
    obtain⟨⟨⟨⟨h1,h2⟩,h3⟩,h4⟩,h5⟩:=h
    obtain⟨g1,g2,g3,g4⟩:=a5 nd r (some x.f0) (own ++ [x.f1]) h5
    refine⟨aI.2 ⟨g2 x.f0 rfl,g1⟩,?_,?_,?_⟩
    · intro q hq y hy
      subst hq
      simp only[decide_eq_true_eq]at h2
      rcases List.mem_cons.1 hy with rfl|hy
      · exact h2
      · exact ec h2 (g2 _ rfl y hy)
    · intro y hy
      rcases List.mem_cons.1 hy with rfl|hy
      · exact h3
      · exact g3 y hy
    · intro hn
      have:=g4 (List.nodup_append.2 ⟨hn,by simp,fun a ha b hb e=>by
        rw[List.mem_singleton.1 hb]at e
        exact h4 (by rw[←e];exact ha)⟩)
      simpa using this
def aF (nd:List Nd):List Int→List Lk→List Mv→Option (List Int)
  |own,_,[]=>some own
  |own,l,m::r=>match aw l m with
    |none=>none
    |some l'=>if m.f0=1 then(if bK nd m.f3=true∧m.f3 ∉ own then aF nd (own ++ [m.f3]) l' r else none)else aF nd own l' r
def ao (ms:List Mv):List Int:=(ms.filter fun m=>decide (m.f0=1)).map fun m=>m.f3
theorem bD (nd:List Nd):∀(ms:List Mv) (own:List Int) (l:List Lk) (o:List Int),aF nd own l ms=some o→o=own++ao ms∧(own.Nodup→o.Nodup)∧((∀x∈own,bK nd x=true)→∀x∈o,bK nd x=true)∧(a7 l ms).isSome=true
  | [],own,l,o,h=>by cases h;exact⟨by simp[ao],id,id,rfl⟩
  |m::r,own,l,o,h=>by
    rw[aF]at h
    cases e:aw l m with
    |none=>rw[e]at h;cases h
    |some l'=>
      rw[e]at h
      simp only[]at h
      by_cases c:m.f0=1
      · rw[if_pos c]at h
        by_cases c2:bK nd m.f3=true∧m.f3 ∉ own
        · rw[if_pos c2]at h
          obtain⟨h1,h2,h3,h4⟩:=bD nd r _ l' o h
          refine⟨by rw[h1];simp[ao,c],fun hn=>h2 ?_,fun ha=>h3 ?_,by rw[a7,e];exact h4⟩
          · exact List.nodup_append.2 ⟨hn,by simp,fun a ha b hb e=>by
              rw[List.mem_singleton.1 hb]at e
              exact c2.2 (by rw[←e];exact ha)⟩
          · intro x hx
            rcases List.mem_append.1 hx with hx|hx
            · exact ha x hx
            · rw[List.mem_singleton.1 hx];exact c2.1
        · rw[if_neg c2]at h;cases h
      · rw[if_neg c]at h
        obtain⟨h1,h2,h3,h4⟩:=bD nd r _ l' o h
        exact⟨by rw[h1];simp[ao,c],h2,h3,by rw[a7,e];exact h4⟩
def bm (next:Int):Option Int→List Nd→Bool
  | _,[]=>true
  |p,x::r=>decide (1≤x.f0∧x.f0≤next-1)&&(match p with|none=>true|some q=>decide (q<x.f0))&&decide (0≤x.f2∧x.f2≤(x.f1.size:Int))&&bm next (some x.f0) r
theorem bU (next:Int):∀(l:List Nd) (p:Option Int),bm next p l=true→(l.map fun x=>x.f0).Nodup∧∀q,p=some q→∀y∈l,q<y.f0
  | [],p,_=>⟨List.nodup_nil,fun _ _ y hy=>by cases hy⟩
  |x::r,p,h=>by
    unfold bm at h
    simp only[Bool.and_eq_true,decide_eq_true_eq]at h
    obtain⟨⟨⟨h1,h2⟩,h3⟩,h4⟩:=h
    obtain⟨g1,g2⟩:=bU next r (some x.f0) h4
    refine⟨?_,?_⟩
    · rw[List.map_cons]
      refine List.nodup_cons.2 ⟨fun hm=>?_,g1⟩
      obtain⟨y,hy,e⟩:=List.mem_map.1 hm
      have:=g2 x.f0 rfl y hy
      omega
    · intro q hq y hy
      subst hq
      simp only[decide_eq_true_eq]at h2
      rcases List.mem_cons.1 hy with rfl|hy
      · exact h2
      · have:=g2 x.f0 rfl y hy;omega
def fm (l:List Nd):Int:=(l.map fun x=>(x.f1.size:Int)).foldr (· + ·) 0
def okM (room next:Int) (nd:List Nd) (dir:List Lk) (mv:List Mv):Bool:=
  decide (0≤room∧room≤1048576)&&decide (1≤next∧next≤1000000)&&bm next none nd&&decide ((nd.length:Int)≤10)&&decide (fm nd≤room)&&decide ((mv.length:Int)≤20)&&aS nd none [] dir&&(match aF nd (dir.map fun y=>y.f1) dir mv with|none=>false|some o=>decide ((o.length:Int)=nd.length))
theorem eW (nd:List Nd) (i:Int):bK nd i=true↔i∈nd.map fun x=>x.f0:=by
  simp[bK]
theorem fb (room next:Int) (nd:List Nd) (dir:List Lk) (mv:List Mv):okM room next nd dir mv=true↔(0≤room∧room≤1048576)∧(1≤next∧next≤1000000)∧(nd.length:Int)≤10∧(mv.length:Int)≤20∧(dir.length:Int)≤10∧fm nd≤room∧bm next none nd=true∧(∀x∈nd,x.f0∈dir.map (fun y=>y.f1)∨x.f0∈ao mv)∧aS nd none [] dir=true∧(aF nd (dir.map fun y=>y.f1) dir mv).isSome=true:=by
  unfold okM
  simp only[Bool.and_eq_true,decide_eq_true_eq]
  constructor
  · rintro⟨⟨⟨⟨⟨⟨⟨h1,h2⟩,h3⟩,h4⟩,h5⟩,h6⟩,h7⟩,h8⟩
    cases e:aF nd (dir.map fun y=>y.f1) dir mv with
    |none=>rw[e]at h8;cases h8
    |some o=>
      rw[e]at h8
      simp only[decide_eq_true_eq]at h8
      obtain⟨s1,s2,s3,s4⟩:=a5 nd dir none [] h7
      obtain⟨o1,o2,o3,o4⟩:=bD nd mv _ dir o e
      have hnd:=(bU next nd none h3).1
      have hdn:(dir.map fun y=>y.f1).Nodup:=by simpa using s4 List.nodup_nil
      have hon:=o2 hdn
      have hsub:∀x∈o,x∈nd.map fun x=>x.f0:=fun x hx=>(eW nd x).1 (o3 (fun y hy=>by
        obtain⟨z,hz,rfl⟩:=List.mem_map.1 hy
        exact s3 z hz) x hx)
      have hall:=(ev hon hnd hsub).1 (by rw[List.length_map];omega)
      have hlen:=bj _ _ hdn (fun x hx=>hsub x (by rw[o1];exact List.mem_append.2 (.inl hx)))
      rw[List.length_map,List.length_map]at hlen
      refine⟨h1,h2,h4,h6,by omega,h5,h3,fun x hx=>?_,h7,rfl⟩
      have:=hall x.f0 (List.mem_map.2 ⟨x,hx,rfl⟩)
      rw[o1]at this
      exact List.mem_append.1 this
  · rintro⟨h1,h2,h4,h6,hd,h5,h3,ha,h7,h8⟩
    refine⟨⟨⟨⟨⟨⟨⟨h1,h2⟩,h3⟩,h4⟩,h5⟩,h6⟩,h7⟩,?_⟩
    cases e:aF nd (dir.map fun y=>y.f1) dir mv with
    |none=>rw[e]at h8;cases h8
    |some o=>
      simp only[decide_eq_true_eq]
      obtain⟨s1,s2,s3,s4⟩:=a5 nd dir none [] h7
      obtain⟨o1,o2,o3,o4⟩:=bD nd mv _ dir o e
      have hnd:=(bU next nd none h3).1
      have hdn:(dir.map fun y=>y.f1).Nodup:=by simpa using s4 List.nodup_nil
      have hsub:∀x∈o,x∈nd.map fun x=>x.f0:=fun x hx=>(eW nd x).1 (o3 (fun y hy=>by
        obtain⟨z,hz,rfl⟩:=List.mem_map.1 hy
        exact s3 z hz) x hx)
      have:=(ev (o2 hdn) hnd hsub).2 (fun y hy=>by
        obtain⟨x,hx,rfl⟩:=List.mem_map.1 hy
        rw[o1]
        exact List.mem_append.2 (ha x hx))
      rw[List.length_map]at this
      omega
theorem b9 {s t:ByteArray}:s.toList=t.toList↔s=t:=toList_eq_iff
theorem dU {s:ByteArray}:s.toList=([]:List UInt8)↔s.size=0:=by
  rw[ByteArray.toList_eq]
  have:s.size=s.data.toList.length:=by rw[Array.length_toList];rfl
  rw[this]
  exact⟨fun h=>by rw[h];rfl,fun h=>List.length_eq_zero_iff.1 h⟩
theorem gf:∀(a b:List UInt8),Op.bytesLess a b=decide (Lib.compareBytes a b<0)
  | [],[]=>rfl
  | [],_::_=>rfl
  | _::_,[]=>rfl
  |x::a,y::b=>by
    rw[Op.bytesLess,Lib.compareBytes,gf a b]
    by_cases h1:x<y
    · rw[if_pos h1,decide_eq_true h1];rfl
    · rw[if_neg h1,decide_eq_false h1,Bool.false_or]
      by_cases h2:y<x
      · rw[if_pos h2]
        have:(x==y)=false:=beq_eq_false_iff_ne.mpr (fun e=>by rw[e]at h2;exact UInt8.lt_irrefl _ h2)
        rw[this];rfl
      · rw[if_neg h2]
        have:x=y:=UInt8.le_antisymm (UInt8.not_lt.1 h2) (UInt8.not_lt.1 h1)
        rw[beq_iff_eq.mpr this,Bool.true_and]
theorem gG (a b:ByteArray):(Op.bytesLess a.toList b.toList=true)↔cmpS a b<0:=by
  rw[ByteArray.toList_eq,ByteArray.toList_eq,gf,decide_eq_true_eq];rfl
def ar:List Nd→Int
  | []=>0
  |x::r=>(x.f1.size:Int)+ar r
theorem cq:∀l:List Nd,fm l=ar l
  | []=>rfl
  |x::r=>by
    have:=cq r
    unfold fm at this ⊢
    rw[List.map_cons,List.foldr_cons,this];rfl
theorem fo:∀(l:List Nd),(∀x∈l,x.f1.size≤2097152)→0≤ar l∧ar l≤2097152*(l.length:Int)
  | [],_=>by simp[ar]
  |x::r,h=>by
    have:=fo r (fun y hy=>h y (List.mem_cons_of_mem _ hy))
    have:=h x List.mem_cons_self
    rw[ar,List.length_cons];omega
theorem cU (ro nx:Int) (di:List Lk) (mv:List Mv):∀(b a:List Nd) (k:Nat) (acc:Int),a.length+b.length≤2097152→(∀x∈b,x.f1.size≤2097152)→0≤acc→acc≤2097152*(a.length:Int)→b.length<k→spec_l4Bytes.l0 k acc (a.length:Int) ro nx (a++b) di mv=some (acc+ar b)
  | [],a,k,acc,h0,h1,h2,h3,hk=>by
    obtain⟨q,rfl⟩:∃m,k=m+1:=⟨k-1,by omega⟩
    simp only[spec_l4Bytes.l0];rw[if_neg (by simp),ar,Int.add_zero]
  |x::b,a,k,acc,h0,h1,h2,h3,hk=>by
    simp only[List.length_cons]at h0 hk
    obtain⟨q,rfl⟩:∃m,k=m+1:=⟨k-1,by omega⟩
    have hx:=h1 x List.mem_cons_self
    have f:=cU ro nx di mv b (a ++ [x]) q (acc+(x.f1.size:Int)) (by simp;omega) (fun y hy=>h1 y (List.mem_cons_of_mem _ hy)) (by omega) (by simp;omega) (by omega)
    rw[List.append_assoc,List.singleton_append,show(((a ++ [x]).length:Nat):Int)=(a.length:Int)+1 by simp]at f
    simp only[spec_l4Bytes.l0]
    rw[if_pos (by simp;omega),if_pos (by omega),b6,w64 (n:=acc+(x.f1.size:Int)) (by omega) (by omega),w64 (n:=(a.length:Int)+1) (by omega) (by omega),f,ar,Int.add_assoc]
theorem fZ (ro nx:Int) (nd:List Nd) (di:List Lk) (mv:List Mv) (h0:nd.length≤1048676) (h1:∀x∈nd,x.f1.size≤2097152) (k:Nat) (hk:nd.length<k):spec_l4Bytes.f k ro nx nd di mv=some (ar nd):=by
  have:=cU ro nx di mv nd [] k 0 (by simp;omega) h1 (by omega) (by simp) hk
  unfold spec_l4Bytes.f
  simpa using this
theorem cx (i:Int):∀(b a:List Lk) (k:Nat),a.length+b.length≤2097152→b.length<k→spec_l4Linked.l0 k (a++b) i (a.length:Int)=some (decide (i∈b.map fun y=>y.f1))
  | [],a,k,h0,hk=>by
    obtain⟨q,rfl⟩:∃m,k=m+1:=⟨k-1,by omega⟩
    simp only[spec_l4Linked.l0];rw[if_neg (by simp)];simp
  |x::b,a,k,h0,hk=>by
    simp only[List.length_cons]at h0 hk
    obtain⟨q,rfl⟩:∃m,k=m+1:=⟨k-1,by omega⟩
    have f:=cx i b (a ++ [x]) q (by simp;omega) (by omega)
    rw[List.append_assoc,List.singleton_append,show(((a ++ [x]).length:Nat):Int)=(a.length:Int)+1 by simp]at f
    simp only[spec_l4Linked.l0]
    rw[if_pos (by simp;omega),if_pos (by omega),aW,w64 (n:=(a.length:Int)+1) (by omega) (by omega),f]
    by_cases c:x.f1=i
    · rw[if_pos c,decide_eq_true];simp[c]
    · rw[if_neg c];congr 1;rw[Bool.eq_iff_iff,decide_eq_true_eq,decide_eq_true_eq,List.map_cons,List.mem_cons]
      exact⟨fun h=>.inr h,fun h=>h.resolve_left (fun e=>c e.symm)⟩
theorem b7 (l:List Lk) (i:Int) (h0:l.length≤1048676) (k:Nat) (hk:l.length<k):spec_l4Linked.f k l i=some (decide (i∈l.map fun y=>y.f1)):=by
  have:=cx i l [] k (by simp;omega) hk
  unfold spec_l4Linked.f
  simpa using this
theorem fA (x:Mv) (b:List Mv):ao (x::b)=if x.f0=1 then x.f3::ao b else ao b:=by
  unfold ao
  by_cases c:x.f0=1
  · rw[if_pos c,List.filter_cons_of_pos (by simpa using c)];rfl
  · rw[if_neg c,List.filter_cons_of_neg (by simpa using c)]
theorem d3 (i:Int):∀(b a:List Mv) (k:Nat),a.length+b.length≤2097152→b.length<k→spec_l4Made.l0 k (a++b) i (a.length:Int)=some (decide (i∈ao b))
  | [],a,k,h0,hk=>by
    obtain⟨q,rfl⟩:∃m,k=m+1:=⟨k-1,by omega⟩
    simp only[spec_l4Made.l0];rw[if_neg (by simp)];simp[ao]
  |x::b,a,k,h0,hk=>by
    simp only[List.length_cons]at h0 hk
    obtain⟨q,rfl⟩:∃m,k=m+1:=⟨k-1,by omega⟩
    have f:=d3 i b (a ++ [x]) q (by simp;omega) (by omega)
    rw[List.append_assoc,List.singleton_append,show(((a ++ [x]).length:Nat):Int)=(a.length:Int)+1 by simp]at f
    simp only[spec_l4Made.l0]
    rw[if_pos (by simp;omega),if_pos (by omega),cN,w64 (n:=(a.length:Int)+1) (by omega) (by omega),f,fA]
    by_cases c:x.f0=1
    · rw[if_pos c,if_pos c]
      by_cases c2:x.f3=i
      · rw[if_pos c2,decide_eq_true];rw[c2];exact List.mem_cons_self
      · rw[if_neg c2];congr 1;rw[Bool.eq_iff_iff,decide_eq_true_eq,decide_eq_true_eq,List.mem_cons]
        exact⟨fun h=>.inr h,fun h=>h.resolve_left (fun e=>c2 e.symm)⟩
    · rw[if_neg c,if_neg c]
theorem e7 (l:List Mv) (i:Int) (h0:l.length≤1048676) (k:Nat) (hk:l.length<k):spec_l4Made.f k l i=some (decide (i∈ao l)):=by
  have:=d3 i l [] k (by simp;omega) hk
  unfold spec_l4Made.f
  simpa using this
theorem fC (s:ByteArray) (hs:s.size≤1048676):∀(d k:Nat) (i:Int),0≤i→i+d=s.size→d<k→spec_l4Name.l0 k s i=some (((bytesOf s).drop i.toNat).all dV):=by
  intro d
  induction d with
  |zero=>
    intro k i h0 h1 hk
    obtain⟨q,rfl⟩:∃m,k=m+1:=⟨k-1,by omega⟩
    simp only[spec_l4Name.l0]
    rw[if_neg (by omega),List.drop_of_length_le (by rw[bytesOf_length];omega)];rfl
  |succ d ih=>
    intro k i h0 h1 hk
    obtain⟨q,rfl⟩:∃m,k=m+1:=⟨k-1,by omega⟩
    have f:=ih q (i+1) (by omega) (by omega) (by omega)
    simp only[spec_l4Name.l0]
    rw[if_pos (by omega),if_pos h0,w64 (n:=i+1) (by omega) (by omega),f,bt_drop h0 (by omega),List.all_cons,show(i+1).toNat=i.toNat+1 by omega]
    generalize bt s i=v
    generalize ((bytesOf s).drop (i.toNat+1)).all dV=R
    have e:dV v=decide ((97≤v∧v≤122)∨(48≤v∧v≤57)∨v=46):=rfl
    by_cases hv:(97≤v∧v≤122)∨(48≤v∧v≤57)∨v=46
    · rw[e,decide_eq_true hv,Bool.true_and]
      repeat' split
      all_goals (first|rfl|(exfalso;omega))
    · rw[e,decide_eq_false hv,Bool.false_and]
      repeat' split
      all_goals (first|rfl|(exfalso;omega))
theorem eg (s:ByteArray) (hs:s.size≤1048676) (k:Nat) (hk:s.size<k):spec_l4Name.f k s=some (ai s):=by
  unfold spec_l4Name.f ai
  rw[ac]
  simp only[Option.bind_some,decide_eq_true_eq]
  by_cases h:1≤(s.size:Int)∧(s.size:Int)≤12
  · rw[if_pos h,fC s hs s.size k 0 (by omega) (by omega) hk,decide_eq_true h];rfl
  · rw[if_neg h,decide_eq_false h];rfl
theorem aG (i:Int):∀(l:List Nd) (o:Int),0≤o→(ixf i l o = -1∧bK l i=false)∨(o≤ixf i l o∧ixf i l o<o+l.length∧bK l i=true)
  | [],o,h=>.inl ⟨rfl,rfl⟩
  |x::r,o,h=>by
    rw[ixf]
    have e:bK (x::r) i=(decide (x.f0=i)||bK r i):=rfl
    by_cases c:x.f0=i
    · rw[if_pos (by simpa using c),e,decide_eq_true c,List.length_cons];exact .inr ⟨by omega,by omega,rfl⟩
    · rw[if_neg (by simpa using c),e,decide_eq_false c,Bool.false_or,List.length_cons]
      rcases aG i r (o+1) (by omega)with⟨h1,h2⟩|⟨h1,h2,h3⟩
      · exact .inl ⟨h1,h2⟩
      · exact .inr ⟨by omega,by omega,h3⟩
theorem cT (ro nx i:Int) (di:List Lk) (mv:List Mv):∀(b a:List Nd) (k:Nat),a.length+b.length≤2097152→b.length<k→spec_l4Inode.l0 k i (a.length:Int) ro nx (a++b) di mv=some (ixf i b a.length)
  | [],a,k,h0,hk=>by
    obtain⟨q,rfl⟩:∃m,k=m+1:=⟨k-1,by omega⟩
    simp only[spec_l4Inode.l0];rw[if_neg (by simp)];rfl
  |x::b,a,k,h0,hk=>by
    simp only[List.length_cons]at h0 hk
    obtain⟨q,rfl⟩:∃m,k=m+1:=⟨k-1,by omega⟩
    have f:=cT ro nx i di mv b (a ++ [x]) q (by simp;omega) (by omega)
    rw[List.append_assoc,List.singleton_append,show(((a ++ [x]).length:Nat):Int)=(a.length:Int)+1 by simp]at f
    simp only[spec_l4Inode.l0]
    rw[if_pos (by simp;omega),if_pos (by omega),b6,w64 (n:=(a.length:Int)+1) (by omega) (by omega),f,ixf]
    by_cases c:x.f0=i
    · rw[if_pos c,if_pos (by simpa using c)]
    · rw[if_neg c,if_neg (by simpa using c)]
theorem cA (ro nx i:Int) (nd:List Nd) (di:List Lk) (mv:List Mv) (h0:nd.length≤1048676) (k:Nat) (hk:nd.length<k):spec_l4Inode.f k ro nx nd di mv i=some (ixf i nd 0):=by
  have:=cT ro nx i di mv nd [] k (by simp;omega) hk
  unfold spec_l4Inode.f
  simpa using this
def atM (s:ByteArray):List Lk→Int→Int
  | [],_=>-1
  |x::r,o=>if x.f0=s then o else atM s r (o+1)
theorem e8 (s:ByteArray):∀(b a:List Lk) (k:Nat),a.length+b.length≤2097152→b.length<k→spec_l4At.l0 k (a++b) s (a.length:Int)=some (atM s b a.length)
  | [],a,k,h0,hk=>by
    obtain⟨q,rfl⟩:∃m,k=m+1:=⟨k-1,by omega⟩
    simp only[spec_l4At.l0];rw[if_neg (by simp)];rfl
  |x::b,a,k,h0,hk=>by
    simp only[List.length_cons]at h0 hk
    obtain⟨q,rfl⟩:∃m,k=m+1:=⟨k-1,by omega⟩
    have f:=e8 s b (a ++ [x]) q (by simp;omega) (by omega)
    rw[List.append_assoc,List.singleton_append,show(((a ++ [x]).length:Nat):Int)=(a.length:Int)+1 by simp]at f
    simp only[spec_l4At.l0,b9]
    rw[if_pos (by simp;omega),if_pos (by omega),aW,w64 (n:=(a.length:Int)+1) (by omega) (by omega),f,atM]
    split<;>rfl
theorem gq (l:List Lk) (s:ByteArray) (h0:l.length≤1048676) (k:Nat) (hk:l.length<k):spec_l4At.f k l s=some (atM s l 0):=by
  have:=e8 s l [] k (by simp;omega) hk
  unfold spec_l4At.f
  simpa using this
theorem fy (s:ByteArray):∀(l:List Lk) (o:Int),0≤o→(match idM l s with
    |some i=>∃n:Nat,atM s l o=o+n∧n<l.length∧(rd_T133 l (n:Int)).f1=i
    |none=>atM s l o = -1)
  | [],o,h=>rfl
  |x::r,o,h=>by
    rw[idM,atM]
    by_cases c:x.f0=s
    · rw[if_pos c,if_pos c];exact⟨0,by omega,by simp,rfl⟩
    · rw[if_neg c,if_neg c]
      have ih:=fy s r (o+1) (by omega)
      cases hd:idM r s with
      |none=>rw[hd]at ih;exact ih
      |some i=>
        rw[hd]at ih
        obtain⟨n,h1,h2,h3⟩:=ih
        refine⟨n+1,by rw[h1];omega,by rw[List.length_cons];omega,?_⟩
        rw[dH x r _ (by omega),show(((n+1:Nat)):Int)-1=(n:Int) by omega];exact h3
theorem fW (s:ByteArray) (x:Lk) (r:List Lk):delM s (x::r)=if x.f0=s then delM s r else x::delM s r:=by
  unfold delM
  by_cases c:x.f0=s
  · rw[if_pos c,List.filter_cons_of_neg (by simp[c])]
  · rw[if_neg c,List.filter_cons_of_pos (by
      rw[Bool.not_eq_true',beq_eq_false_iff_ne];exact fun e=>c (b9.1 e))]
theorem aX (s:ByteArray):∀(b a o:List Lk) (k:Nat),a.length+b.length≤2097152→o.length≤a.length→b.length<k→spec_l4Without.l0 k (a++b) s o (a.length:Int)=some (o++delM s b)
  | [],a,o,k,h0,ho,hk=>by
    obtain⟨q,rfl⟩:∃m,k=m+1:=⟨k-1,by omega⟩
    simp only[spec_l4Without.l0];rw[if_neg (by simp)];simp[delM]
  |x::b,a,o,k,h0,ho,hk=>by
    simp only[List.length_cons]at h0 hk
    obtain⟨q,rfl⟩:∃m,k=m+1:=⟨k-1,by omega⟩
    simp only[spec_l4Without.l0,b9]
    rw[if_pos (by simp;omega),if_pos (by omega),aW,w64 (n:=(a.length:Int)+1) (by omega) (by omega),fW]
    by_cases c:x.f0=s
    · have f:=aX s b (a ++ [x]) o q (by simp;omega) (by simp;omega) (by omega)
      rw[List.append_assoc,List.singleton_append,show(((a ++ [x]).length:Nat):Int)=(a.length:Int)+1 by simp]at f
      rw[if_pos c,if_pos c,f]
    · have f:=aX s b (a ++ [x]) (o ++ [x]) q (by simp;omega) (by simp;omega) (by omega)
      rw[List.append_assoc,List.singleton_append,show(((a ++ [x]).length:Nat):Int)=(a.length:Int)+1 by simp]at f
      rw[if_neg c,if_neg c,if_pos (by omega),show(⟨x.f0,x.f1⟩:Lk)=x from rfl,f];simp
theorem bz (l:List Lk) (s:ByteArray) (h0:l.length≤1048676) (k:Nat) (hk:l.length<k):spec_l4Without.f k l s=some (delM s l):=by
  have:=aX s l [] [] k (by simp;omega) (by simp) hk
  unfold spec_l4Without.f
  simpa using this
theorem d9 (x:Lk):∀(b a o:List Lk) (k:Nat),a.length+b.length≤2097152→o.length≤a.length+1→b.length<k→spec_l4With.l0 k (a++b) o true (a.length:Int) x.f0 x.f1=some (o++b)
  | [],a,o,k,h0,ho,hk=>by
    obtain⟨q,rfl⟩:∃m,k=m+1:=⟨k-1,by omega⟩
    simp only[spec_l4With.l0];rw[if_neg (by simp),if_pos trivial];simp
  |y::b,a,o,k,h0,ho,hk=>by
    simp only[List.length_cons]at h0 hk
    obtain⟨q,rfl⟩:∃m,k=m+1:=⟨k-1,by omega⟩
    have f:=d9 x b (a ++ [y]) (o ++ [y]) q (by simp;omega) (by simp;omega) (by omega)
    rw[List.append_assoc,List.singleton_append,show(((a ++ [y]).length:Nat):Int)=(a.length:Int)+1 by simp]at f
    simp only[spec_l4With.l0]
    rw[if_pos (by simp;omega),if_pos trivial,if_pos (by omega),if_pos (by omega),aW,w64 (n:=(a.length:Int)+1) (by omega) (by omega),show(⟨y.f0,y.f1⟩:Lk)=y from rfl,f];simp
theorem d5 (x:Lk):∀(b a o:List Lk) (k:Nat),a.length+b.length≤2097152→o.length≤a.length→(∀y∈b,y.f0≠x.f0)→b.length<k→spec_l4With.l0 k (a++b) o false (a.length:Int) x.f0 x.f1=some (o++bc b x)
  | [],a,o,k,h0,ho,hn,hk=>by
    obtain⟨q,rfl⟩:∃m,k=m+1:=⟨k-1,by omega⟩
    simp only[spec_l4With.l0];rw[if_neg (by simp),if_neg (by decide),if_pos (by simp only[List.length_nil]at h0;omega)];rfl
  |y::b,a,o,k,h0,ho,hn,hk=>by
    simp only[List.length_cons]at h0 hk
    obtain⟨q,rfl⟩:∃m,k=m+1:=⟨k-1,by omega⟩
    have hy:=hn y List.mem_cons_self
    have h3:cmpS y.f0 x.f0≠0:=fun h=>hy (gk h)
    have h4:=fN y.f0 x.f0
    simp only[spec_l4With.l0,gG]
    rw[if_pos (by simp;omega),if_neg (by decide),if_pos (by omega),aW,w64 (n:=(a.length:Int)+1) (by omega) (by omega),bc]
    by_cases c:cmpS y.f0 x.f0<0
    · have f:=d5 x b (a ++ [y]) (o ++ [y]) q (by simp;omega) (by simp;omega) (fun z hz=>hn z (List.mem_cons_of_mem _ hz)) (by omega)
      rw[List.append_assoc,List.singleton_append,show(((a ++ [y]).length:Nat):Int)=(a.length:Int)+1 by simp]at f
      rw[if_neg (by omega),if_pos (by omega),if_pos c,show(⟨y.f0,y.f1⟩:Lk)=y from rfl,f];simp
    · have f:=d9 x b (a ++ [y]) (o ++ [x] ++ [y]) q (by simp;omega) (by simp;omega) (by omega)
      rw[List.append_assoc,List.singleton_append,show(((a ++ [y]).length:Nat):Int)=(a.length:Int)+1 by simp]at f
      rw[if_pos (by omega),if_pos (by omega),if_neg c]
      simp only[Option.bind_some]
      rw[if_pos (by simp;omega),show(⟨y.f0,y.f1⟩:Lk)=y from rfl,show(⟨x.f0,x.f1⟩:Lk)=x from rfl,f];simp
theorem fg (l:List Lk) (x0:ByteArray) (x1:Int) (h0:l.length≤1048676) (k:Nat) (hk:l.length<k):spec_l4With.f k l x0 x1=some (bc (delM x0 l) ⟨x0,x1⟩):=by
  have hd:=ak x0 l
  unfold spec_l4With.f
  rw[bz l x0 h0 k hk]
  simp only[Option.bind_some]
  have:=d5 ⟨x0,x1⟩ (delM x0 l) [] [] k (by simp;omega) (by simp) (fun y hy=>eQ x0 l y hy) (by omega)
  simpa using this
theorem ew (l:List Lk) (m:Mv) (h0:l.length≤1048650) (hm1:m.f1.size≤1048676) (hm2:m.f2.size≤1048676) (k:Nat) (hk:1048690<k):spec_l4Apply.f k l m.f0 m.f1 m.f2 m.f3=some (match aw l m with|some l'=>(l',true)|none=>(l,false)):=by
  obtain⟨q,rfl⟩:∃m,k=m+1:=⟨k-1,by omega⟩
  obtain⟨p,rfl⟩:∃m,q=m+1:=⟨q-1,by omega⟩
  have A:=fy m.f1 l 0 (by omega)
  unfold spec_l4Apply.f
  rw[gq l m.f1 (by omega) _ (by omega),eg m.f1 hm1 _ (by omega)]
  simp only[Option.bind_some,dU]
  unfold aw
  by_cases hn:ai m.f1=true
  · rw[if_pos hn,if_pos hn]
    have key1:∀b,spec_l4Apply.j1 (p+1) l (atM m.f1 l 0) b m.f0 m.f1 m.f2 m.f3=if b=true then((spec_l4Without.f p l m.f1).bind fun t184=>(if 0≤(atM m.f1 l 0)then(if(atM m.f1 l 0)<(l.length:Int)then((spec_l4With.f p t184 m.f2 ((rd_T133 l (atM m.f1 l 0)).f1)).bind fun t188=>(some (t188,true)))else(none))else(none)))else(if m.f0=3 then(if m.f3=0 then(if m.f2.size=0 then(if atM m.f1 l 0≥0 then some (delM m.f1 l,true)else(some (l,false)))else(some (l,false)))else(some (l,false)))else(some (l,false))):=by
      intro b
      simp only[spec_l4Apply.j1,dU]
      rw[bz l m.f1 (by omega) p (by omega)]
      simp only[Option.bind_some]
    by_cases h1:m.f0=1
    · rw[if_pos h1,if_pos h1]
      have j1:∀b,spec_l4Apply.j0 (p+1+1) l (atM m.f1 l 0) b m.f0 m.f1 m.f2 m.f3=if b=true then some (bc (delM m.f1 l) ⟨m.f1,m.f3⟩,true)else some (l,false):=by
        intro b
        simp only[spec_l4Apply.j0]
        rw[fg l m.f1 m.f3 (by omega) _ (by omega),if_neg (show ¬m.f0=2 by omega),key1,if_neg (show ¬(false=true) by decide),if_neg (show ¬m.f0=3 by omega)]
        rfl
      rw[j1,j1]
      by_cases h2:m.f2.size=0
      · rw[if_pos h2]
        cases hd:idM l m.f1 with
        |none=>rw[hd]at A;rw[A,if_pos (by decide),if_pos ⟨rfl,h2⟩]
        |some i=>
          rw[hd]at A
          obtain⟨n,a1,a2,a3⟩:=A
          rw[if_neg (by rw[a1,decide_eq_true_eq];omega),if_neg (fun h=>by cases h.1)]
      · rw[if_neg h2,if_neg (show ¬(false=true) by decide),if_neg (fun h=>h2 h.2)]
    · rw[if_neg h1,if_neg h1]
      simp only[spec_l4Apply.j0]
      rw[if_neg (show ¬(false=true) by decide)]
      by_cases h2:m.f0=2
      · rw[if_pos h2,if_pos h2,eg m.f2 hm2 _ (by omega)]
        simp only[Option.bind_some,key1]
        rw[if_neg (show ¬m.f0=3 by omega)]
        cases hd:idM l m.f1 with
        |none=>
          rw[hd]at A
          rw[A,if_neg (show ¬((-1:Int)≥0) by decide),if_neg (show ¬(false=true) by decide)]
          split<;>rfl
        |some i=>
          rw[hd]at A
          obtain⟨n,a1,a2,a3⟩:=A
          rw[if_pos (show atM m.f1 l 0≥0 by omega),if_neg (show ¬(false=true) by decide),bz l m.f1 (by omega) p (by omega)]
          have hdl:=ak m.f1 l
          simp only[Option.bind_some]
          rw[if_pos (show 0≤atM m.f1 l 0 by omega),if_pos (show atM m.f1 l 0<(l.length:Int) by omega),fg (delM m.f1 l) m.f2 _ (by omega) p (by omega),show(rd_T133 l (atM m.f1 l 0)).f1=i by rw[a1,show(0:Int)+(n:Int)=n by omega];exact a3]
          simp only[Option.bind_some]
          by_cases c1:m.f3=0
          · rw[if_pos c1]
            by_cases c2:ai m.f2=true
            · rw[if_pos c2]
              by_cases c3:m.f2=m.f1
              · rw[if_neg (show ¬((m.f2.toList != m.f1.toList)=true) by rw[bne_iff_ne];exact fun h=>h (b9.2 c3)),if_neg (show ¬(m.f3=0∧ai m.f2=true∧m.f2≠m.f1)from fun h=>h.2.2 c3)]
              · rw[if_pos (show(m.f2.toList != m.f1.toList)=true by rw[bne_iff_ne];exact fun h=>c3 (b9.1 h)),if_pos (show(m.f3=0∧ai m.f2=true∧m.f2≠m.f1)from⟨c1,c2,c3⟩)]
            · rw[if_neg c2,if_neg (show ¬(m.f3=0∧ai m.f2=true∧m.f2≠m.f1)from fun h=>c2 h.2.1)]
          · rw[if_neg c1,if_neg (show ¬(m.f3=0∧ai m.f2=true∧m.f2≠m.f1)from fun h=>c1 h.1)]
      · rw[if_neg h2,if_neg h2,key1,if_neg (show ¬(false=true) by decide)]
        by_cases h3:m.f0=3
        · rw[if_pos h3,if_pos h3]
          cases hd:idM l m.f1 with
          |none=>
            rw[hd]at A
            rw[A,if_neg (show ¬((-1:Int)≥0) by decide),if_neg (show ¬((none:Option Int)≠none∧m.f2.size=0∧m.f3=0)from fun h=>h.1 rfl)]
            split
            · split<;>rfl
            · rfl
          |some i=>
            rw[hd]at A
            obtain⟨n,a1,a2,a3⟩:=A
            rw[if_pos (show atM m.f1 l 0≥0 by omega)]
            by_cases c1:m.f3=0
            · rw[if_pos c1]
              by_cases c2:m.f2.size=0
              · rw[if_pos c2,if_pos (show(some i≠none∧m.f2.size=0∧m.f3=0)from⟨(fun h=>by cases h),c2,c1⟩)]
              · rw[if_neg c2,if_neg (show ¬(some i≠none∧m.f2.size=0∧m.f3=0)from fun h=>c2 h.2.1)]
            · rw[if_neg c1,if_neg (show ¬(some i≠none∧m.f2.size=0∧m.f3=0)from fun h=>c1 h.2.2)]
        · rw[if_neg h3,if_neg h3]
  · rw[if_neg hn,if_neg hn]
def bh:List Nd→Option Int
  | []=>none
  |x::r=>match bh r with|none=>some x.f0|some v=>some v
theorem aJ:∀(a:List Nd) (x:Nd),bh (a ++ [x])=some x.f0
  | [],x=>rfl
  |y::r,x=>by rw[List.cons_append,bh,aJ r x]
theorem dr {α:Type} (l:List α) (h:l≠[]):∃a x,l=a ++ [x]:=⟨l.dropLast,l.getLast h,(List.dropLast_concat_getLast h).symm⟩
def cO (di:List Lk) (mv:List Mv) (l:List Nd):Bool:=l.all fun x=>decide (x.f0∈di.map (fun y=>y.f1))||decide (x.f0∈ao mv)
def ay:List Lk→Option ByteArray
  | []=>none
  |x::r=>match ay r with|none=>some x.f0|some v=>some v
theorem au:∀(a:List Lk) (x:Lk),ay (a ++ [x])=some x.f0
  | [],x=>rfl
  |y::r,x=>by rw[List.cons_append,ay,au r x]
theorem fc (ro nx:Int) (nd:List Nd) (di:List Lk) (h0:nd.length≤1048600) (h1:di.length≤1048590) (mvs:List Mv) (h2:mvs.length≤20) (hs:∀m∈mvs,m.f1.size≤1048676∧m.f2.size≤1048676):∀(b a:List Mv) (l:List Lk) (k:Nat),a++b=mvs→Srt l→l.length≤di.length+a.length→2*b.length+1048700<k→
    spec_DiskOk.l2 k l (a.length:Int) ro nx nd di mvs=some (aF nd (di.map (fun y=>y.f1)++ao a) l b).isSome
  | [],a,l,k,e,hl,hll,hk=>by
    obtain⟨q,rfl⟩:∃m,k=m+1:=⟨k-1,by omega⟩
    subst e
    simp only[spec_DiskOk.l2]
    rw[if_neg (by simp)];rfl
  |m::b,a,l,k,e,hl,hll,hk=>by
    simp only[List.length_cons]at hk
    have hlen:=congrArg List.length e
    rw[List.length_append,List.length_cons]at hlen
    obtain⟨q,rfl⟩:∃m,k=m+1:=⟨k-1,by omega⟩
    obtain⟨p,rfl⟩:∃m,q=m+1:=⟨q-1,by omega⟩
    have hrd:rd_T135 mvs (a.length:Int)=m:=by rw[←e];exact cN a m b
    have hm:=hs m (by rw[←e];simp)
    have htk:mvs.take ((a.length:Int)).toNat=a:=by rw[←e,show((a.length:Int)).toNat=a.length by omega,List.take_left' rfl]
    have hmade:ao (a ++ [m])=if m.f0=1 then ao a ++ [m.f3]else ao a:=by
      unfold ao
      rw[List.filter_append,List.map_append]
      by_cases c:m.f0=1
      · rw[if_pos c];simp[c]
      · rw[if_neg c];simp[c]
    have key:∀t,spec_DiskOk.j4 (p+1) l (a.length:Int) t ro nx nd di mvs m.f0 m.f1 m.f2 m.f3=if t=true then some false else(match aw l m with|some l'=>spec_DiskOk.l2 p l' ((a.length:Int)+1) ro nx nd di mvs|none=>some false):=by
      intro t
      simp only[spec_DiskOk.j4]
      rw[ew l m (by omega) hm.1 hm.2 p (by omega)]
      simp only[Option.bind_some]
      cases aw l m with
      |none=>simp
      |some l'=>
        simp only[]
        rw[if_pos trivial,w64 (n:=(a.length:Int)+1) (by omega) (by omega)]
    have ih:∀l',aw l m=some l'→spec_DiskOk.l2 p l' ((a.length:Int)+1) ro nx nd di mvs=some (aF nd (di.map (fun y=>y.f1)++ao (a ++ [m])) l' b).isSome:=by
      intro l' hl'
      have f:=fc ro nx nd di h0 h1 mvs h2 hs b (a ++ [m]) l' p (by rw[List.append_assoc];exact e) (cu hl hl') (by have:=aD hl';simp;omega) (by omega)
      rw[show(((a ++ [m]).length:Nat):Int)=(a.length:Int)+1 by simp]at f
      exact f
    simp only[spec_DiskOk.l2]
    rw[if_pos (by omega),if_pos (by omega),hrd]
    simp only[key,htk]
    rw[cA ro nx m.f3 nd di mvs (by omega) (p+1) (by omega)]
    simp only[Option.bind_some]
    rw[b7 di m.f3 (by omega) (p+1) (by omega),e7 a m.f3 (by omega) (p+1) (by omega)]
    simp only[Option.bind_some]
    rw[if_pos (show(a.length:Int)≤(mvs.length:Int) by omega),if_pos trivial,if_neg (show ¬(false=true) by decide),aF]
    by_cases c:m.f0=1
    · rw[if_pos c]
      cases hap:aw l m with
      |none=>simp only[Option.isSome_none];(repeat' split);all_goals rfl
      |some l'=>
        have f:=ih l' hap
        rw[hmade,if_pos c,←List.append_assoc]at f
        simp only[f]
        rw[if_pos c]
        rcases aG m.f3 nd 0 (by omega)with⟨r1,r2⟩|⟨r1,r2,r3⟩
        · rw[if_pos (by omega),if_neg (fun h=>by rw[r2]at h;cases h.1)];rfl
        · rw[if_neg (by omega)]
          by_cases c2:m.f3∈di.map (fun y=>y.f1)
          · rw[if_pos (decide_eq_true c2),if_neg (fun h=>h.2 (List.mem_append.2 (.inl c2)))];rfl
          · rw[if_neg (by rw[decide_eq_true_eq];exact c2)]
            by_cases c3:m.f3∈ao a
            · rw[if_pos (decide_eq_true c3),if_neg (fun h=>h.2 (List.mem_append.2 (.inr c3)))];rfl
            · rw[if_neg (by rw[decide_eq_true_eq];exact c3),if_pos ⟨r3,fun h=>(List.mem_append.1 h).elim c2 c3⟩]
    · rw[if_neg c]
      cases hap:aw l m with
      |none=>rfl
      |some l'=>
        have f:=ih l' hap
        rw[hmade,if_neg c]at f
        simp only[f]
        rw[if_neg c]
theorem ff (ro nx:Int) (nd:List Nd) (di:List Lk) (h0:nd.length≤1048600) (h1:di.length≤1048590) (hd:∀x∈di,x.f0.size≤1048676) (mvs:List Mv) (h2:mvs.length≤20) (hs:∀m∈mvs,m.f1.size≤1048676∧m.f2.size≤1048676):∀(b a:List Lk) (k:Nat),a++b=di→(∀R,aS nd (ay a) (a.map fun y=>y.f1) b=true→R=(a++b)→Srt R)→b.length+1048800<k→
    spec_DiskOk.l1 k (a.length:Int) ro nx nd di mvs=some (aS nd (ay a) (a.map fun y=>y.f1) b&&(aF nd (di.map fun y=>y.f1) di mvs).isSome)
  | [],a,k,e,hR,hk=>by
    obtain⟨q,rfl⟩:∃m,k=m+1:=⟨k-1,by omega⟩
    have ha:a=di:=by simpa using e
    subst ha
    have hsrt:=hR a (by simp[aS]) (by simp)
    simp only[spec_DiskOk.l1]
    rw[if_neg (by simp)]
    simp only[Option.bind_some,List.nil_append,List.length_nil]
    rw[if_pos (by omega)]
    have f:=fc ro nx nd a h0 h1 mvs h2 hs mvs [] a q (by simp) hsrt (by simp) (by omega)
    simp only[List.length_nil]at f
    rw[show((0:Nat):Int)=0 from rfl]at f
    rw[f];simp[aS,ao]
  |x::b,a,k,e,hR,hk=>by
    simp only[List.length_cons]at hk
    have hlen:=congrArg List.length e
    rw[List.length_append,List.length_cons]at hlen
    obtain⟨q,rfl⟩:∃m,k=m+1:=⟨k-1,by omega⟩
    have hrd:rd_T133 di (a.length:Int)=x:=by rw[←e];exact aW a x b
    have hx:=hd x (by rw[←e];simp)
    have htk:di.take ((a.length:Int)).toNat=a:=by rw[←e,show((a.length:Int)).toNat=a.length by omega,List.take_left' rfl]
    have ih:=fun hh=>ff ro nx nd di h0 h1 hd mvs h2 hs b (a ++ [x]) q (by rw[List.append_assoc];exact e) hh (by omega)
    rw[show(((a ++ [x]).length:Nat):Int)=(a.length:Int)+1 by simp,au,List.map_append,List.map_singleton]at ih
    have hdir:aS nd (ay a) (a.map fun y=>y.f1) (x::b)=(ai x.f0&&(match ay a with|none=>true|some q=>decide (cmpS q x.f0<0))&&bK nd x.f1 && !(decide (x.f1∈a.map fun y=>y.f1))&&aS nd (some x.f0) ((a.map fun y=>y.f1) ++ [x.f1]) b):=by
      cases ay a<;>rfl
    simp only[spec_DiskOk.l1]
    rw[if_pos (by omega),if_pos (by omega),hrd,htk]
    rw[eg x.f0 (by omega) q (by omega),cA ro nx x.f1 nd di mvs (by omega) q (by omega),b7 a x.f1 (by omega) q (by omega)]
    simp only[Option.bind_some]
    rw[w64 (n:=(a.length:Int)+1) (by omega) (by omega),w64 (n:=(a.length:Int)-1) (by omega) (by omega),if_pos (show(a.length:Int)≤(di.length:Int) by omega)]
    rw[hdir]at hR ⊢
    by_cases hn:ai x.f0=true
    · rw[if_pos hn,hn,Bool.true_and]
      rw[hn,Bool.true_and]at hR
      have tail:∀(P:Bool),P=true→(match ay a with|none=>true|some q=>decide (cmpS q x.f0<0))=P→(if ixf x.f1 nd 0<0 then some false else if decide (x.f1∈a.map fun y=>y.f1)=true then some false else spec_DiskOk.l1 q ((a.length:Int)+1) ro nx nd di mvs)=some ((match ay a with|none=>true|some q=>decide (cmpS q x.f0<0))&&bK nd x.f1 && !(decide (x.f1∈a.map fun y=>y.f1))&&aS nd (some x.f0) ((a.map fun y=>y.f1) ++ [x.f1]) b&&(aF nd (di.map fun y=>y.f1) di mvs).isSome):=by
        intro P hP hQ
        rw[hQ,hP]at hR ⊢
        rw[Bool.true_and]at hR ⊢
        rcases aG x.f1 nd 0 (by omega)with⟨r1,r2⟩|⟨r1,r2,r3⟩
        · rw[if_pos (by omega),r2];rfl
        · rw[if_neg (by omega),r3,Bool.true_and]
          rw[r3,Bool.true_and]at hR
          by_cases c2:x.f1∈a.map fun y=>y.f1
          · rw[if_pos (decide_eq_true c2),decide_eq_true c2];rfl
          · rw[if_neg (by rw[decide_eq_true_eq];exact c2),decide_eq_false c2,ih (fun R h1 h2=>hR R (by rw[decide_eq_false c2];simpa using h1) (by rw[h2];simp))]
            rfl
      by_cases ha:a = []
      · subst ha
        rw[if_neg (by simp)]
        exact tail true rfl rfl
      · obtain⟨a',y,rfl⟩:=dr a ha
        have hrd2:rd_T133 di (((a' ++ [y]).length:Int)-1)=y:=by
          rw[←e,List.append_assoc,List.singleton_append,show(((a' ++ [y]).length:Nat):Int)-1=(a'.length:Int) by simp];exact aW a' y (x::b)
        rw[if_pos (by rw[List.length_append,List.length_singleton];omega),if_pos (by simp),if_pos (by omega),hrd2]
        simp only[gG]
        by_cases c:cmpS y.f0 x.f0<0
        · rw[if_pos c]
          exact tail true rfl (by rw[au];exact decide_eq_true c)
        · rw[if_neg c,au]
          simp only[]
          rw[decide_eq_false c];rfl
    · rw[if_neg hn,Bool.eq_false_iff.mpr hn];rfl
theorem e5 (ro nx:Int) (nd:List Nd) (di:List Lk) (n0:1≤nx) (n1:nx≤1000000) (h0:nd.length≤10) (hz:∀x∈nd,x.f1.size≤1048676) (h1:di.length≤10) (hd:∀x∈di,x.f0.size≤1048676) (mvs:List Mv) (h2:mvs.length≤20) (hs:∀m∈mvs,m.f1.size≤1048676∧m.f2.size≤1048676):∀(b a:List Nd) (k:Nat),a++b=nd→b.length+1048900<k→
    spec_DiskOk.l0 k (a.length:Int) ro nx nd di mvs=some (bm nx (bh a) b&&cO di mvs b&&(aS nd none [] di&&(aF nd (di.map fun y=>y.f1) di mvs).isSome))
  | [],a,k,e,hk=>by
    obtain⟨q,rfl⟩:∃m,k=m+1:=⟨k-1,by omega⟩
    have ha:a=nd:=by simpa using e
    subst ha
    simp only[spec_DiskOk.l0]
    rw[if_neg (by simp)]
    have f:=ff ro nx a di (by omega) (by omega) hd mvs h2 hs di [] q (by simp) (fun R h e=>by rw[e];exact(a5 a di none [] h).1) (by omega)
    simp only[List.length_nil]at f
    rw[show((0:Nat):Int)=0 from rfl]at f
    rw[f];simp[bm,cO,ay]
  |x::b,a,k,e,hk=>by
    simp only[List.length_cons]at hk
    have hlen:=congrArg List.length e
    rw[List.length_append,List.length_cons]at hlen
    obtain⟨q,rfl⟩:∃m,k=m+1:=⟨k-1,by omega⟩
    have hrd:rd_T130 nd (a.length:Int)=x:=by rw[←e];exact b6 a x b
    have hx:=hz x (by rw[←e];simp)
    have ih:=e5 ro nx nd di n0 n1 h0 hz h1 hd mvs h2 hs b (a ++ [x]) q (by rw[List.append_assoc];exact e) (by omega)
    rw[show(((a ++ [x]).length:Nat):Int)=(a.length:Int)+1 by simp,aJ]at ih
    have hnod:bm nx (bh a) (x::b)=(decide (1≤x.f0∧x.f0≤nx-1)&&(match bh a with|none=>true|some q=>decide (q<x.f0))&&decide (0≤x.f2∧x.f2≤(x.f1.size:Int))&&bm nx (some x.f0) b):=by
      cases bh a<;>rfl
    have hown:cO di mvs (x::b)=((decide (x.f0∈di.map (fun y=>y.f1))||decide (x.f0∈ao mvs))&&cO di mvs b):=rfl
    simp only[spec_DiskOk.l0]
    rw[if_pos (by omega),if_pos (by omega),hrd,ac,ac]
    simp only[Option.bind_some,decide_eq_true_eq]
    rw[b7 di x.f0 (by omega) q (by omega),e7 mvs x.f0 (by omega) q (by omega)]
    simp only[Option.bind_some,decide_eq_true_eq]
    rw[w64 (n:=nx-1) (by omega) (by omega),w64 (n:=(a.length:Int)+1) (by omega) (by omega),w64 (n:=(a.length:Int)-1) (by omega) (by omega),ih,hnod,hown]
    generalize bm nx (some x.f0) b=A
    generalize cO di mvs b=B
    generalize (aS nd none [] di&&(aF nd (di.map fun y=>y.f1) di mvs).isSome)=C
    have own:(if x.f0∈di.map (fun y=>y.f1)then some (A&&B&&C)else if x.f0∈ao mvs then some (A&&B&&C)else some false)=some (A&&((decide (x.f0∈di.map (fun y=>y.f1))||decide (x.f0∈ao mvs))&&B)&&C):=by
      by_cases c1:x.f0∈di.map (fun y=>y.f1)
      · rw[if_pos c1,decide_eq_true c1];rfl
      · rw[if_neg c1,decide_eq_false c1,Bool.false_or]
        by_cases c2:x.f0∈ao mvs
        · rw[if_pos c2,decide_eq_true c2];rfl
        · rw[if_neg c2,decide_eq_false c2];simp
    by_cases c1:1≤x.f0∧x.f0≤nx-1
    · rw[if_pos c1,decide_eq_true c1,Bool.true_and]
      by_cases c2:0≤x.f2∧x.f2≤(x.f1.size:Int)
      · rw[if_pos c2,decide_eq_true c2,Bool.and_true]
        by_cases ha:a = []
        · subst ha
          rw[if_neg (by simp),own];rfl
        · obtain⟨a',y,rfl⟩:=dr a ha
          have hrd2:rd_T130 nd (((a' ++ [y]).length:Int)-1)=y:=by
            rw[←e,List.append_assoc,List.singleton_append,show(((a' ++ [y]).length:Nat):Int)-1=(a'.length:Int) by simp];exact b6 a' y (x::b)
          rw[if_pos (by rw[List.length_append,List.length_singleton];omega),if_pos (by simp),if_pos (by omega),hrd2,aJ]
          simp only[]
          by_cases c3:y.f0<x.f0
          · rw[if_neg (by omega),own,decide_eq_true c3,Bool.true_and]
          · rw[if_pos (by omega),decide_eq_false c3];rfl
      · rw[if_neg c2,decide_eq_false c2];simp
    · rw[if_neg c1,decide_eq_false c1];simp
theorem ga (ro nx:Int) (nd:List Nd) (di:List Lk) (mvs:List Mv) (h0:nd.length≤1048600) (hz:∀x∈nd,x.f1.size≤1048676) (h1:di.length≤1048590) (hd:∀x∈di,x.f0.size≤1048676) (h2:mvs.length≤1048600) (hs:∀m∈mvs,m.f1.size≤1048676∧m.f2.size≤1048676) (k:Nat) (hk:2097300<k):spec_DiskOk.f k ro nx nd di mvs=some (okM ro nx nd di mvs):=by
  obtain⟨q,rfl⟩:∃m,k=m+1:=⟨k-1,by omega⟩
  have key:∀t,spec_DiskOk.j0 (q+1) t ro nx nd di mvs=if t=true then some false else(if ar nd>ro then some false else spec_DiskOk.l0 q 0 ro nx nd di mvs):=by
    intro t
    simp only[spec_DiskOk.j0]
    rw[fZ ro nx nd di mvs (by omega) (fun x hx=>by have:=hz x hx;omega) q (by omega)]
    simp only[Option.bind_some]
  have O:=fb ro nx nd di mvs
  have no:∀{p:Prop},¬p→((okM ro nx nd di mvs=true)→p)→okM ro nx nd di mvs=false:=fun hp h=>Bool.eq_false_iff.mpr (fun hh=>hp (h hh))
  unfold spec_DiskOk.f
  rw[ac,ac]
  simp only[Option.bind_some,decide_eq_true_eq,key]
  by_cases c1:0≤ro∧ro≤1048576
  · rw[if_pos c1]
    by_cases c2:1≤nx∧nx≤1000000
    · rw[if_pos c2]
      by_cases c3:(nd.length:Int)≤10
      · rw[if_neg (show ¬((nd.length:Int)>10) by omega)]
        by_cases c4:(mvs.length:Int)≤20
        · rw[if_neg (show ¬((mvs.length:Int)>20) by omega)]
          by_cases c5:(di.length:Int)≤10
          · rw[if_neg (by omega)]
            by_cases c6:fm nd≤ro
            · rw[if_neg (by rw[←cq];omega)]
              have f:=e5 ro nx nd di c2.1 c2.2 (by omega) hz (by omega) hd mvs (by omega) hs nd [] q (by simp) (by omega)
              simp only[List.length_nil]at f
              rw[show((0:Nat):Int)=0 from rfl]at f
              rw[f]
              congr 1
              rw[Bool.eq_iff_iff,O]
              simp only[Bool.and_eq_true,bh,cO,List.all_eq_true,Bool.or_eq_true,decide_eq_true_eq]
              exact⟨fun⟨⟨g1,g2⟩,g3,g4⟩=>⟨c1,c2,c3,c4,c5,c6,g1,g2,g3,g4⟩,fun⟨_,_,_,_,_,_,g1,g2,g3,g4⟩=>⟨⟨g1,g2⟩,g3,g4⟩⟩
            · rw[if_pos (by rw[←cq];omega),no c6 (fun h=>(O.1 h).2.2.2.2.2.1)]
          · rw[if_pos (by omega),no c5 (fun h=>(O.1 h).2.2.2.2.1)]
        · rw[if_pos (show((mvs.length:Int)>20) by omega),no c4 (fun h=>(O.1 h).2.2.2.1)]
          rfl
      · rw[if_pos (show((nd.length:Int)>10) by omega),no c3 (fun h=>(O.1 h).2.2.1)]
        rfl
    · rw[if_neg c2,no c2 (fun h=>(O.1 h).2.1)]
      rfl
  · rw[if_neg c1,no c1 (fun h=>(O.1 h).1)]
    rfl
theorem fE (s:ByteArray) (hs:s.size≤1048676):∀(d k:Nat) (i:Int),0≤i→i+d=s.size→d<k→impl_nameOk.l0 k s (s.size:Int) i=some (((bytesOf s).drop i.toNat).all dV&&decide (1≤(s.size:Int)∧(s.size:Int)≤12)):=by
  intro d
  induction d with
  |zero=>
    intro k i h0 h1 hk
    obtain⟨q,rfl⟩:∃m,k=m+1:=⟨k-1,by omega⟩
    simp only[impl_nameOk.l0]
    rw[if_neg (by omega),List.drop_of_length_le (by rw[bytesOf_length];omega),ab];rfl
  |succ d ih=>
    intro k i h0 h1 hk
    obtain⟨q,rfl⟩:∃m,k=m+1:=⟨k-1,by omega⟩
    have f:=ih q (i+1) (by omega) (by omega) (by omega)
    simp only[impl_nameOk.l0]
    rw[if_pos (by omega),if_pos h0,if_pos (by omega),w64 (n:=i+1) (by omega) (by omega),f,bt_drop h0 (by omega),List.all_cons,show(i+1).toNat=i.toNat+1 by omega]
    generalize bt s i=v
    generalize ((bytesOf s).drop (i.toNat+1)).all dV=R
    generalize decide (1≤(s.size:Int)∧(s.size:Int)≤12)=E
    have e:dV v=decide ((97≤v∧v≤122)∨(48≤v∧v≤57)∨v=46):=rfl
    by_cases hv:(97≤v∧v≤122)∨(48≤v∧v≤57)∨v=46
    · rw[e,decide_eq_true hv,Bool.true_and]
      repeat' split
      all_goals (first|rfl|(exfalso;omega))
    · rw[e,decide_eq_false hv,Bool.false_and,Bool.false_and]
      repeat' split
      all_goals (first|rfl|(exfalso;omega))
theorem dA (s:ByteArray) (hs:s.size≤1048676) (k:Nat) (hk:s.size<k):impl_nameOk.f k s=some (ai s):=by
  unfold impl_nameOk.f
  rw[fE s hs s.size k 0 (by omega) (by omega) hk,ai,Bool.and_comm];rfl
theorem ez (v:Int):∀(b a:List Int) (k:Nat),a.length+b.length≤2097152→b.length<k→∃n,slices_Index_int_int.l0 k (a++b) v (((a++b).length:Nat):Int) (a.length:Int)=some n∧(0≤n↔v∈b)
  | [],a,k,h0,hk=>by
    obtain⟨q,rfl⟩:∃m,k=m+1:=⟨k-1,by omega⟩
    simp only[slices_Index_int_int.l0];rw[if_neg (by simp)];exact⟨_,rfl,by simp⟩
  |x::b,a,k,h0,hk=>by
    simp only[List.length_cons]at h0 hk
    obtain⟨q,rfl⟩:∃m,k=m+1:=⟨k-1,by omega⟩
    obtain⟨n,f,g⟩:=ez v b (a ++ [x]) q (by simp;omega) (by omega)
    rw[List.append_assoc,List.singleton_append,show(((a ++ [x]).length:Nat):Int)=(a.length:Int)+1 by simp]at f
    have hrd:rd (a++x::b) (a.length:Int)=x:=by simp[rd,List.getD]
    simp only[slices_Index_int_int.l0]
    rw[if_pos (by simp;omega),if_pos (by omega),if_pos (by simp;omega),hrd,w64 (n:=(a.length:Int)+1) (by omega) (by omega),f]
    by_cases c:v=x
    · rw[if_pos c];exact⟨_,rfl,by subst c;exact⟨fun _=>List.mem_cons_self,fun _=>by omega⟩⟩
    · rw[if_neg c];exact⟨n,rfl,by rw[g,List.mem_cons];exact⟨fun h=>.inr h,fun h=>h.resolve_left c⟩⟩
theorem dL (l:List Int) (v:Int) (h0:l.length≤1048676) (k:Nat) (hk:l.length<k):slices_Contains_int_int.f k l v=some (decide (v∈l)):=by
  obtain⟨n,f,g⟩:=ez v l [] k (by simp;omega) hk
  unfold slices_Contains_int_int.f slices_Index_int_int.f
  rw[List.nil_append]at f
  rw[show(0:Int)=((([]:List Int).length:Nat):Int)from rfl,f]
  simp only[Option.bind_some]
  congr 1
  rw[Bool.eq_iff_iff,decide_eq_true_eq,decide_eq_true_eq];exact g
theorem fq (l:List Lk) (s:ByteArray) (hs:Srt l) (h0:l.length≤1048676):impl_linkAt.f l s=some ((ax l s:Int),(idM l s).isSome):=by
  have hp:=eH l s
  unfold impl_linkAt.f
  rw[if_pos (by omega),du l s hs l.length 0 l.length (by omega) (by omega) (by omega) (by omega) (by omega)]
  have A:=eP l s hs
  congr 2
  cases hd:idM l s with
  |some i=>
    rw[hd]at A
    rw[decide_eq_true (show(ax l s:Int)<(l.length:Int) by omega),A.2];simp[fL]
  |none=>
    rw[hd]at A
    cases hc:(decide ((ax l s:Int)<(l.length:Int))&&(cmpS (rd_T133 l (ax l s:Int)).f0 s==0))with
    |false=>rfl
    |true=>
      rw[Bool.and_eq_true,decide_eq_true_eq,beq_iff_eq]at hc
      exact absurd ⟨by omega,hc.2⟩ A
theorem fj (l:List Lk) (x0:ByteArray) (x1:Int) (hs:Srt l) (h0:l.length≤1048676):impl_linked.f l x0 x1=some (bc (delM x0 l) ⟨x0,x1⟩):=by
  have hd:=ak x0 l
  have hp:=eH (delM x0 l) x0
  unfold impl_linked.f
  rw[if_pos (by omega)]
  unfold insL
  rw[du (delM x0 l) x0 (a4 x0 hs) (delM x0 l).length 0 (delM x0 l).length (by omega) (by omega) (by omega) (by omega) (by omega),show((ax (delM x0 l) x0:Int)).toNat=ax (delM x0 l) x0 by omega]
  exact congrArg some (fK (delM x0 l) ⟨x0,x1⟩)
theorem dP (l:List Lk) (s:ByteArray) (h0:l.length≤1048676):impl_unlinked.f l s=some (delM s l):=by
  unfold impl_unlinked.f;rw[if_pos (by omega)]
theorem eu (l:List Lk) (m:Mv) (hs:Srt l) (h0:l.length≤1048650) (hm2:m.f2.size≤1048676) (k:Nat) (hk:1048690<k):∃d b,impl_applied.f k l m.f0 m.f1 m.f2 m.f3=some (d,b)∧(ai m.f1=true→match aw l m with|some l'=>d=l'∧b=true|none=>b=false):=by
  obtain⟨q,rfl⟩:∃m,k=m+1:=⟨k-1,by omega⟩
  have hd:=ak m.f1 l
  have A:=eP l m.f1 hs
  unfold impl_applied.f
  rw[fq l m.f1 hs (by omega)]
  simp only[Option.bind_some,dU]
  rw[fj l m.f1 m.f3 hs (by omega),dP l m.f1 (by omega)]
  simp only[Option.bind_some]
  have fin:∀(n:Bool) (X:Option (List Lk)),((ai m.f1=true→aw l m=X))→(match X with|some l'=>n=true|none=>n=false)→∀d,(∀l',X=some l'→d=l')→∃d' b',(some (d,n):Option (List Lk×Bool))=some (d',b')∧(ai m.f1=true→match aw l m with|some l'=>d'=l'∧b'=true|none=>b'=false):=by
    intro n X hX hn d hd
    refine⟨d,n,rfl,fun h=>?_⟩
    rw[hX h]
    cases X with
    |none=>exact hn
    |some l'=>exact⟨hd l' rfl,hn⟩
  have app:ai m.f1=true→aw l m=(if m.f0=1 then(if idM l m.f1=none∧m.f2.size=0 then some (bc (delM m.f1 l) ⟨m.f1,m.f3⟩)else none)
    else if m.f0=2 then(match idM l m.f1 with
      |some i=>if m.f3=0∧ai m.f2=true∧m.f2≠m.f1 then some (bc (delM m.f2 (delM m.f1 l)) ⟨m.f2,i⟩)else none
      |none=>none)
    else if m.f0=3 then(if idM l m.f1≠none∧m.f2.size=0∧m.f3=0 then some (delM m.f1 l)else none)
    else none):=by
    intro h
    unfold aw
    rw[if_pos h]
  by_cases h1:m.f0=1
  · rw[if_pos h1]
    cases hi:idM l m.f1 with
    |some i=>
      rw[hi]at app
      simp only[Option.isSome_some]
      rw[if_pos trivial]
      refine fin false none (fun h=>by rw[app h,if_pos h1,if_neg (fun h=>by cases h.1)]) rfl _ (fun l' h=>by cases h)
    |none=>
      rw[hi]at app
      simp only[Option.isSome_none]
      rw[if_neg (by decide)]
      by_cases h2:m.f2.size=0
      · refine fin _ (some _) (fun h=>by rw[app h,if_pos h1,if_pos ⟨rfl,h2⟩]) (beq_iff_eq.mpr (dU.2 h2)) _ (fun l' h=>by cases h;rfl)
      · refine fin _ none (fun h=>by rw[app h,if_pos h1,if_neg (fun h=>h2 h.2)]) (beq_eq_false_iff_ne.mpr (fun h=>h2 (dU.1 h))) _ (fun l' h=>by cases h)
  · rw[if_neg h1]
    by_cases h2:m.f0=2
    · rw[if_pos h2]
      have no:∀(X:ai m.f1=true→aw l m=none) (p:Int),∃d' b',impl_applied.j0 (q+1) l p true m.f0 m.f1 m.f2 m.f3=some (d',b')∧(ai m.f1=true→match aw l m with|some l'=>d'=l'∧b'=true|none=>b'=false):=by
        intro X p
        simp only[impl_applied.j0]
        rw[if_pos trivial]
        exact fin false none X rfl _ (fun l' h=>by cases h)
      cases hi:idM l m.f1 with
      |none=>
        rw[hi]at app
        simp only[Option.isSome_none]
        rw[if_neg (by decide)]
        exact no (fun h=>by rw[app h,if_neg h1,if_pos h2]) _
      |some i=>
        rw[hi]at app A
        simp only[Option.isSome_some]
        rw[if_pos trivial]
        by_cases c1:m.f3=0
        · rw[if_pos c1,dA m.f2 hm2 _ (by omega)]
          simp only[Option.bind_some]
          by_cases c2:ai m.f2=true
          · rw[if_pos c2]
            by_cases c3:m.f2=m.f1
            · rw[beq_iff_eq.mpr (b9.2 c3)]
              exact no (fun h=>by rw[app h,if_neg h1,if_pos h2];simp only[];rw[if_neg (fun h=>h.2.2 c3)]) _
            · rw[beq_eq_false_iff_ne.mpr (fun h=>c3 (b9.1 h))]
              simp only[impl_applied.j0]
              rw[if_neg (by decide),dP l m.f1 (by omega)]
              simp only[Option.bind_some]
              rw[if_pos (by omega),if_pos (by omega),fj (delM m.f1 l) m.f2 _ (a4 _ hs) (by omega),A.2]
              simp only[Option.bind_some]
              exact fin true (some _) (fun h=>by rw[app h,if_neg h1,if_pos h2];simp only[];rw[if_pos ⟨c1,c2,c3⟩]) rfl _ (fun l' h=>by cases h;rfl)
          · rw[if_neg c2]
            exact no (fun h=>by rw[app h,if_neg h1,if_pos h2];simp only[];rw[if_neg (fun h=>c2 h.2.1)]) _
        · rw[if_neg c1]
          exact no (fun h=>by rw[app h,if_neg h1,if_pos h2];simp only[];rw[if_neg (fun h=>c1 h.1)]) _
    · rw[if_neg h2]
      by_cases h3:m.f0=3
      · rw[if_pos h3]
        cases hi:idM l m.f1 with
        |none=>
          rw[hi]at app
          simp only[Option.isSome_none]
          rw[if_neg (by decide)]
          exact fin false none (fun h=>by rw[app h,if_neg h1,if_neg h2,if_pos h3,if_neg (fun h=>h.1 rfl)]) rfl _ (fun l' h=>by cases h)
        |some i=>
          rw[hi]at app
          simp only[Option.isSome_some]
          rw[if_pos trivial]
          by_cases c2:m.f2.size=0
          · rw[if_pos c2]
            by_cases c1:m.f3=0
            · exact fin _ (some _) (fun h=>by rw[app h,if_neg h1,if_neg h2,if_pos h3,if_pos ⟨(fun h=>by cases h),c2,c1⟩]) (beq_iff_eq.mpr c1) _ (fun l' h=>by cases h;rfl)
            · exact fin _ none (fun h=>by rw[app h,if_neg h1,if_neg h2,if_pos h3,if_neg (fun h=>c1 h.2.2)]) (beq_eq_false_iff_ne.mpr c1) _ (fun l' h=>by cases h)
          · rw[if_neg c2]
            exact fin false none (fun h=>by rw[app h,if_neg h1,if_neg h2,if_pos h3,if_neg (fun h=>c2 h.2.1)]) rfl _ (fun l' h=>by cases h)
      · rw[if_neg h3]
        exact fin false none (fun h=>by rw[app h,if_neg h1,if_neg h2,if_neg h3]) rfl _ (fun l' h=>by cases h)
theorem ce (ro nx:Int) (nd:List Nd) (di:List Lk) (mv:List Mv) (n0:1≤nx) (n1:nx≤1000000) (h0:nd.length≤1048600) (hz:∀x∈nd,x.f1.size≤1048676):∀(b a:List Nd) (k:Nat),a++b=nd→b.length<k→
    impl_inodesOk.l0 k (ar a) nd (nd.length:Int) (a.length:Int) ro nx nd di mv=some (bm nx (bh a) b&&(decide ((nd.length:Int)≤10)&&decide (ar nd≤ro)))
  | [],a,k,e,hk=>by
    obtain⟨q,rfl⟩:∃m,k=m+1:=⟨k-1,by omega⟩
    have ha:a=nd:=by simpa using e
    subst ha
    simp only[impl_inodesOk.l0]
    rw[if_neg (by omega)]
    by_cases c:(a.length:Int)≤10
    · rw[if_pos c,decide_eq_true c];simp[bm]
    · rw[if_neg c,decide_eq_false c];simp
  |x::b,a,k,e,hk=>by
    simp only[List.length_cons]at hk
    have hlen:=congrArg List.length e
    rw[List.length_append,List.length_cons]at hlen
    obtain⟨q,rfl⟩:∃m,k=m+1:=⟨k-1,by omega⟩
    have hrd:rd_T130 nd (a.length:Int)=x:=by rw[←e];exact b6 a x b
    have hx:=hz x (by rw[←e];simp)
    have hu:=fo a (fun y hy=>by have:=hz y (by rw[←e];exact List.mem_append.2 (.inl hy));omega)
    have hsum:∀(a:List Nd),ar (a ++ [x])=ar a+(x.f1.size:Int):=by
      intro a
      induction a with
      |nil=>simp[ar]
      |cons y r ih=>rw[List.cons_append,ar,ar,ih,Int.add_assoc]
    have ih:=ce ro nx nd di mv n0 n1 h0 hz b (a ++ [x]) q (by rw[List.append_assoc];exact e) (by omega)
    rw[show(((a ++ [x]).length:Nat):Int)=(a.length:Int)+1 by simp,aJ,hsum]at ih
    have hnod:bm nx (bh a) (x::b)=(decide (1≤x.f0∧x.f0≤nx-1)&&(match bh a with|none=>true|some q=>decide (q<x.f0))&&decide (0≤x.f2∧x.f2≤(x.f1.size:Int))&&bm nx (some x.f0) b):=by
      cases bh a<;>rfl
    simp only[impl_inodesOk.l0]
    rw[if_pos (by omega),if_pos (by omega),if_pos (by omega),hrd,ab,ab]
    simp only[Option.bind_some,decide_eq_true_eq]
    rw[w64 (n:=nx-1) (by omega) (by omega),w64 (n:=(a.length:Int)+1) (by omega) (by omega),w64 (n:=(a.length:Int)-1) (by omega) (by omega),w64 (n:=ar a+(x.f1.size:Int)) (by omega) (by omega),ih,hnod]
    generalize bm nx (some x.f0) b=A
    generalize (decide ((nd.length:Int)≤10)&&decide (ar nd≤ro))=C
    by_cases c1:1≤x.f0∧x.f0≤nx-1
    · rw[if_pos c1,decide_eq_true c1,Bool.true_and]
      have sure:∀P:Bool,P=true→(if 0≤x.f2∧x.f2≤(x.f1.size:Int)then some (A&&C)else some false)=some (P&&decide (0≤x.f2∧x.f2≤(x.f1.size:Int))&&A&&C):=by
        intro P hP
        rw[hP,Bool.true_and]
        by_cases c2:0≤x.f2∧x.f2≤(x.f1.size:Int)
        · rw[if_pos c2,decide_eq_true c2,Bool.true_and]
        · rw[if_neg c2,decide_eq_false c2];rfl
      by_cases ha:a = []
      · subst ha
        rw[if_neg (by simp),sure true rfl];rfl
      · obtain⟨a',y,rfl⟩:=dr a ha
        have hrd2:rd_T130 nd (((a' ++ [y]).length:Int)-1)=y:=by
          rw[←e,List.append_assoc,List.singleton_append,show(((a' ++ [y]).length:Nat):Int)-1=(a'.length:Int) by simp];exact b6 a' y (x::b)
        rw[if_pos (by rw[List.length_append,List.length_singleton];omega),if_pos (by simp),if_pos (by omega),hrd2,aJ]
        simp only[]
        by_cases c3:y.f0<x.f0
        · rw[if_neg (by omega),sure _ (decide_eq_true c3)]
        · rw[if_pos (by omega),decide_eq_false c3];simp
    · rw[if_neg c1,decide_eq_false c1];simp
theorem ft (ro nx:Int) (nd:List Nd) (di:List Lk) (mv:List Mv) (n0:1≤nx) (n1:nx≤1000000) (h0:nd.length≤1048600) (hz:∀x∈nd,x.f1.size≤1048676) (k:Nat) (hk:nd.length<k):impl_inodesOk.f k ro nx nd di mv=some (bm nx none nd&&(decide ((nd.length:Int)≤10)&&decide (ar nd≤ro))):=ce ro nx nd di mv n0 n1 h0 hz nd [] k rfl hk
theorem et (ro nx i:Int) (nd:List Nd) (di:List Lk) (mv:List Mv):impl_inodeAt.f ro nx nd di mv i=some (ixf i nd 0):=rfl
theorem eV (ro nx:Int) (nd:List Nd) (di:List Lk) (h1:di.length≤1048590) (mvs:List Mv) (h2:mvs.length≤20) (hs:∀m∈mvs,m.f1.size≤1048676∧m.f2.size≤1048676):∀(b a:List Mv) (l:List Lk) (own:List Int) (k:Nat),a++b=mvs→Srt l→l.length≤di.length+a.length→own.length≤di.length+a.length→2*b.length+1048800<k→
    impl_DiskOk.l1 k own l mvs (mvs.length:Int) (a.length:Int) ro nx nd di mvs=some (match aF nd own l b with|none=>false|some o=>decide ((o.length:Int)=nd.length))
  | [],a,l,own,k,e,hl,hll,ho,hk=>by
    obtain⟨q,rfl⟩:∃m,k=m+1:=⟨k-1,by omega⟩
    have ha:a=mvs:=by simpa using e
    subst ha
    simp only[impl_DiskOk.l1]
    rw[if_neg (by omega),aF]
    exact congrArg some (by rw[Bool.eq_iff_iff,beq_iff_eq,decide_eq_true_eq])
  |m::b,a,l,own,k,e,hl,hll,ho,hk=>by
    simp only[List.length_cons]at hk
    have hlen:=congrArg List.length e
    rw[List.length_append,List.length_cons]at hlen
    obtain⟨q,rfl⟩:∃m,k=m+1:=⟨k-1,by omega⟩
    obtain⟨p,rfl⟩:∃m,q=m+1:=⟨q-1,by omega⟩
    have hrd:rd_T135 mvs (a.length:Int)=m:=by rw[←e];exact cN a m b
    have hm:=hs m (by rw[←e];simp)
    obtain⟨d,ok,e1,e2⟩:=eu l m hl (by omega) hm.2 (p+1) (by omega)
    have ih:∀l' own',aw l m=some l'→own'.length≤own.length+1→impl_DiskOk.l1 p own' l' mvs (mvs.length:Int) ((a.length:Int)+1) ro nx nd di mvs=some (match aF nd own' l' b with|none=>false|some o=>decide ((o.length:Int)=nd.length)):=by
      intro l' own' hl' hh
      have f:=eV ro nx nd di h1 mvs h2 hs b (a ++ [m]) l' own' p (by rw[List.append_assoc];exact e) (cu hl hl') (by have:=aD hl';simp;omega) (by simp;omega) (by omega)
      rw[show(((a ++ [m]).length:Nat):Int)=(a.length:Int)+1 by simp]at f
      exact f
    have no:∀d',impl_DiskOk.j3 (p+1) own d' mvs (mvs.length:Int) (a.length:Int) true ro nx nd di mvs m.f0 m.f1 m.f2 m.f3=some false:=by
      intro d'
      simp only[impl_DiskOk.j3]
      rw[if_pos trivial]
    simp only[impl_DiskOk.l1]
    rw[if_pos (by omega),if_pos (by omega),if_pos (by omega),hrd,e1]
    simp only[Option.bind_some]
    rw[dA m.f1 hm.1 (p+1) (by omega)]
    simp only[Option.bind_some]
    have hnone:ai m.f1≠true→aw l m=none:=fun h=>by unfold aw;rw[if_neg h]
    by_cases hn:ai m.f1=true
    · have e3:=e2 hn
      rw[hn]
      cases hap:aw l m with
      |none=>
        rw[hap]at e3
        simp only[]at e3
        rw[e3,if_neg (by decide),no,aF,hap]
      |some l'=>
        rw[hap]at e3
        simp only[]at e3
        obtain⟨rfl,rfl⟩:=e3
        rw[if_pos rfl,aF,hap]
        simp only[impl_DiskOk.j3,Bool.not_true]
        rw[if_neg (by decide),et]
        simp only[Option.bind_some]
        rw[dL own m.f3 (by omega) p (by omega),w64 (n:=(a.length:Int)+1) (by omega) (by omega)]
        simp only[Option.bind_some]
        by_cases c:m.f0=1
        · rw[if_pos c,if_pos c]
          rcases aG m.f3 nd 0 (by omega)with⟨r1,r2⟩|⟨r1,r2,r3⟩
          · rw[if_pos (by omega),if_neg (fun h=>by rw[r2]at h;cases h.1)]
          · rw[if_neg (by omega)]
            by_cases c2:m.f3∈own
            · rw[if_pos (decide_eq_true c2),if_neg (fun h=>h.2 c2)]
            · rw[if_neg (by rw[decide_eq_true_eq];exact c2),if_pos (by omega),if_pos ⟨r3,c2⟩]
              exact ih d _ hap (by simp)
        · rw[if_neg c,if_neg c]
          exact ih d _ hap (by omega)
    · have hap:=hnone hn
      rw[aF,hap,Bool.eq_false_iff.mpr hn]
      simp only[Bool.not_false]
      rw[no]
      split<;>rfl
theorem fp (ro nx:Int) (nd:List Nd) (di:List Lk) (h1:di.length≤1048590) (hd:∀x∈di,x.f0.size≤1048676) (mvs:List Mv) (h2:mvs.length≤20) (hs:∀m∈mvs,m.f1.size≤1048676∧m.f2.size≤1048676):∀(b a:List Lk) (k:Nat),a++b=di→(∀R,aS nd (ay a) (a.map fun y=>y.f1) b=true→R=(a++b)→Srt R)→b.length+1048900<k→
    impl_DiskOk.l0 k (a.map fun y=>y.f1) di (di.length:Int) (a.length:Int) ro nx nd di mvs=some (aS nd (ay a) (a.map fun y=>y.f1) b&&(match aF nd (di.map fun y=>y.f1) di mvs with|none=>false|some o=>decide ((o.length:Int)=nd.length)))
  | [],a,k,e,hR,hk=>by
    obtain⟨q,rfl⟩:∃m,k=m+1:=⟨k-1,by omega⟩
    have ha:a=di:=by simpa using e
    subst ha
    have hsrt:=hR a (by simp[aS]) (by simp)
    simp only[impl_DiskOk.l0]
    rw[if_neg (by omega)]
    have f:=eV ro nx nd a h1 mvs h2 hs mvs [] a (a.map fun y=>y.f1) q (by simp) hsrt (by simp) (by simp) (by omega)
    simp only[List.length_nil]at f
    rw[show((0:Nat):Int)=0 from rfl]at f
    rw[f];simp[aS]
  |x::b,a,k,e,hR,hk=>by
    simp only[List.length_cons]at hk
    have hlen:=congrArg List.length e
    rw[List.length_append,List.length_cons]at hlen
    obtain⟨q,rfl⟩:∃m,k=m+1:=⟨k-1,by omega⟩
    have hrd:rd_T133 di (a.length:Int)=x:=by rw[←e];exact aW a x b
    have hx:=hd x (by rw[←e];simp)
    have ih:=fun hh=>fp ro nx nd di h1 hd mvs h2 hs b (a ++ [x]) q (by rw[List.append_assoc];exact e) hh (by omega)
    rw[show(((a ++ [x]).length:Nat):Int)=(a.length:Int)+1 by simp,au,List.map_append,List.map_singleton]at ih
    have hdir:aS nd (ay a) (a.map fun y=>y.f1) (x::b)=(ai x.f0&&(match ay a with|none=>true|some q=>decide (cmpS q x.f0<0))&&bK nd x.f1 && !(decide (x.f1∈a.map fun y=>y.f1))&&aS nd (some x.f0) ((a.map fun y=>y.f1) ++ [x.f1]) b):=by
      cases ay a<;>rfl
    simp only[impl_DiskOk.l0]
    rw[if_pos (by omega),if_pos (by omega),if_pos (by omega),hrd,dA x.f0 (by omega) q (by omega)]
    simp only[Option.bind_some]
    rw[et]
    simp only[Option.bind_some]
    rw[dL (a.map fun y=>y.f1) x.f1 (by rw[List.length_map];omega) q (by rw[List.length_map];omega)]
    simp only[Option.bind_some]
    rw[w64 (n:=(a.length:Int)+1) (by omega) (by omega),w64 (n:=(a.length:Int)-1) (by omega) (by omega),if_pos (show(a.map fun y=>y.f1).length<17592186044416 by rw[List.length_map];omega)]
    rw[hdir]at hR ⊢
    generalize hM:(match aF nd (di.map fun y=>y.f1) di mvs with|none=>false|some o=>decide ((o.length:Int)=nd.length))=M at ih ⊢
    by_cases hn:ai x.f0=true
    · rw[if_pos hn,hn,Bool.true_and]
      rw[hn,Bool.true_and]at hR
      have tail:∀(P:Bool),P=true→(match ay a with|none=>true|some q=>decide (cmpS q x.f0<0))=P→(if ixf x.f1 nd 0<0 then some false else if decide (x.f1∈a.map fun y=>y.f1)=true then some false else impl_DiskOk.l0 q ((a.map fun y=>y.f1) ++ [x.f1]) di (di.length:Int) ((a.length:Int)+1) ro nx nd di mvs)=some ((match ay a with|none=>true|some q=>decide (cmpS q x.f0<0))&&bK nd x.f1 && !(decide (x.f1∈a.map fun y=>y.f1))&&aS nd (some x.f0) ((a.map fun y=>y.f1) ++ [x.f1]) b&&M):=by
        intro P hP hQ
        rw[hQ,hP]at hR ⊢
        rw[Bool.true_and]at hR ⊢
        rcases aG x.f1 nd 0 (by omega)with⟨r1,r2⟩|⟨r1,r2,r3⟩
        · rw[if_pos (by omega),r2];rfl
        · rw[if_neg (by omega),r3,Bool.true_and]
          rw[r3,Bool.true_and]at hR
          by_cases c2:x.f1∈a.map fun y=>y.f1
          · rw[if_pos (decide_eq_true c2),decide_eq_true c2];rfl
          · rw[if_neg (by rw[decide_eq_true_eq];exact c2),decide_eq_false c2,ih (fun R h1 h2=>hR R (by rw[decide_eq_false c2];simpa using h1) (by rw[h2];simp))]
            rfl
      by_cases ha:a = []
      · subst ha
        rw[if_neg (by simp)]
        exact tail true rfl rfl
      · obtain⟨a',y,rfl⟩:=dr a ha
        have hrd2:rd_T133 di (((a' ++ [y]).length:Int)-1)=y:=by
          rw[←e,List.append_assoc,List.singleton_append,show(((a' ++ [y]).length:Nat):Int)-1=(a'.length:Int) by simp];exact aW a' y (x::b)
        rw[if_pos (by rw[List.length_append,List.length_singleton];omega),if_pos (by simp),if_pos (by omega),hrd2]
        simp only[gG]
        by_cases c:cmpS y.f0 x.f0<0
        · rw[if_pos c]
          exact tail true rfl (by rw[au];exact decide_eq_true c)
        · rw[if_neg c,au]
          simp only[]
          rw[decide_eq_false c];rfl
    · rw[if_neg hn,Bool.eq_false_iff.mpr hn];rfl
theorem fX (ro nx:Int) (nd:List Nd) (di:List Lk) (mvs:List Mv) (h0:nd.length≤1048600) (hz:∀x∈nd,x.f1.size≤1048676) (h1:di.length≤1048590) (hd:∀x∈di,x.f0.size≤1048676) (h2:mvs.length≤1048600) (hs:∀m∈mvs,m.f1.size≤1048676∧m.f2.size≤1048676) (k:Nat) (hk:2097500<k):impl_DiskOk.f k ro nx nd di mvs=some (okM ro nx nd di mvs):=by
  obtain⟨q,rfl⟩:∃m,k=m+1:=⟨k-1,by omega⟩
  have no:impl_DiskOk.j0 (q+1) true ro nx nd di mvs=some false:=by simp only[impl_DiskOk.j0];rw[if_pos trivial]
  unfold impl_DiskOk.f okM
  rw[ab,ab]
  simp only[Option.bind_some,decide_eq_true_eq]
  by_cases c1:0≤ro∧ro≤1048576
  · rw[if_pos c1,decide_eq_true c1,Bool.true_and]
    by_cases c2:1≤nx∧nx≤1000000
    · rw[if_pos c2,decide_eq_true c2,Bool.true_and,ft ro nx nd di mvs c2.1 c2.2 h0 hz _ (by omega),cq]
      simp only[Option.bind_some]
      by_cases c3:(bm nx none nd&&(decide ((nd.length:Int)≤10)&&decide (ar nd≤ro)))=true
      · rw[if_pos c3]
        rw[Bool.and_eq_true,Bool.and_eq_true]at c3
        rw[c3.1,c3.2.1,c3.2.2,Bool.true_and,Bool.true_and,Bool.true_and]
        by_cases c4:(mvs.length:Int)≤20
        · simp only[impl_DiskOk.j0]
          have f:=fp ro nx nd di h1 hd mvs (by omega) hs di [] q (by simp) (fun R h e=>by rw[e];exact(a5 nd di none [] h).1) (by omega)
          simp only[List.length_nil,List.map_nil]at f
          rw[show((0:Nat):Int)=0 from rfl]at f
          rw[if_neg (by rw[decide_eq_true_eq];omega),f,decide_eq_true c4,Bool.true_and];rfl
        · rw[decide_eq_true (show(mvs.length:Int)>20 by omega),no,decide_eq_false c4];rfl
      · rw[if_neg c3,no]
        congr 1
        symm
        rw[←Bool.not_eq_true]at *
        intro h
        apply c3
        simp only[Bool.and_eq_true]at h ⊢
        exact⟨h.1.1.1.1.1,h.1.1.1.1.2,h.1.1.1.2⟩
    · rw[if_neg c2,no,decide_eq_false c2];simp
  · rw[if_neg c1,no,decide_eq_false c1];simp
abbrev Ni:=S121
abbrev Ki:=S124
abbrev Vi:=S127
structure Fine (nd:List Nd) (di:List Lk) (mv:List Mv):Prop where
  n:nd.length≤1048576
  d:di.length≤1048576
  m:mv.length≤1048576
  nz:∀x∈nd,x.f1.size≤1048576
  dz:∀x∈di,x.f0.size≤1048576
  mz:∀x∈mv,x.f1.size≤1048576∧x.f2.size≤1048576
theorem gu (a b:Int) (ni:List Ni) (di:List Ki) (mv:List Vi) (l:Int) (hl0:0≤l) (hl1:l≤1048576) (m0:ni.length≤maxLen) (m1:di.length≤maxLen) (m2:mv.length≤maxLen) (g0:∀z∈ni,z.f1.size≤maxLen) (g1:∀z∈di,z.f0.size≤maxLen) (g2:∀z∈mv,z.f1.size≤maxLen∧z.f2.size≤maxLen) (k:Nat) (hk:1048577<k) :
    ∃r,laws_szDisk.f k a b ni di mv l=some r∧-1≤r∧r≤l∧(0≤r→Fine (ni.map aC) (di.map aT) (mv.map aU)):=by
  unfold laws_szDisk.f
  obtain⟨r,e,r0,r1,r2⟩:=da ni l m0 g0 hl0 hl1 k hk
  rw[e];simp only[Option.bind_some]
  by_cases hr:r<0
  · rw[if_pos hr];exact⟨-1,rfl,by omega,by omega,fun h=>by omega⟩
  · rw[if_neg hr]
    obtain⟨s,e,s0,s1,s2⟩:=ea di r m1 g1 (by omega) (by omega) k hk
    rw[e];simp only[Option.bind_some]
    by_cases hs:s<0
    · rw[if_pos hs];exact⟨-1,rfl,by omega,by omega,fun h=>by omega⟩
    · rw[if_neg hs]
      obtain⟨t,e,t0,t1,t2⟩:=dx mv s m2 g2 (by omega) (by omega) k hk
      rw[e];simp only[Option.bind_some]
      by_cases ht:t<0
      · rw[if_pos ht];exact⟨-1,rfl,by omega,by omega,fun h=>by omega⟩
      · rw[if_neg ht]
        obtain⟨a1,a2⟩:=r2 (by omega)
        obtain⟨b1,b2⟩:=s2 (by omega)
        obtain⟨c1,c2⟩:=t2 (by omega)
        refine⟨t,rfl,by omega,by omega,fun _=>⟨by rw[List.length_map];exact a1,by rw[List.length_map];exact b1,by rw[List.length_map];exact c1,?_,?_,?_⟩⟩
        · intro x hx
          obtain⟨y,hy,rfl⟩:=List.mem_map.1 hx
          exact a2 y hy
        · intro x hx
          obtain⟨y,hy,rfl⟩:=List.mem_map.1 hx
          exact b2 y hy
        · intro x hx
          obtain⟨y,hy,rfl⟩:=List.mem_map.1 hx
          exact c2 y hy
theorem gp (a b:Int) (ni:List Ni) (di:List Ki) (mv:List Vi) (h:Fine (ni.map aC) (di.map aT) (mv.map aU)) (k:Nat) (hk:1048577<k) :
    laws_toDisk.f k a b ni di mv=some (a,b,ni.map aC,di.map aT,mv.map aU):=by
  have h0:=h.n
  have h1:=h.d
  have h2:=h.m
  rw[List.length_map]at h0 h1 h2
  unfold laws_toDisk.f
  rw[cY ni h0 k (by omega),dE di h1 k (by omega),ed mv h2 k (by omega)];rfl
theorem gn (a b:Int) (nd:List Nd) (di:List Lk) (mv:List Mv) (h0:nd.length≤2097152) (h1:di.length≤2097152) (h2:mv.length≤2097152) (k:Nat) (hk:2097152<k):laws_eqDisk.f k a b nd di mv a b nd di mv=some true:=by
  unfold laws_eqDisk.f
  rw[dj nd (by omega) k (by omega),dD di (by omega) k (by omega),dG mv (by omega) k (by omega)]
  simp
theorem sOk (ro nx:Int) {nd:List Nd} {di:List Lk} {mv:List Mv} (h:Fine nd di mv) (k:Nat) (hk:2097500<k):spec_DiskOk.f k ro nx nd di mv=some (okM ro nx nd di mv):=by
  have h0:=h.n
  have h1:=h.d
  have h2:=h.m
  exact ga ro nx nd di mv (by omega) (fun x hx=>by have:=h.nz x hx;omega) (by omega) (fun x hx=>by have:=h.dz x hx;omega) (by omega) (fun x hx=>by have:=h.mz x hx;omega) k (by omega)
theorem iOk (ro nx:Int) {nd:List Nd} {di:List Lk} {mv:List Mv} (h:Fine nd di mv) (k:Nat) (hk:2097500<k):impl_DiskOk.f k ro nx nd di mv=some (okM ro nx nd di mv):=by
  have h0:=h.n
  have h1:=h.d
  have h2:=h.m
  exact fX ro nx nd di mv (by omega) (fun x hx=>by have:=h.nz x hx;omega) (by omega) (fun x hx=>by have:=h.dz x hx;omega) (by omega) (fun x hx=>by have:=h.mz x hx;omega) k (by omega)
theorem fV {l l':List Lk} {m:Mv} (h:aw l m=some l'):ai m.f1=true:=by
  unfold aw at h
  split at h
  · assumption
  · cases h
theorem fG {ro nx:Int} {nd:List Nd} {di:List Lk} {mv:List Mv} (h:okM ro nx nd di mv=true):∃D,a7 di mv=some D∧Srt di∧Srt D∧D.length≤di.length+mv.length∧mv.length≤20∧nd.length≤10∧di.length≤10:=by
  obtain⟨_,_,h3,h4,h5,_,_,_,h8,h9⟩:=(fb ro nx nd di mv).1 h
  have hs:=(a5 nd di none [] h8).1
  cases e:aF nd (di.map fun y=>y.f1) di mv with
  |none=>rw[e]at h9;cases h9
  |some o=>
    obtain⟨_,_,_,g⟩:=bD nd mv _ di o e
    cases e2:a7 di mv with
    |none=>rw[e2]at g;cases g
    |some D=>
      have q:=eU mv hs e2
      exact⟨D,rfl,hs,q.1,q.2,by omega,by omega,by omega⟩
theorem ee (ro nx:Int) (nd:List Nd) (di:List Lk) (mvs:List Mv) (h2:mvs.length≤20) (hs:∀m∈mvs,m.f1.size≤1048576∧m.f2.size≤1048576) (D:List Lk):∀(b a:List Mv) (l:List Lk) (k:Nat),a++b=mvs→a7 l b=some D→l.length≤10+a.length→b.length+1048700<k→
    spec_l4Names.l0 k (mvs.length:Int) l (a.length:Int) ro nx nd di mvs=some D
  | [],a,l,k,e,hm,hll,hk=>by
    obtain⟨q,rfl⟩:∃m,k=m+1:=⟨k-1,by omega⟩
    subst e
    cases hm
    simp only[spec_l4Names.l0]
    rw[if_neg (by simp)]
  |m::b,a,l,k,e,hm,hll,hk=>by
    simp only[List.length_cons]at hk
    have hlen:=congrArg List.length e
    rw[List.length_append,List.length_cons]at hlen
    obtain⟨q,rfl⟩:∃m,k=m+1:=⟨k-1,by omega⟩
    have hrd:rd_T135 mvs (a.length:Int)=m:=by rw[←e];exact cN a m b
    have hz:=hs m (by rw[←e];simp)
    rw[a7]at hm
    cases hap:aw l m with
    |none=>rw[hap]at hm;cases hm
    |some l'=>
      rw[hap]at hm
      have hl':=aD hap
      simp only[spec_l4Names.l0]
      rw[if_pos (by omega),if_pos (by omega),if_pos (by omega),hrd,ew l m (by omega) (by omega) (by omega) q (by omega),hap]
      simp only[Option.bind_some]
      have f:=ee ro nx nd di mvs h2 hs D b (a ++ [m]) l' q (by rw[List.append_assoc];exact e) hm (by rw[List.length_append,List.length_singleton];omega) (by omega)
      rw[show(((a ++ [m]).length:Nat):Int)=(a.length:Int)+1 by simp]at f
      rw[w64 (n:=(a.length:Int)+1) (by omega) (by omega),f]
theorem dC (mvs:List Mv) (h2:mvs.length≤20) (hs:∀m∈mvs,m.f1.size≤1048576∧m.f2.size≤1048576) (D:List Lk):∀(b a:List Mv) (l:List Lk) (k:Nat),a++b=mvs→a7 l b=some D→Srt l→l.length≤10+a.length→b.length+1048700<k→
    impl_names.l0 k l mvs (mvs.length:Int) (a.length:Int)=some D
  | [],a,l,k,e,hm,hsr,hll,hk=>by
    obtain⟨q,rfl⟩:∃m,k=m+1:=⟨k-1,by omega⟩
    subst e
    cases hm
    simp only[impl_names.l0]
    rw[if_neg (by simp)]
  |m::b,a,l,k,e,hm,hsr,hll,hk=>by
    simp only[List.length_cons]at hk
    have hlen:=congrArg List.length e
    rw[List.length_append,List.length_cons]at hlen
    obtain⟨q,rfl⟩:∃m,k=m+1:=⟨k-1,by omega⟩
    have hrd:rd_T135 mvs (a.length:Int)=m:=by rw[←e];exact cN a m b
    have hz:=hs m (by rw[←e];simp)
    rw[a7]at hm
    cases hap:aw l m with
    |none=>rw[hap]at hm;cases hm
    |some l'=>
      rw[hap]at hm
      have hl':=aD hap
      obtain⟨d,ok,e1,e2⟩:=eu l m hsr (by omega) (by omega) q (by omega)
      have e3:=e2 (fV hap)
      rw[hap]at e3
      simp only[]at e3
      obtain⟨rfl,rfl⟩:=e3
      simp only[impl_names.l0]
      rw[if_pos (by omega),if_pos (by omega),if_pos (by omega),hrd,e1]
      simp only[Option.bind_some]
      have f:=dC mvs h2 hs D b (a ++ [m]) d q (by rw[List.append_assoc];exact e) hm (cu hsr hap) (by rw[List.length_append,List.length_singleton];omega) (by omega)
      rw[show(((a ++ [m]).length:Nat):Int)=(a.length:Int)+1 by simp]at f
      rw[w64 (n:=(a.length:Int)+1) (by omega) (by omega),f]
theorem gm (ro nx:Int) (nd:List Nd) {di:List Lk} {mv:List Mv} {D:List Lk} (hm:a7 di mv=some D) (h1:di.length≤10) (h2:mv.length≤20) (hs:∀m∈mv,m.f1.size≤1048576∧m.f2.size≤1048576) (k:Nat) (hk:1048800<k):spec_l4Names.f k ro nx nd di mv (mv.length:Int)=some D:=by
  unfold spec_l4Names.f
  simp only[Option.bind_some,List.nil_append,List.length_nil]
  rw[if_pos (by omega)]
  exact ee ro nx nd di mv h2 hs D mv [] di k rfl hm (by simp;omega) (by omega)
theorem ge {di:List Lk} {mv:List Mv} {D:List Lk} (hm:a7 di mv=some D) (hsr:Srt di) (h1:di.length≤10) (h2:mv.length≤20) (hs:∀m∈mv,m.f1.size≤1048576∧m.f2.size≤1048576) (k:Nat) (hk:1048800<k):impl_names.f k di mv=some D:=by
  unfold impl_names.f impl_Link_125.f
  rw[if_pos (by omega)]
  simp only[Option.bind_some]
  exact dC mv h2 hs D mv [] di k rfl hm hsr (by simp;omega) (by omega)
def al (D:List Lk) (nd:List Nd) (s:ByteArray):Int:=match idM D s with|some i=>ixf i nd 0|none=>-1
theorem bx (D:List Lk) (nd:List Nd) (s:ByteArray):al D nd s = -1∨(0≤al D nd s∧al D nd s<(nd.length:Int)):=by
  unfold al
  cases idM D s with
  |none=>exact .inl rfl
  |some i=>
    rcases aG i nd 0 (by omega)with⟨h,_⟩|⟨h1,h2,_⟩
    · exact .inl h
    · exact .inr ⟨h1,by simp only[];omega⟩
theorem gy (ro nx:Int) {nd:List Nd} {di:List Lk} {mv:List Mv} {D:List Lk} (s:ByteArray) (hm:a7 di mv=some D) (h0:nd.length≤10) (h1:di.length≤10) (h2:mv.length≤20) (hD:D.length≤30) (hs:∀m∈mv,m.f1.size≤1048576∧m.f2.size≤1048576) (k:Nat) (hk:1048800<k):spec_l4Find.f k ro nx nd di mv s=some (al D nd s):=by
  unfold spec_l4Find.f
  rw[gm ro nx nd hm h1 h2 hs k hk]
  simp only[Option.bind_some]
  rw[gq D s (by omega) k (by omega)]
  simp only[Option.bind_some]
  have A:=fy s D 0 (by omega)
  unfold al
  cases hd:idM D s with
  |none=>rw[hd]at A;rw[A,if_pos (by decide)]
  |some i=>
    rw[hd]at A
    obtain⟨n,a1,a2,a3⟩:=A
    rw[if_neg (by omega),if_pos (by omega),if_pos (by omega),cA ro nx _ nd di mv (by omega) k (by omega),show(rd_T133 D (atM s D 0)).f1=i by rw[a1,show(0:Int)+(n:Int)=n by omega];exact a3]
    rfl
theorem gB (ro nx:Int) {nd:List Nd} {di:List Lk} {mv:List Mv} {D:List Lk} (s:ByteArray) (hm:a7 di mv=some D) (hsr:Srt di) (hsD:Srt D) (h1:di.length≤10) (h2:mv.length≤20) (hD:D.length≤30) (hs:∀m∈mv,m.f1.size≤1048576∧m.f2.size≤1048576) (k:Nat) (hk:1048800<k):impl_find.f k ro nx nd di mv s=some (al D nd s):=by
  unfold impl_find.f
  rw[ge hm hsr h1 h2 hs k hk]
  simp only[Option.bind_some]
  rw[fq D s hsD (by omega)]
  simp only[Option.bind_some]
  have A:=eP D s hsD
  unfold al
  cases hd:idM D s with
  |none=>simp
  |some i=>
    rw[hd]at A
    simp only[Option.isSome_some]
    rw[if_pos trivial,if_pos (by omega),if_pos (by omega),A.2];rfl
def bO (D:List Lk) (nd:List Nd) (s:ByteArray):ByteArray×Bool:=if al D nd s<0 then(⟨#[]⟩,false)else((rd_T130 nd (al D nd s)).f1,true)
theorem fH (a b:Int) (nd:List Nd) (di:List Lk) (mv:List Mv) (h0:nd.length≤1048600) (h1:di.length≤1048600) (h2:mv.length≤1048600) (k:Nat) (hk:2097300<k):∃n nd' di' mv',laws_markDisk.f k a b nd di mv 1=some (n,nd',di',mv')∧0<n∧n≤549755813888:=by
  unfold laws_markDisk.f
  rw[cd nd 1 (by omega) (by omega) k (by omega)];simp only[Option.bind_some]
  rw[cH di _ (by omega) (by omega) k (by omega)];simp only[Option.bind_some]
  rw[cF mv _ (by omega) (by omega) k (by omega)];simp only[Option.bind_some]
  exact⟨_,_,_,_,rfl,by omega,by omega⟩
theorem dc (i t:Int) (d:ByteArray):spec_SnapOk.f i t d=some (snapOkM i t d.size):=by
  unfold spec_SnapOk.f snapOkM
  simp only[ac,Option.bind_some,decide_eq_true_eq,toList_nil]
  repeat' split
  all_goals (congr 1;rw[Bool.eq_iff_iff];simp only[decide_eq_true_eq,Bool.and_eq_true,beq_iff_eq,true_iff,Bool.false_eq_true,false_iff,iff_true,iff_false];omega)
theorem cX (i t:Int) (d:ByteArray):impl_SnapOk.f i t d=some (snapOkM i t d.size):=by
  unfold impl_SnapOk.f snapOkM
  simp only[ab,aE,Option.bind_some,decide_eq_true_eq,toList_nil]
  by_cases h:i=0∧t=0∧d.size=0
  · obtain⟨rfl,rfl,h⟩:=h
    rw[h];rfl
  · rw[if_neg (by simpa using h)]
    repeat' split
    all_goals (congr 1;rw[Bool.eq_iff_iff];simp only[decide_eq_true_eq,Bool.and_eq_true,beq_iff_eq,true_iff,Bool.false_eq_true,false_iff,iff_true,iff_false];omega)
theorem cW {n:Int} (h0:0≤n) (h1:n<4294967296):cf n 4=fixL 4 n:=by
  unfold cf;rw[if_pos]
  · rfl
  · refine⟨by omega,by omega,h0,?_⟩;rw[show((4:Int).toNat)=4 from rfl];omega
theorem dl (i t:Int) (d:ByteArray) (h:snapOkM i t d.size=true) (hi:i≠0) (k:Nat) (hk:310000<k):spec_ShowSnap.j0 k false i t d=some (strOfNums (frameM (snapHead i t d)++bytesOf d)):=by
  obtain⟨k,rfl⟩:∃m,k=m+1:=⟨k-1,by omega⟩
  obtain⟨i0,i1,t0,t1,n1,_⟩:=snapOk_small h
  obtain⟨c0,c1⟩:=crcM_range (byt_bytesOf d)
  have hz:=snapHead_length i t d
  have hl:=frameM_length (b:=snapHead i t d) (by omega) (by omega)
  simp only[spec_ShowSnap.j0]
  rw[if_neg (by decide),aq _ _ (by omega) _ (by omega),aq _ _ (by omega) _ (by omega),cW i0 (by omega),cW t0 (by omega)]
  simp only[Option.bind_some,ByteArray.size_append,size_strOfNums,fixL_length]
  rw[if_pos (by omega),aq _ _ (by omega) _ (by omega),cW (by omega) (by omega)]
  simp only[Option.bind_some,ByteArray.size_append,size_strOfNums,fixL_length]
  rw[if_pos (by omega),dN _ (by omega) _ (by omega)]
  simp only[Option.bind_some]
  rw[aq _ _ (by omega) _ (by omega),cW c0 (by omega)]
  simp only[Option.bind_some,ByteArray.size_append,size_strOfNums,fixL_length]
  rw[if_pos (by omega),snapHead_eq,cm _ (by rw[size_strOfNums];omega) _ (by omega),bytesOf_strOfNums (snapHead_byt _ _ _)]
  simp only[Option.bind_some,size_strOfNums]
  rw[if_pos (by omega),←strOfNums_append,strOfNums_bytesOf]
theorem dk (i t:Int) (d:ByteArray) (k:Nat) (hk:310001<k):spec_ShowSnap.f k i t d=some (strOfNums (showSnapM i t d)):=by
  unfold spec_ShowSnap.f showSnapM
  rw[dc]
  simp only[Option.bind_some]
  have hn:spec_ShowSnap.j0 k true i t d=some (strOfNums []):=by
    obtain⟨k,rfl⟩:∃m,k=m+1:=⟨k-1,by omega⟩
    simp only[spec_ShowSnap.j0];rfl
  by_cases h:snapOkM i t d.size=true
  · rw[if_pos h]
    by_cases hi:i=0
    · rw[if_neg (fun g=>g.2 hi),hi,show((0:Int)==0)=true from rfl,←hi,hn]
    · rw[if_pos ⟨h,hi⟩,show(i==0)=false by simpa using hi,dl i t d h hi k (by omega)]
  · rw[if_neg h,if_neg (fun g=>h g.1),hn]
theorem cZ (i t:Int) (d:ByteArray) (h:snapOkM i t d.size=true) (hi:i≠0) (k:Nat) (hk:310000<k):impl_ShowSnap.j0 k false i t d=some (strOfNums (frameM (snapHead i t d)++bytesOf d)):=by
  obtain⟨k,rfl⟩:∃m,k=m+1:=⟨k-1,by omega⟩
  obtain⟨i0,i1,t0,t1,n1,_⟩:=snapOk_small h
  obtain⟨c0,c1⟩:=crcM_range (byt_bytesOf d)
  have hz:=snapHead_length i t d
  have hl:=frameM_length (b:=snapHead i t d) (by omega) (by omega)
  simp only[impl_ShowSnap.j0]
  rw[if_neg (by decide),ap _ _ _ (by omega),ap _ _ _ (by omega),cW i0 (by omega),cW t0 (by omega)]
  simp only[Option.bind_some,ByteArray.size_append,size_strOfNums,fixL_length]
  rw[if_pos (by omega),ap _ _ _ (by omega),cW (by omega) (by omega)]
  simp only[Option.bind_some,ByteArray.size_append,size_strOfNums,fixL_length]
  rw[if_pos (by omega),dQ _ (by omega) _ (by omega)]
  simp only[Option.bind_some]
  rw[ap _ _ _ (by omega),cW c0 (by omega)]
  simp only[Option.bind_some,ByteArray.size_append,size_strOfNums,fixL_length]
  rw[if_pos (by omega),snapHead_eq,cr _ (by rw[size_strOfNums];omega) _ (by omega),bytesOf_strOfNums (snapHead_byt _ _ _)]
  simp only[Option.bind_some,size_strOfNums]
  rw[if_pos (by omega),←strOfNums_append,strOfNums_bytesOf]
theorem dn (i t:Int) (d:ByteArray) (k:Nat) (hk:310001<k):impl_ShowSnap.f k i t d=some (strOfNums (showSnapM i t d)):=by
  unfold impl_ShowSnap.f showSnapM
  rw[cX]
  simp only[Option.bind_some]
  have hn:impl_ShowSnap.j0 k true i t d=some (strOfNums []):=by
    obtain⟨k,rfl⟩:∃m,k=m+1:=⟨k-1,by omega⟩
    simp only[impl_ShowSnap.j0];rfl
  by_cases h:snapOkM i t d.size=true
  · rw[if_pos h]
    by_cases hi:i=0
    · obtain⟨_,h2,h3⟩:=(snapOk_small h).2.2.2.2.2.1 hi
      have e:(i==0&&(t==0&&(d.toList==([]:List UInt8))))=true:=by rw[toList_nil,hi,h2,h3];rfl
      rw[if_neg (fun g=>g.2 hi),e,hn]
    · have e:(i==0&&(t==0&&(d.toList==([]:List UInt8))))=false:=by rw[show(i==0)=false by simpa using hi];rfl
      rw[if_pos ⟨h,hi⟩,e,cZ i t d h hi k (by omega)]
  · rw[if_neg h,if_neg (fun g=>h g.1),hn]
abbrev snI (s:ByteArray):Int:=(aV (unfM s).1 4).1
abbrev snT (s:ByteArray):Int:=(aV ((unfM s).1.extract 4 (unfM s).1.size) 4).1
abbrev snD (s:ByteArray):ByteArray:=s.extract (unfM s).2.1.toNat s.size
def aQ (s:ByteArray):Int×Int×ByteArray×Bool:=
  if(unfM s).2.2=0∧(unfM s).1.size=16∧strOfNums (showSnapM (snI s) (snT s) (snD s))=s then(snI s,snT s,snD s,true)else(0,0,⟨#[]⟩,false)
theorem gE {s:ByteArray} (h:(unfM s).1.size=16):(unfM s).2.2=0:=by
  by_cases h0:(unfM s).2.2=0
  · exact h0
  · rw[(unfM_err h0).1]at h;exact absurd h (by decide)
theorem el {i t:Int} {d:ByteArray} (h:30000<d.size):showSnapM i t d = []:=by
  unfold showSnapM;rw[if_neg]
  rintro⟨g,hi⟩
  have:=snapOk_small g;omega
theorem dI {t:Int} {d:ByteArray}:showSnapM 0 t d = []:=by
  unfold showSnapM;rw[if_neg (fun g=>g.2 rfl)]
theorem db (s:ByteArray) (hs:s.size≤140737488351232) (k:Nat) (hk:310003<k):impl_ReadSnap.f k s=some (aQ s):=by
  unfold impl_ReadSnap.f aQ
  rw[bn s hs _ (by omega)]
  simp only[Option.bind_some]
  obtain⟨k,rfl⟩:∃m,k=m+1:=⟨k-1,by omega⟩
  simp only[impl_ReadSnap.j0]
  by_cases h0:(unfM s).2.2=0
  · rw[if_pos h0]
    by_cases h1:(unfM s).1.size=16
    · obtain⟨a0,a1,a2⟩:=unfM_ok h0
      rw[if_neg (by simp[h1]),if_pos (show 0≤(unfM s).2.1 by omega),if_pos a2,az _ _ _ (by omega)]
      simp only[Option.bind_some]
      rw[if_pos (by omega),az _ _ _ (by omega)]
      simp only[Option.bind_some]
      by_cases h2:((aV (unfM s).1 4).1==0&&((aV ((unfM s).1.extract 4 (unfM s).1.size) 4).1==0&&(((s.extract (unfM s).2.1.toNat s.size).toList)==([]:List UInt8))))=true
      · rw[if_pos h2]
        simp only[Bool.and_eq_true,beq_iff_eq]at h2
        rw[if_neg]
        rintro⟨_,_,g⟩
        have hz:snI s=0:=h2.1
        rw[hz,dI]at g
        have hz:s.size=0:=by rw[←g];rfl
        omega
      · rw[if_neg h2,dn _ _ _ _ (by omega)]
        simp only[Option.bind_some]
        by_cases h3:strOfNums (showSnapM (snI s) (snT s) (snD s))=s
        · rw[if_pos (toList_eq_iff.2 h3),if_pos ⟨h0,h1,h3⟩]
        · rw[if_neg (fun g=>h3 (toList_eq_iff.1 g)),if_neg (fun g=>h3 g.2.2)]
    · rw[if_pos (by simp;omega),if_neg (fun g=>h1 g.2.1)]
  · rw[if_neg h0,if_pos trivial,if_neg (fun g=>h0 g.1)]
theorem dp (s:ByteArray) (hs:s.size≤140737488351232) (k:Nat) (hk:310003<k):spec_ReadSnap.f k s=some (aQ s):=by
  unfold spec_ReadSnap.f aQ
  rw[br s hs _ (by omega)]
  simp only[Option.bind_some]
  rw[aA _ _ _ (by omega)]
  simp only[Option.bind_some]
  obtain⟨k,rfl⟩:∃m,k=m+1:=⟨k-1,by omega⟩
  simp only[spec_ReadSnap.j0]
  by_cases h1:(unfM s).1.size=16
  · have h0:=gE h1
    obtain⟨a0,a1,a2⟩:=unfM_ok h0
    have he:(snD s).size=s.size-(unfM s).2.1.toNat:=extract_size _ _ (by omega)
    rw[if_pos (by omega),w64 (n:=(s.size:Int)-(unfM s).2.1) (by omega) (by omega)]
    by_cases h2:(s.size:Int)-(unfM s).2.1>30000
    · rw[if_pos (by simpa using h2),if_neg]
      rintro⟨_,_,g⟩
      rw[el (by omega)]at g
      have hz:s.size=0:=by rw[←g];rfl
      omega
    · rw[if_neg (by simpa using h2),if_pos (by omega),aA _ _ _ (by omega)]
      simp only[Option.bind_some]
      rw[if_pos (by omega),if_pos a2,dk _ _ _ _ (by omega)]
      simp only[Option.bind_some]
      by_cases h3:strOfNums (showSnapM (snI s) (snT s) (snD s))=s
      · rw[if_pos (toList_eq_iff.2 h3),if_pos ⟨h0,h1,h3⟩]
      · rw[if_neg (fun g=>h3 (toList_eq_iff.1 g)),if_neg (fun g=>h3 g.2.2)]
  · rw[if_neg (by omega),if_pos trivial,if_neg (fun g=>h1 g.2.1)]
abbrev Ent:=S115
abbrev Kv:=Int×Int×Int×Int×List Ent×Int×Int×ByteArray×Bool×Int
abbrev gA:ByteArray:=⟨#[108,111,103]⟩
abbrev fI:ByteArray:=⟨#[115,110,97,112]⟩
abbrev dY:ByteArray:=⟨#[108,111,103,46,110,101,119]⟩
abbrev fw:ByteArray:=⟨#[115,110,97,112,46,110,101,119]⟩
def gj (c:Int):Kv:=(0,0,0,0,[],0,0,⟨#[]⟩,false,c)
def dy (b:Int) (l:List Ent) (si st:Int):List Ent:=if si-b≤(l.length:Int)∧(rd_T115 l (si-b-1)).f0=st then l.drop (si-b).toNat else[]
def eh (t v b bt:Int) (l:List Ent) (si st:Int) (sd:ByteArray) (dirty:Bool):Kv:=if si>b then(if t<st then(st,-1,si,st,dy b l si st,si,st,sd,true,0)else(t,v,si,st,dy b l si st,si,st,sd,true,0))else(t,v,b,bt,l,si,st,sd,dirty,0)
theorem cV (b:Int) (l:List Ent) (si st:Int):(dy b l si st).length≤l.length:=by
  unfold dy
  split
  · rw[List.length_drop];omega
  · exact Nat.zero_le _
theorem eN (t v b bt:Int) (l:List Ent) (si st:Int) (sd:ByteArray) (dirty:Bool):(eh t v b bt l si st sd dirty).2.2.2.2.1.length≤l.length:=by
  unfold eh
  repeat' split
  · exact cV b l si st
  · exact cV b l si st
  · exact Nat.le_refl _
theorem cQ {ro nx:Int} {nd:List Nd} {di D:List Lk} {mv:List Mv} (F:Fine nd di mv) (h:okM ro nx nd di mv=true) (hD:a7 di mv=some D) (s:ByteArray) (k:Nat) (hk:2097500<k):spec_Load.f k ro nx nd di mv s=some (bO D nd s):=by
  obtain⟨D',hm,hs,hsD,hl,h2,h0,h1⟩:=fG h
  obtain rfl:D'=D:=Option.some.inj (hm.symm.trans hD)
  unfold spec_Load.f bO
  rw[sOk ro nx F k hk,Option.bind_some,if_pos h,gy ro nx s hm h0 h1 h2 (by omega) F.mz k (by omega),Option.bind_some]
  rcases bx D' nd s with c|⟨c1,c2⟩
  · have n:al D' nd s<0:=by omega
    simp only[if_pos n]
  · have n:¬al D' nd s<0:=by omega
    simp only[if_neg n,if_pos c1,if_pos c2]
theorem fF {ro nx:Int} {nd:List Nd} {di D:List Lk} {mv:List Mv} (F:Fine nd di mv) (h:okM ro nx nd di mv=true) (hD:a7 di mv=some D) (s:ByteArray) (k:Nat) (hk:2097500<k):impl_find.f k ro nx nd di mv s=some (al D nd s):=by
  obtain⟨D',hm,hs,hsD,hl,h2,h0,h1⟩:=fG h
  obtain rfl:D'=D:=Option.some.inj (hm.symm.trans hD)
  exact gB ro nx s hm hs hsD h1 h2 (by omega) F.mz k (by omega)
theorem gh {ro nx:Int} {nd:List Nd} {di D:List Lk} {mv:List Mv} (F:Fine nd di mv) (h:okM ro nx nd di mv=true) (hD:a7 di mv=some D) (s:ByteArray) (k:Nat) (hk:2097500<k):impl_Load.f k ro nx nd di mv s=some (bO D nd s):=by
  unfold impl_Load.f bO
  rw[iOk ro nx F k hk,Option.bind_some,if_pos h,fF F h hD s k hk,Option.bind_some]
  rcases bx D nd s with c|⟨c1,c2⟩
  · have n:al D nd s<0:=by omega
    simp only[if_pos n]
  · have n:¬al D nd s<0:=by omega
    simp only[if_neg n,if_pos c1,if_pos c2]
theorem ex (D:List Lk) (nd:List Nd) (s:ByteArray):(bO D nd s).2=decide (0≤al D nd s):=by
  unfold bO
  split
  · rw[decide_eq_false (by omega)]
  · rw[decide_eq_true (by omega)]
theorem d7 {D:List Lk} {nd:List Nd} {di:List Lk} {mv:List Mv} (F:Fine nd di mv) (s:ByteArray):(bO D nd s).1.size≤1048576:=by
  unfold bO
  split
  · exact Nat.zero_le _
  · rename_i c
    rcases bx D nd s with c1|⟨c1,c2⟩
    · omega
    · refine F.nz _ ?_
      unfold rd_T130
      rw[List.getD_eq_getElem?_getD,List.getElem?_eq_getElem (by omega)]
      exact List.getElem_mem _
theorem eF (s:ByteArray):0≤(aQ s).1∧(aQ s).1≤100000:=by
  unfold aQ
  split
  · rename_i c
    obtain⟨c0,c1,c2⟩:=c
    show 0≤snI s∧snI s≤100000
    by_cases g:snapOkM (snI s) (snT s) (snD s).size=true∧snI s≠0
    · have:=snapOk_small g.1;omega
    · exfalso
      unfold showSnapM at c2
      rw[if_neg g]at c2
      have:=unfM_ok c0
      rw[←c2]at this
      have z:(strOfNums []).size=0:=rfl
      omega
  · exact⟨Int.le_refl _,by show(0:Int)≤100000;omega⟩
theorem gt (t v b bt:Int) (l:List Ent) (si st:Int) (b0:0≤b) (b1:b≤100000) (s1:si≤100000) (hl:l.length≤61) (h:si>b):impl_behind.f t v b bt l si st=some (dy b l si st):=by
  unfold impl_behind.f
  rw[w64 (n:=si-b) (by omega) (by omega),w64 (n:=si-b-1) (by omega) (by omega),w64 (n:=(l.length:Int)-1) (by omega) (by omega),ab,Option.bind_some]
  by_cases c:si-b≤(l.length:Int)
  · rw[decide_eq_true (by omega),if_pos rfl,if_pos (by omega),if_pos (by omega)]
    by_cases e:(rd_T115 l (si-b-1)).f0=st
    · have hb:dy b l si st=l.drop (si-b).toNat:=if_pos ⟨c,e⟩
      rw[if_pos e,hb,w64 (n:=si-b-1+1) (by omega) (by omega),if_pos (by omega),if_pos (by omega),show si-b-1+1=si-b by omega]
      unfold impl_Entry.f
      rw[if_pos (by rw[List.length_drop];omega),Option.bind_some]
    · have hb:dy b l si st = []:=if_neg (fun g=>e g.2)
      rw[if_neg e,hb]
  · have hb:dy b l si st = []:=if_neg (fun g=>c g.1)
    rw[decide_eq_false (by omega),if_neg (by decide),hb]
structure Kd_ (ro nx:Int) (nd:List Nd) (di:List Lk) (mv:List Mv) (D:List Lk):Prop where
  F:Fine nd di mv
  h:okM ro nx nd di mv=true
  m:a7 di mv=some D
theorem sj3 {ro nx:Int} {nd:List Nd} {di D:List Lk} {mv:List Mv} (G:Kd_ ro nx nd di mv D) (t v b bt:Int) (l:List Ent) (si st:Int) (sd:ByteArray) (q:Nat) (hq:2097700<q):spec_Recover.j3 q true ro nx nd di mv t v b bt l si st sd=some (if t<st then(st,-1,si,st,l,si,st,sd,true,0)else(t,v,si,st,l,si,st,sd,true,0)):=by
  obtain⟨q,rfl⟩:∃m,q=m+1:=⟨q-1,by omega⟩
  simp only[spec_Recover.j3]
  rw[cQ G.F G.h G.m _ q (by omega),cQ G.F G.h G.m _ q (by omega)]
  by_cases c:t<st
  · rw[if_pos c,if_pos c,Option.bind_some,Option.bind_some,if_pos trivial]
  · rw[if_neg c,if_neg c,Option.bind_some,Option.bind_some,if_pos trivial]
theorem sj1 {ro nx:Int} {nd:List Nd} {di D:List Lk} {mv:List Mv} (G:Kd_ ro nx nd di mv D) (x:ByteArray) (p t v b bt:Int) (l:List Ent) (si st:Int) (sd:ByteArray) (b0:0≤b) (b1:b≤100000) (s1:si≤100000) (hl:l.length≤61) (q:Nat) (hq:2097702<q):spec_Recover.j1 q x p false ro nx nd di mv t v b bt l si st sd=some (eh t v b bt l si st sd (decide (p<(x.size:Int))||(decide (0≤al D nd dY)||decide (0≤al D nd fw)))):=by
  obtain⟨q,rfl⟩:∃m,q=m+1:=⟨q-1,by omega⟩
  obtain⟨q,rfl⟩:∃m,q=m+1:=⟨q-1,by omega⟩
  have j2:∀(K:Int) (y:Bool),(y=true→0≤K∧K≤(l.length:Int))→spec_Recover.j2 (q+1) true K y ro nx nd di mv t v b bt l si st sd=some (if t<st then(st,-1,si,st,(if y=true then l.drop K.toNat else[]),si,st,sd,true,0)else(t,v,si,st,(if y=true then l.drop K.toNat else[]),si,st,sd,true,0)):=by
    intro K y hy
    simp only[spec_Recover.j2]
    by_cases c:y=true
    · rw[if_pos c,if_pos (hy c).1,if_pos (hy c).2,sj3 G t v b bt _ si st sd q (by omega),if_pos c]
    · rw[if_neg c,sj3 G t v b bt _ si st sd q (by omega),if_neg c]
  generalize hq1:q+1=q1 at j2 ⊢
  simp only[spec_Recover.j1]
  rw[if_neg (by decide)]
  unfold eh
  by_cases c:si>b
  · rw[if_pos c,if_pos c,w64 (n:=si-b) (by omega) (by omega),w64 (n:=si-b-1) (by omega) (by omega)]
    by_cases d:si-b≤(l.length:Int)
    · rw[if_pos d,if_pos (by omega),if_pos (by omega),j2 _ _ (fun _=>⟨by omega,d⟩)]
      by_cases e:(rd_T115 l (si-b-1)).f0=st
      · have hb:dy b l si st=l.drop (si-b).toNat:=if_pos ⟨d,e⟩
        have hy:((rd_T115 l (si-b-1)).f0==st)=true:=beq_iff_eq.2 e
        rw[hb];simp only[hy,if_true]
      · have hb:dy b l si st = []:=if_neg (fun g=>e g.2)
        have hy:((rd_T115 l (si-b-1)).f0==st)=false:=beq_eq_false_iff_ne.2 e
        rw[hb];simp only[hy,Bool.false_eq_true,if_false]
    · have hb:dy b l si st = []:=if_neg (fun g=>d g.1)
      rw[if_neg d,j2 _ _ (fun g=>by cases g),hb];simp only[Bool.false_eq_true,if_false]
  · rw[if_neg c,if_neg c,cQ G.F G.h G.m _ q1 (by omega),Option.bind_some,cQ G.F G.h G.m _ q1 (by omega),Option.bind_some,ex,ex]
    by_cases d:p<(x.size:Int)
    · rw[if_pos d,decide_eq_true d,Bool.true_or]
    · rw[if_neg d,decide_eq_false d,Bool.false_or]
      by_cases e:0≤al D nd dY
      · rw[decide_eq_true e,if_pos rfl,Bool.true_or]
      · rw[decide_eq_false e,if_neg (by decide),Bool.false_or]
theorem ij1 {ro nx:Int} {nd:List Nd} {di D:List Lk} {mv:List Mv} (G:Kd_ ro nx nd di mv D) (x:ByteArray) (p t v b bt:Int) (l:List Ent) (si st:Int) (sd:ByteArray) (b0:0≤b) (b1:b≤100000) (s1:si≤100000) (hl:l.length≤61) (q:Nat) (hq:2097702<q):impl_Recover.j1 q x p false ro nx nd di mv t v b bt l si st sd=some (eh t v b bt l si st sd (decide (p<(x.size:Int))||(decide (0≤al D nd dY)||decide (0≤al D nd fw)))):=by
  obtain⟨q,rfl⟩:∃m,q=m+1:=⟨q-1,by omega⟩
  simp only[impl_Recover.j1]
  rw[if_neg (by decide)]
  unfold eh
  by_cases c:si>b
  · rw[if_pos c,if_pos c,if_pos c,gt t v b bt l si st b0 b1 s1 hl c,Option.bind_some]
    by_cases d:t<st
    · rw[if_pos d,if_pos d];split<;>rfl
    · rw[if_neg d,if_neg d];split<;>rfl
  · rw[if_neg c,if_neg c,if_neg c,fF G.F G.h G.m _ q (by omega),Option.bind_some,fF G.F G.h G.m _ q (by omega),Option.bind_some]
    by_cases d:p<(x.size:Int)
    · rw[if_pos (show(x.size:Int)>p from d),decide_eq_true d,Bool.true_or]
    · rw[if_neg (show ¬(x.size:Int)>p from d),decide_eq_false d,Bool.false_or]
      by_cases e:0≤al D nd dY
      · rw[if_pos (show al D nd dY≥0 from e),decide_eq_true e,Bool.true_or]
      · rw[if_neg (show ¬al D nd dY≥0 from e),decide_eq_false e,Bool.false_or]
def gg (o:Bool) (b bt si st:Int):Bool:=!o||(decide (b>si)||(decide (b=si)&&(bt != st)))
theorem sj0 (x:ByteArray) (p:Int) (o:Bool) (ro nx:Int) (nd:List Nd) (di:List Lk) (mv:List Mv) (t v b bt:Int) (l:List Ent) (si st:Int) (sd:ByteArray) (q:Nat):spec_Recover.j0 (q+1) x p o ro nx nd di mv t v b bt l si st sd=spec_Recover.j1 q x p (gg o b bt si st) ro nx nd di mv t v b bt l si st sd:=by
  simp only[spec_Recover.j0]
  unfold gg
  by_cases c:o=true
  · rw[if_pos c,c]
    by_cases d:b>si
    · rw[if_pos d,decide_eq_true d];rfl
    · rw[if_neg d,decide_eq_false d]
      by_cases e:b=si
      · rw[if_pos e,decide_eq_true e];simp
      · rw[if_neg e,decide_eq_false e];simp
  · rw[if_neg c];rw[Bool.not_eq_true]at c;rw[c];rfl
theorem ij0 (x:ByteArray) (p:Int) (o:Bool) (ro nx:Int) (nd:List Nd) (di:List Lk) (mv:List Mv) (t v b bt:Int) (l:List Ent) (si st:Int) (sd:ByteArray) (q:Nat):impl_Recover.j0 (q+1) x o p ro nx nd di mv t v b bt l si st sd=impl_Recover.j1 q x p (gg o b bt si st) ro nx nd di mv t v b bt l si st sd:=by
  simp only[impl_Recover.j0]
  unfold gg
  by_cases c:o=true
  · rw[if_pos c,c]
    by_cases d:b>si
    · rw[if_pos d,decide_eq_true d];rfl
    · rw[if_neg d,decide_eq_false d]
      by_cases e:b=si
      · rw[if_pos e,decide_eq_true e];simp
      · rw[if_neg e,decide_eq_false e];simp
  · rw[if_neg c];rw[Bool.not_eq_true]at c;rw[c];rfl
theorem es {ro nx:Int} {nd:List Nd} {di D:List Lk} {mv:List Mv} (G:Kd_ ro nx nd di mv D) (x:ByteArray) (p:Int) (o:Bool) (t v b bt:Int) (l:List Ent) (si st:Int) (sd:ByteArray) (b0:0≤b) (b1:b≤100000) (s1:si≤100000) (hl:l.length≤61):∃R:Kv,R.2.2.2.2.1.length≤61∧(∀q,2097710<q→spec_Recover.j0 q x p o ro nx nd di mv t v b bt l si st sd=some R)∧(∀q,2097710<q→impl_Recover.j0 q x o p ro nx nd di mv t v b bt l si st sd=some R):=by
  by_cases c:gg o b bt si st=true
  · refine⟨gj 2,Nat.zero_le _,fun q hq=>?_,fun q hq=>?_⟩
    · obtain⟨q,rfl⟩:∃m,q=m+1+1:=⟨q-2,by omega⟩
      rw[sj0,c];simp only[spec_Recover.j1];rw[if_pos trivial];rfl
    · obtain⟨q,rfl⟩:∃m,q=m+1+1:=⟨q-2,by omega⟩
      rw[ij0,c];simp only[impl_Recover.j1];rw[if_pos trivial];rfl
  · rw[Bool.not_eq_true]at c
    refine⟨eh t v b bt l si st sd (decide (p<(x.size:Int))||(decide (0≤al D nd dY)||decide (0≤al D nd fw))),Nat.le_trans (eN t v b bt l si st sd _) hl,fun q hq=>?_,fun q hq=>?_⟩
    · obtain⟨q,rfl⟩:∃m,q=m+1:=⟨q-1,by omega⟩
      rw[sj0,c,sj1 G x p t v b bt l si st sd b0 b1 s1 hl q (by omega)]
    · obtain⟨q,rfl⟩:∃m,q=m+1:=⟨q-1,by omega⟩
      rw[ij0,c,ij1 G x p t v b bt l si st sd b0 b1 s1 hl q (by omega)]
theorem gb (ro nx:Int) {nd:List Nd} {di:List Lk} {mv:List Mv} (F:Fine nd di mv):∃R:Kv,R.2.2.2.2.1.length≤61∧(∀k,2097720<k→spec_Recover.f k ro nx nd di mv=some R)∧(∀k,2097720<k→impl_Recover.f k ro nx nd di mv=some R):=by
  by_cases h:okM ro nx nd di mv=true
  · obtain⟨D,hm,_⟩:=fG h
    have G:Kd_ ro nx nd di mv D:=⟨F,h,hm⟩
    have hz:=d7 (D:=D) F gA
    have hy:=d7 (D:=D) F fI
    have s1:=fun k hk=>cQ F h hm gA k hk
    have s2:=fun k hk=>cQ F h hm fI k hk
    have i1:=fun k hk=>gh F h hm gA k hk
    have i2:=fun k hk=>gh F h hm fI k hk
    generalize bO D nd gA=A at hz s1 i1
    generalize bO D nd fI=B at hy s2 i2
    obtain⟨a,x⟩:=A
    obtain⟨c,y⟩:=B
    have hy:c.size≤1048576:=hy
    by_cases hx:x=true
    · obtain⟨⟨t,v,b,bt,l,p,o⟩,⟨hl,b0,b1⟩,e1,e2⟩:=gv a hz
      by_cases hyy:y=true
      · have sb:=eF c
        have f1:=fun k hk=>dp c (by omega) k hk
        have f2:=fun k hk=>db c (by omega) k hk
        generalize aQ c=Q at sb f1 f2
        obtain⟨si,st,sd,so⟩:=Q
        obtain⟨R,r0,r1,r2⟩:=es G a p (o&&so) t v b bt l si st sd b0 b1 sb.2 hl
        refine⟨R,r0,fun k hk=>?_,fun k hk=>?_⟩
        · unfold spec_Recover.f
          rw[sOk ro nx F k (by omega),Option.bind_some,if_pos h,s1 k (by omega),Option.bind_some,if_pos hx,e1 k (by omega),Option.bind_some,s2 k (by omega),Option.bind_some,if_pos hyy,f1 k (by omega),Option.bind_some]
          rw[←r1 k (by omega)]
          cases o<;>rfl
        · unfold impl_Recover.f
          rw[iOk ro nx F k (by omega),Option.bind_some,if_pos h,i1 k (by omega),Option.bind_some,if_pos hx,e2 k (by omega),Option.bind_some,i2 k (by omega),Option.bind_some,if_pos hyy,f2 k (by omega),Option.bind_some]
          rw[←r2 k (by omega)]
          cases o<;>rfl
      · obtain⟨R,r0,r1,r2⟩:=es G a p o t v b bt l 0 0 ⟨#[]⟩ b0 b1 (by omega) hl
        refine⟨R,r0,fun k hk=>?_,fun k hk=>?_⟩
        · unfold spec_Recover.f
          rw[sOk ro nx F k (by omega),Option.bind_some,if_pos h,s1 k (by omega),Option.bind_some,if_pos hx,e1 k (by omega),Option.bind_some,s2 k (by omega),Option.bind_some,if_neg hyy]
          exact r1 k (by omega)
        · unfold impl_Recover.f
          rw[iOk ro nx F k (by omega),Option.bind_some,if_pos h,i1 k (by omega),Option.bind_some,if_pos hx,e2 k (by omega),Option.bind_some,i2 k (by omega),Option.bind_some,if_neg hyy]
          exact r2 k (by omega)
    · refine⟨gj 1,Nat.zero_le _,fun k hk=>?_,fun k hk=>?_⟩
      · unfold spec_Recover.f
        rw[sOk ro nx F k (by omega),Option.bind_some,if_pos h,s1 k (by omega),Option.bind_some,if_neg hx];rfl
      · unfold impl_Recover.f
        rw[iOk ro nx F k (by omega),Option.bind_some,if_pos h,i1 k (by omega),Option.bind_some,if_neg hx];rfl
  · refine⟨gj 2,Nat.zero_le _,fun k hk=>?_,fun k hk=>?_⟩
    · unfold spec_Recover.f
      rw[sOk ro nx F k (by omega),Option.bind_some,if_neg h];rfl
    · unfold impl_Recover.f
      rw[iOk ro nx F k (by omega),Option.bind_some,if_neg h];rfl
theorem FnExactRecover (a0_0:Int) (a0_1:Int) (l0_2:List S121) (l0_3:List S124) (l0_4:List S127) (w0_0:(Lit.int .i64 a0_0).wf=true) (w0_1:(Lit.int .i64 a0_1).wf=true) (m0_2:l0_2.length≤maxLen) (g0_2:∀z∈l0_2,(Lit.int .i64 z.f0).wf=true∧z.f1.size≤maxLen∧(Lit.int .i64 z.f2).wf=true) (m0_3:l0_3.length≤maxLen) (g0_3:∀z∈l0_3,z.f0.size≤maxLen∧(Lit.int .i64 z.f1).wf=true) (m0_4:l0_4.length≤maxLen) (g0_4:∀z∈l0_4,(Lit.int .i64 z.f0).wf=true∧z.f1.size≤maxLen∧z.f2.size≤maxLen∧(Lit.int .i64 z.f3).wf=true):∃k,laws_FnExactRecover.f k a0_0 a0_1 l0_2 l0_3 l0_4=some true:=by
  obtain⟨K,hK⟩:∃K:Nat,K=2097800:=⟨_,rfl⟩
  refine⟨K+1+1+1,?_⟩
  unfold laws_FnExactRecover.f
  obtain⟨r,e,r0,r1,r2⟩:=gu a0_0 a0_1 l0_2 l0_3 l0_4 1048576 (by omega) (by omega) m0_2 m0_3 m0_4 (fun z hz=>(g0_2 z hz).2.1) (fun z hz=>(g0_3 z hz).1) (fun z hz=>⟨(g0_4 z hz).2.1,(g0_4 z hz).2.2.1⟩) (K+1+1+1) (by omega)
  rw[e];simp only[Option.bind_some]
  by_cases hr:r<0
  · rw[if_pos hr]
  rw[if_neg hr]
  have F:=r2 (by omega)
  have h0:=F.n
  have h1:=F.d
  have h2:=F.m
  have td:=fun k hk=>gp a0_0 a0_1 l0_2 l0_3 l0_4 F k hk
  obtain⟨⟨t,v,b,bt,l,si,st,sd,dd,cc⟩,hl,sp,ip⟩:=gb a0_0 a0_1 F
  simp only[]at hl
  have eq:∀k,1048577<k→laws_eqKept.f k t v b bt l si st sd dd t v b bt l si st sd dd=some true:=by
    intro k hk
    unfold laws_eqKept.f laws_eqSnap.f
    rw[eG t v b bt l (by omega) k hk];simp
  have held:∀k,1048577<k→laws_heldKept.f k t v b bt (ae 1 l.length) si st sd dd 1=some (1+2*(l.length:Int)):=by
    intro k hk
    unfold laws_heldKept.f
    rw[dZ t v b bt l.length 1 (by omega) (by omega) k (by omega)];simp only[Option.bind_some]
    rw[if_neg (by omega)]
  rw[td _ (by omega)];simp only[Option.bind_some]
  rw[sp _ (by omega),ip _ (by omega)];simp only[Option.bind_some]
  rw[eq _ (by omega)];simp only[Option.bind_some]
  rw[if_pos trivial,bne_self_eq_false]
  simp only[laws_FnExactRecover.j0]
  rw[if_neg (by decide),td _ (by omega)];simp only[Option.bind_some]
  rw[gn a0_0 a0_1 _ _ _ (by omega) (by omega) (by omega) _ (by omega)];simp only[Option.bind_some]
  obtain⟨n,nd',di',mv',em,hn,hn2⟩:=fH a0_0 a0_1 (l0_2.map aC) (l0_3.map aT) (l0_4.map aU) (by omega) (by omega) (by omega) (K+1+1) (by omega)
  rw[if_pos trivial,em];simp only[Option.bind_some]
  rw[if_neg (by omega),eq _ (by omega)];simp only[Option.bind_some]
  rw[if_pos trivial,bne_self_eq_false]
  simp only[laws_FnExactRecover.j1]
  unfold laws_markKept.f
  rw[if_neg (by decide),d2 t v b bt l 1 (by omega) (by omega) _ (by omega)];simp only[Option.bind_some]
  rw[held _ (by omega)];simp only[Option.bind_some]
  rw[if_neg (by omega),if_pos trivial,td _ (by omega)];simp only[Option.bind_some]
  rw[ip _ (by omega)];simp only[Option.bind_some]
  rw[eq _ (by omega)];simp only[Option.bind_some]
  rw[if_pos trivial,bne_self_eq_false]
  simp only[laws_FnExactRecover.j2]
  rw[if_neg (by decide),held _ (by omega)];simp only[Option.bind_some]
  rw[if_neg (by omega),if_pos trivial]
end Go.Proofs.YtndbmllnkjngnaaGreat.Pure
