/- Plain mathematics of the sum of a text's bytes. No condition. -/
import Derived.Test.YtndbmllnkjngnaaGreatBase
namespace Go.Proofs.YtndbmllnkjngnaaGreat.Base
open Go.RowKit Go.Proofs.YtndbmllnkjngnaaGreatW.PrintWords Go.Proofs.YtndbmllnkjngnaaGreatW.PrintLast Go.Proofs.YtndbmllnkjngnaaGreatW.PrintMore
set_option linter.unusedVariables false
set_option linter.unusedSimpArgs false
def xr (a b:Int):Int:=((a.toNat ^^^ b.toNat:Nat):Int)
theorem xr_range {a b:Int} (ha:a<4294967296) (hb:b<4294967296):0≤xr a b∧xr a b<4294967296:=by
  have:=Nat.xor_lt_two_pow (n:=32) (x:=a.toNat) (y:=b.toNat) (by omega) (by omega)
  unfold xr;omega
theorem bits_xor64 {a b:Int} (a0:0≤a) (ha:a<4294967296) (b0:0≤b) (hb:b<4294967296):Go.bits .xor .i64 a b=xr a b:=by
  have e:Go.bits .xor .i64 a b=IntKind.i64.wrap ((BitVec.ofInt 64 a ^^^ BitVec.ofInt 64 b).toNat:Int):=rfl
  have e1:(BitVec.ofInt 64 a ^^^ BitVec.ofInt 64 b).toNat=a.toNat ^^^ b.toNat:=by
    rw[BitVec.toNat_xor,BitVec.toNat_ofInt,BitVec.toNat_ofInt,show(a%((2 ^ 64:Nat):Int)).toNat=a.toNat by omega,show(b%((2 ^ 64:Nat):Int)).toNat=b.toNat by omega]
  obtain⟨h0,h1⟩:=xr_range ha hb
  unfold xr at h0 h1 ⊢
  rw[e,e1]
  simp[IntKind.wrap,IntKind.bits,IntKind.signed]
  omega
theorem bits_xor32 {a b:Int} (a0:0≤a) (ha:a<4294967296) (b0:0≤b) (hb:b<4294967296):Go.bits .xor .u32 a b=xr a b:=by
  have e:Go.bits .xor .u32 a b=IntKind.u32.wrap ((BitVec.ofInt 32 a ^^^ BitVec.ofInt 32 b).toNat:Int):=rfl
  have e1:(BitVec.ofInt 32 a ^^^ BitVec.ofInt 32 b).toNat=a.toNat ^^^ b.toNat:=by
    rw[BitVec.toNat_xor,BitVec.toNat_ofInt,BitVec.toNat_ofInt,show(a%((2 ^ 32:Nat):Int)).toNat=a.toNat by omega,show(b%((2 ^ 32:Nat):Int)).toNat=b.toNat by omega]
  obtain⟨h0,h1⟩:=xr_range ha hb
  unfold xr at h0 h1 ⊢
  rw[e,e1]
  simp[IntKind.wrap,IntKind.bits,IntKind.signed]
  omega
theorem bits_and1 {a:Int} (a0:0≤a) (ha:a<4294967296):Go.bits .and .u32 a 1=a%2:=by
  have e:Go.bits .and .u32 a 1=IntKind.u32.wrap ((BitVec.ofInt 32 a &&& BitVec.ofInt 32 1).toNat:Int):=rfl
  have e1:(BitVec.ofInt 32 a &&& BitVec.ofInt 32 1).toNat=a.toNat%2:=by
    rw[BitVec.toNat_and,BitVec.toNat_ofInt,BitVec.toNat_ofInt,show(a%((2 ^ 32:Nat):Int)).toNat=a.toNat by omega,show((1:Int)%((2 ^ 32:Nat):Int)).toNat=1 by omega,Nat.and_one_is_mod]
  rw[e,e1]
  simp[IntKind.wrap,IntKind.bits,IntKind.signed]
  omega
theorem xr_ones {a:Int} (a0:0≤a) (ha:a<4294967296):xr 4294967295 a=4294967295-a:=by
  have h:(BitVec.allOnes 32 ^^^ BitVec.ofNat 32 a.toNat).toNat=4294967295-a.toNat:=by
    rw[BitVec.allOnes_xor,BitVec.toNat_not,BitVec.toNat_ofNat];omega
  rw[BitVec.toNat_xor,BitVec.toNat_ofNat,BitVec.toNat_allOnes]at h
  unfold xr
  rw[show(4294967295:Int).toNat=2 ^ 32-1 by rfl,show a.toNat=a.toNat%2 ^ 32 by omega,h]
  omega
def crc1 (c:Int):Int:=if c%2=1 then xr (c/2) 2197175160 else c/2
theorem crc1_range {c:Int} (h0:0≤c) (h1:c<4294967296):0≤crc1 c∧crc1 c<4294967296:=by
  unfold crc1
  split
  · exact xr_range (by omega) (by omega)
  · omega
def crcI:Nat→Int→Int
  | 0,c=>c
  |d+1,c=>crcI d (crc1 c)
theorem crcI_range:∀(d:Nat) {c:Int},0≤c→c<4294967296→0≤crcI d c∧crcI d c<4294967296
  | 0,_,h0,h1=>⟨h0,h1⟩
  |d+1,_,h0,h1=>crcI_range d (crc1_range h0 h1).1 (crc1_range h0 h1).2
def crcL:List Int→Int→Int
  | [],c=>c
  |b::t,c=>crcL t (crcI 8 (xr c b))
theorem crcL_range:∀(l:List Int) {c:Int},Byt l→0≤c→c<4294967296→0≤crcL l c∧crcL l c<4294967296
  | [],_,_,h0,h1=>⟨h0,h1⟩
  |b::t,c,hl,h0,h1=>by
    obtain⟨⟨b0,b1⟩,ht⟩:=byt_cons.1 hl
    obtain⟨r0,r1⟩:=xr_range (a:=c) (b:=b) h1 (by omega)
    exact crcL_range t ht (crcI_range 8 r0 r1).1 (crcI_range 8 r0 r1).2
def crcM (l:List Int):Int:=4294967295-crcL l 4294967295
theorem crcM_range {l:List Int} (h:Byt l):0≤crcM l∧crcM l<4294967296:=by
  obtain⟨h0,h1⟩:=crcL_range l (c:=4294967295) h (by omega) (by omega)
  unfold crcM;omega
end Go.Proofs.YtndbmllnkjngnaaGreat.Base
