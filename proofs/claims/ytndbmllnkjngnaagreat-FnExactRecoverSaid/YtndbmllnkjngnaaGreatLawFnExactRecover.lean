/- The row of the law FnExactRecover out of its plain statement and the walk. No condition. -/
import Derived.Test.YtndbmllnkjngnaaGreatRows
import Derived.Test.YtndbmllnkjngnaaGreatPFnExactRecoverx1
import Derived.Test.YtndbmllnkjngnaaGreatPureFnExactRecover
import Derived.Test.YtndbmllnkjngnaaGreatOpen
import Derived.WalkKit
import Derived.ProofKit
import Derived.OpenShut
import Derived.ShutString
import Derived.ChangeOld
import Derived.Below
import Derived.SizedLaws
namespace Go.Proofs.YtndbmllnkjngnaaGreat.fnExactRecover
open Go.ChangeShapes Go.WideShapes Go.ChangeAt Go.RowKit Go.Proofs.YtndbmllnkjngnaaGreat.Open Go.Proofs.YtndbmllnkjngnaaGreat.PDs Go.Proofs.YtndbmllnkjngnaaGreat.PFnExactRecover Go.Proofs.YtndbmllnkjngnaaGreatW.PrintWords Go.Deep
open Go.ChangeMaps (open_string shut_string)
set_option linter.unusedVariables false
set_option linter.unusedSimpArgs false
theorem own:ownKnob Tryz.prog.godebug=none:=by kernel_rfl
theorem laidOut:laidOutB Tryz.prog=true:=by kernel_rfl
theorem read121 {H:Type} {enc:TypeId×Value→H} {w:World} {base:Nat} {spare:Nat→Bool} {held:Bool} (m:Nat) (cs:List Value) (x:DataW H×List MemPlace) (h:DataW.trod enc Tryz.prog w base spare held m 121 cs=some x):∃z:S121,k121.K w z cs∧(Lit.int .i64 z.f0).wf=true∧z.f1.size≤maxLen∧(Lit.int .i64 z.f2).wf=true:=by
  obtain⟨hl,hf⟩:=open_fields Tryz.underlying121 (by kernel_rfl) (by kernel_rfl) h
  obtain⟨u0,y0,m0,e0,t0⟩:=hf 0 _ rfl
  obtain⟨n0,rfl,g0⟩:=get_int Tryz.underlying3 t0
  obtain⟨u1,y1,m1,e1,t1⟩:=hf 1 _ rfl
  obtain⟨n1,rfl,g1⟩:=get_string Tryz.underlying9 t1
  obtain⟨u2,y2,m2,e2,t2⟩:=hf 2 _ rfl
  obtain⟨n2,rfl,g2⟩:=get_int Tryz.underlying3 t2
  obtain rfl:cs = [.int .i64 n0,.string n1,.int .i64 n2]:=by
    have hl_:cs.length=3:=hl
    apply List.ext_getElem?
    intro i_
    match i_ with
    | 0=>exact e0
    | 1=>exact e1
    | 2=>exact e2
    |n_+3=>rw[List.getElem?_eq_none (by omega),List.getElem?_eq_none (by simp)]
  exact⟨⟨n0,n1,n2⟩,k121_mk _ _,g0,g1,g2⟩
theorem read124 {H:Type} {enc:TypeId×Value→H} {w:World} {base:Nat} {spare:Nat→Bool} {held:Bool} (m:Nat) (cs:List Value) (x:DataW H×List MemPlace) (h:DataW.trod enc Tryz.prog w base spare held m 124 cs=some x):∃z:S124,k124.K w z cs∧z.f0.size≤maxLen∧(Lit.int .i64 z.f1).wf=true:=by
  obtain⟨hl,hf⟩:=open_fields Tryz.underlying124 (by kernel_rfl) (by kernel_rfl) h
  obtain⟨u0,y0,m0,e0,t0⟩:=hf 0 _ rfl
  obtain⟨n0,rfl,g0⟩:=get_string Tryz.underlying9 t0
  obtain⟨u1,y1,m1,e1,t1⟩:=hf 1 _ rfl
  obtain⟨n1,rfl,g1⟩:=get_int Tryz.underlying3 t1
  obtain rfl:cs = [.string n0,.int .i64 n1]:=by
    have hl_:cs.length=2:=hl
    apply List.ext_getElem?
    intro i_
    match i_ with
    | 0=>exact e0
    | 1=>exact e1
    |n_+2=>rw[List.getElem?_eq_none (by omega),List.getElem?_eq_none (by simp)]
  exact⟨⟨n0,n1⟩,k124_mk _ _,g0,g1⟩
theorem read127 {H:Type} {enc:TypeId×Value→H} {w:World} {base:Nat} {spare:Nat→Bool} {held:Bool} (m:Nat) (cs:List Value) (x:DataW H×List MemPlace) (h:DataW.trod enc Tryz.prog w base spare held m 127 cs=some x):∃z:S127,k127.K w z cs∧(Lit.int .i64 z.f0).wf=true∧z.f1.size≤maxLen∧z.f2.size≤maxLen∧(Lit.int .i64 z.f3).wf=true:=by
  obtain⟨hl,hf⟩:=open_fields Tryz.underlying127 (by kernel_rfl) (by kernel_rfl) h
  obtain⟨u0,y0,m0,e0,t0⟩:=hf 0 _ rfl
  obtain⟨n0,rfl,g0⟩:=get_int Tryz.underlying3 t0
  obtain⟨u1,y1,m1,e1,t1⟩:=hf 1 _ rfl
  obtain⟨n1,rfl,g1⟩:=get_string Tryz.underlying9 t1
  obtain⟨u2,y2,m2,e2,t2⟩:=hf 2 _ rfl
  obtain⟨n2,rfl,g2⟩:=get_string Tryz.underlying9 t2
  obtain⟨u3,y3,m3,e3,t3⟩:=hf 3 _ rfl
  obtain⟨n3,rfl,g3⟩:=get_int Tryz.underlying3 t3
  obtain rfl:cs = [.int .i64 n0,.string n1,.string n2,.int .i64 n3]:=by
    have hl_:cs.length=4:=hl
    apply List.ext_getElem?
    intro i_
    match i_ with
    | 0=>exact e0
    | 1=>exact e1
    | 2=>exact e2
    | 3=>exact e3
    |n_+4=>rw[List.getElem?_eq_none (by omega),List.getElem?_eq_none (by simp)]
  exact⟨⟨n0,n1,n2,n3⟩,k127_mk _ _,g0,g1,g2,g3⟩
set_option maxRecDepth 100000 in
theorem lifted (os:Os) (started:os.Started) (H:Type) (enc:TypeId×Value→H) :
    ReturnsInHanded {} Tryz.checked os 7 .any (Rows.fnExactRecoverSpec.pre6 enc Tryz.prog Tryz.f7 Rows.fnExactRecoverRow.domain false) (Rows.fnExactRecoverSpec.post enc Tryz.prog Tryz.f7 false true false false):=by
  refine returnsInHanded_of_change_sized (C:=Tryz.checked) own started (by kernel_rfl) Tryz.func7
    (ChangeSpec.witness6 (enc:=enc) (C:=Tryz.checked) false ⟨#[],#[.agg #[.int .i64 0,.int .i64 0,.slice none 0 0,.slice none 0 0,.slice none 0 0]],[]⟩ 8 (by kernel_rfl) (by kernel_rfl) (by kernel_rfl) (by kernel_rfl)) ?_
  intro W base args ds gs before hval0 hW hcnd hsz0 _
  have hval:∀(j:Nat) t v,Tryz.f7.params[j]? = some t→args[j]? = some v→Value.okWide Tryz.prog W .any base t v:=hval0
  have hW':=hW
  obtain⟨p,q,hA0,hV,rfl,hfz,hnd⟩:=hW
  have hA:DataW.TrodAll enc Tryz.prog W 0 (fun _=>true) true Tryz.f7.params.toList args.toList ds p:=hA0
  rw[Tryz.params7]at hA hval
  obtain⟨v0,vs0,d0,ds0,p0,q0,hargs,rfl,rfl,h0,r0⟩:=trodAll_cons hA
  obtain⟨rfl,rfl,rfl⟩:=trodAll_nil r0
  obtain rfl:args = #[v0]:=by cases args;simp_all
  obtain⟨rfl,rfl⟩:=trodVars_none hV
  have k0:=h0
  have lt0:∀x∈p0,x.block<W.heap.size:=by obtain⟨m,hm⟩:=k0;exact DataW.trod_lt m _ _ _ hm
  obtain⟨cs0,rfl,hl0,hf0⟩:=open_agg Tryz.underlying26 (by kernel_rfl) (by kernel_rfl) (hval 0 26 v0 rfl rfl) h0
  obtain⟨u0_0,y0_0,m0_0,e0_0,t0_0⟩:=hf0 0 _ rfl
  obtain⟨a0_0,rfl,w0_0⟩:=get_int Tryz.underlying3 t0_0
  obtain⟨u0_1,y0_1,m0_1,e0_1,t0_1⟩:=hf0 1 _ rfl
  obtain⟨a0_1,rfl,w0_1⟩:=get_int Tryz.underlying3 t0_1
  obtain⟨u0_2,y0_2,m0_2,e0_2,t0_2⟩:=hf0 2 _ rfl
  obtain⟨A0_2,c0_2,l0_2,rfl,hr0_2,hc0_2,hm0_2,hg0_2⟩:=open_rows k121 (fun z=>(Lit.int .i64 z.f0).wf=true∧z.f1.size≤maxLen∧(Lit.int .i64 z.f2).wf=true) Tryz.underlying22 (by kernel_rfl) read121 t0_2
  obtain⟨u0_3,y0_3,m0_3,e0_3,t0_3⟩:=hf0 3 _ rfl
  obtain⟨A0_3,c0_3,l0_3,rfl,hr0_3,hc0_3,hm0_3,hg0_3⟩:=open_rows k124 (fun z=>z.f0.size≤maxLen∧(Lit.int .i64 z.f1).wf=true) Tryz.underlying23 (by kernel_rfl) read124 t0_3
  obtain⟨u0_4,y0_4,m0_4,e0_4,t0_4⟩:=hf0 4 _ rfl
  obtain⟨A0_4,c0_4,l0_4,rfl,hr0_4,hc0_4,hm0_4,hg0_4⟩:=open_rows k127 (fun z=>(Lit.int .i64 z.f0).wf=true∧z.f1.size≤maxLen∧z.f2.size≤maxLen∧(Lit.int .i64 z.f3).wf=true) Tryz.underlying24 (by kernel_rfl) read127 t0_4
  obtain rfl:cs0 = [.int .i64 a0_0,.int .i64 a0_1,.slice A0_2 l0_2.length c0_2,.slice A0_3 l0_3.length c0_3,.slice A0_4 l0_4.length c0_4]:=by
    have hl_:cs0.length=5:=hl0
    apply List.ext_getElem?
    intro i_
    match i_ with
    | 0=>exact e0_0
    | 1=>exact e0_1
    | 2=>exact e0_2
    | 3=>exact e0_3
    | 4=>exact e0_4
    |n_+5=>rw[List.getElem?_eq_none (by omega),List.getElem?_eq_none (by simp)]
  clear hA0 hval0 hsz0 hval
  obtain⟨k,hP⟩:=Pure.FnExactRecover a0_0 a0_1 l0_2 l0_3 l0_4 w0_0 w0_1 (Nat.le_trans hc0_2 hm0_2) hg0_2 (Nat.le_trans hc0_3 hm0_3) hg0_3 (Nat.le_trans hc0_4 hm0_4) hg0_4
  refine(laws_FnExactRecover.calls k a0_0 a0_1 A0_2 c0_2 l0_2 A0_3 c0_3 l0_3 A0_4 c0_4 l0_4 true W hr0_2 hc0_2 hr0_3 hc0_3 hr0_4 hc0_4 hP rfl).mono fun e W' ⟨he,bel⟩=>?_
  subst he
  exact⟨_,rfl,_,_,_,[],_,[],hW',trodAll_mk1 (shut_bool Tryz.underlying4 _),(trodAll_cons_mk (Below.trod laidOut (by kernel_rfl) (of_decide_eq_true (by kernel_rfl)) k0 bel lt0) trodAll_mk0),rfl,bel.frame _,fun h=>by cases h⟩
theorem over:Rows.fnExactRecoverRow.holds Tryz.pinned (OpenSpec.ofChange Rows.fnExactRecoverSpec):=
  OpenClaim.holds_of_wide 7 Tryz.f7 rfl rfl rfl rfl rfl rfl rfl ⟨rfl,rfl,rfl,rfl,rfl⟩ rfl rfl rfl rfl rfl (by kernel_rfl) Tryz.func7 (by kernel_rfl)
    (of_decide_eq_true (by kernel_rfl)) (by unfold Func.isWrapper;first|(rw[if_pos (by decide +kernel)];kernel_rfl)|(rw[if_neg (by decide +kernel)];exact⟨rfl,rfl⟩))
    (fun os started H enc _=>lifted os started H enc)
theorem proved:Rows.FnExactRecoverSaid:=over
#print axioms proved
end Go.Proofs.YtndbmllnkjngnaaGreat.fnExactRecover
namespace Go.Proofs.YtndbmllnkjngnaaGreat
theorem fnExactRecover_holds:Rows.FnExactRecoverSaid:=fnExactRecover.proved
end Go.Proofs.YtndbmllnkjngnaaGreat
