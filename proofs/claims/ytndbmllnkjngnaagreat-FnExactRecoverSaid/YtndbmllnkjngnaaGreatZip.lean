/- Short names for steps that printed proofs repeat; each is a plain theorem. -/
import Derived.Test.YtndbmllnkjngnaaGreatWWords
set_option linter.unusedVariables false
set_option linter.unusedSimpArgs false
namespace Go.Proofs.YtndbmllnkjngnaaGreat.Zip
open Go.RowKit Go.Proofs.YtndbmllnkjngnaaGreatW.PrintWords Go.Proofs.YtndbmllnkjngnaaGreatW.PrintLast Go.Proofs.YtndbmllnkjngnaaGreatW.PrintMore
def bl_:Nat→Nat→List Bool
  | 0,_=>[]
  |n+1,m=>(m%2==1)::bl_ n (m/2)
abbrev bo (n m:Nat):Array Bool:=⟨bl_ n m⟩
theorem bl {p:Prop} (h:p:=by repeat (first|(with_reducible first|exact HB.out|apply below_alloc|apply pw_below_drewN|apply below_drew1|refine below_set ?_ (Aside0.out (by assumption)))|exact HB.out)):p:=h
theorem bs {w W w2:World} (hb:Below W.heap.size W w2) (h:Below w.heap.size w W:=by repeat (first|(with_reducible first|exact HB.out|apply below_alloc|apply pw_below_drewN|apply below_drew1|refine below_set ?_ (Aside0.out (by assumption)))|exact HB.out)):Aside0 (Below w.heap.size w w2):=⟨below_step h hb⟩
theorem gw {w W:World} {g:Nat} (hg:g=W.heap.size) (h:Below w.heap.size w W:=by repeat (first|(with_reducible first|exact HB.out|apply below_alloc|apply pw_below_drewN|apply below_drew1|refine below_set ?_ (Aside0.out (by assumption)))|exact HB.out)):Aside0 (w.heap.size≤g):=⟨by rw[hg];exact below_size h⟩
theorem bk {p:Prop} (h:p:=by(with_reducible repeat (first|refine blk_drewN ?_ _|refine blk_drew ?_|refine blk_alloc ?_ _));exact Aside0.out (by assumption)):p:=h
theorem bv {w W W1:World} {g:Nat} {o:Obj} (_:Aside0 (w.heap[g]? = some o)) (hb:Below W.heap.size W W1) (hu:W.heap[g]? = some o:=by(with_reducible repeat (first|refine blk_drewN ?_ _|refine blk_drew ?_|refine blk_alloc ?_ _));exact Aside0.out (by assumption)):Aside0 (W1.heap[g]? = some o):=⟨blk_below hu hb⟩
theorem nl {w W:World} {g g':Nat} {o:Obj} (_:Aside0 (w.heap[g]? = some o)) (hg:g'=W.heap.size) (hu:W.heap[g]? = some o:=by(with_reducible repeat (first|refine blk_drewN ?_ _|refine blk_drew ?_|refine blk_alloc ?_ _));exact Aside0.out (by assumption)):Aside0 (g≠g'):=⟨by rw[hg];exact Nat.ne_of_lt (blk_lt hu)⟩
theorem nr {w W:World} {g g':Nat} {o:Obj} (_:Aside0 (w.heap[g]? = some o)) (hg:g'=W.heap.size) (hu:W.heap[g]? = some o:=by(with_reducible repeat (first|refine blk_drewN ?_ _|refine blk_drew ?_|refine blk_alloc ?_ _));exact Aside0.out (by assumption)):Aside0 (g'≠g):=⟨by rw[hg];exact Nat.ne_of_gt (blk_lt hu)⟩
theorem bd {α β:Type} {o:Option α} {f:α→Option β} {r:β} (h:o.bind f=some r):∃t,Aside0 (o=some t)∧f t=some r:=by
  cases o with
  |none=>exact absurd h (by simp)
  |some t=>exact⟨t,⟨rfl⟩,h⟩
theorem iT {α:Type} {x y r:α} (h:(if true=true then x else y)=r):x=r:=by rw[if_pos rfl]at h;exact h
theorem iF {α:Type} {x y r:α} (h:(if false=true then x else y)=r):y=r:=by rw[if_neg (show ¬(false=true) by decide)]at h;exact h
theorem fa {p:Prop} (h:p:=by first|rfl|(simp;done)|(simp[*];done)):p:=h
theorem fe {p:Prop} (h:p:=by first|rfl|(simp[errW_none,errW_some]<;>rfl)|(simp[*,errW_none,errW_some]<;>rfl)):p:=h
theorem fd {p:Prop} (h:p:=by repeat (first|exact Drawn0.refl _|apply Drawn0.step)):p:=h
theorem am {p:Prop} (h:p:=by first|(with_reducible assumption)|assumption):p:=h
theorem pk {p:Prop} (h:p:=by first|(simp only[putAll,Act.put,List.setIfInBounds_toArray,List.set_cons_zero,List.set_cons_succ];done)|(simp only[putAll,Act.put,List.setIfInBounds_toArray,List.set_cons_zero,List.set_cons_succ];rfl)):p:=h
theorem cz {w W:World} {a:Addr} {v:Value} (h:Aside0 (Below w.heap.size w W)) (hc:w.cell? a=some v):W.cell? a=some v:=(h.out.cell (World.block_lt_of_cell? w _ hc)).trans hc
theorem cb {w:World} {g:Nat} {t:TypeId} {cs:Array Value} {v:Value} (i:Nat) (h:Aside0 (w.heap[g]? = some (.cells cs t (0,0)))) (e:cs[i]? = some v:=by rfl):w.cell? ⟨g,i,none⟩=some v:=(blk_cell h.out i).trans e
theorem cf1 {w:World} {g:Nat} {t:TypeId} {v0:Value} (h:Aside0 (w.heap[g]? = some (.cells #[v0] t (0,0)))):w.cell? ⟨g,0,none⟩=some v0∧w.frozen? ⟨g,0,none⟩=false:=⟨(blk_cell h.out 0).trans rfl,blk_frozen h.out 0⟩
theorem cf2 {w:World} {g:Nat} {t:TypeId} {v0 v1:Value} (h:Aside0 (w.heap[g]? = some (.cells #[v0,v1] t (0,0)))):w.cell? ⟨g,0,none⟩=some v0∧w.cell? ⟨g,1,none⟩=some v1∧w.frozen? ⟨g,0,none⟩=false∧w.frozen? ⟨g,1,none⟩=false:=⟨(blk_cell h.out 0).trans rfl,(blk_cell h.out 1).trans rfl,blk_frozen h.out 0,blk_frozen h.out 1⟩
theorem cf3 {w:World} {g:Nat} {t:TypeId} {v0 v1 v2:Value} (h:Aside0 (w.heap[g]? = some (.cells #[v0,v1,v2] t (0,0)))):w.cell? ⟨g,0,none⟩=some v0∧w.cell? ⟨g,1,none⟩=some v1∧w.cell? ⟨g,2,none⟩=some v2∧w.frozen? ⟨g,0,none⟩=false∧w.frozen? ⟨g,1,none⟩=false∧w.frozen? ⟨g,2,none⟩=false:=⟨(blk_cell h.out 0).trans rfl,(blk_cell h.out 1).trans rfl,(blk_cell h.out 2).trans rfl,blk_frozen h.out 0,blk_frozen h.out 1,blk_frozen h.out 2⟩
theorem cf4 {w:World} {g:Nat} {t:TypeId} {v0 v1 v2 v3:Value} (h:Aside0 (w.heap[g]? = some (.cells #[v0,v1,v2,v3] t (0,0)))):w.cell? ⟨g,0,none⟩=some v0∧w.cell? ⟨g,1,none⟩=some v1∧w.cell? ⟨g,2,none⟩=some v2∧w.cell? ⟨g,3,none⟩=some v3∧w.frozen? ⟨g,0,none⟩=false∧w.frozen? ⟨g,1,none⟩=false∧w.frozen? ⟨g,2,none⟩=false∧w.frozen? ⟨g,3,none⟩=false:=⟨(blk_cell h.out 0).trans rfl,(blk_cell h.out 1).trans rfl,(blk_cell h.out 2).trans rfl,(blk_cell h.out 3).trans rfl,blk_frozen h.out 0,blk_frozen h.out 1,blk_frozen h.out 2,blk_frozen h.out 3⟩
theorem cf5 {w:World} {g:Nat} {t:TypeId} {v0 v1 v2 v3 v4:Value} (h:Aside0 (w.heap[g]? = some (.cells #[v0,v1,v2,v3,v4] t (0,0)))):w.cell? ⟨g,0,none⟩=some v0∧w.cell? ⟨g,1,none⟩=some v1∧w.cell? ⟨g,2,none⟩=some v2∧w.cell? ⟨g,3,none⟩=some v3∧w.cell? ⟨g,4,none⟩=some v4∧w.frozen? ⟨g,0,none⟩=false∧w.frozen? ⟨g,1,none⟩=false∧w.frozen? ⟨g,2,none⟩=false∧w.frozen? ⟨g,3,none⟩=false∧w.frozen? ⟨g,4,none⟩=false:=⟨(blk_cell h.out 0).trans rfl,(blk_cell h.out 1).trans rfl,(blk_cell h.out 2).trans rfl,(blk_cell h.out 3).trans rfl,(blk_cell h.out 4).trans rfl,blk_frozen h.out 0,blk_frozen h.out 1,blk_frozen h.out 2,blk_frozen h.out 3,blk_frozen h.out 4⟩
theorem ca {α:Type} {d:Kd α} {w W:World} {A:Option Addr} {n:Nat} {xs:List α} (h:d.C w A n xs) (hu:d.C w A n xs→d.C W A n xs:=by intro h_;repeat (first|exact h_|(with_reducible refine Kd.C_alloc ?_ _)|(with_reducible refine Kd.C_drewN ?_ _)|(with_reducible refine Kd.C_drew ?_))):d.C W A n xs:=hu h
theorem cneS {W:World} {g:Nat} {A:Option Addr} {n:Nat} {xs:List ByteArray} (hg:g=W.heap.size) (h:Kd.C Kd.string W A n xs):∀ad,A=some ad→0<n→ad.block≠g:=by
  intro ad e hn e2
  obtain⟨ad',e',hc⟩:=h.2.2 hn
  rw[e]at e'
  obtain rfl:=Option.some.inj e'
  obtain⟨c,_,hk,h3⟩:=hc 0 _ (List.getElem?_eq_getElem (by have:=h.1;omega))
  have hk2:c = [Value.string _]:=hk
  have:=World.block_lt_of_cell? W _ (h3 0 _ (by rw[hk2];rfl))
  rw[add_block]at this
  omega
theorem cfarS {w:World} {A:Option Addr} {n:Nat} {xs:List ByteArray} (h:Kd.C Kd.string w A n xs) {g:Nat} (hne:∀ad,A=some ad→0<n→ad.block≠g) (i:Nat) (u:Value):Kd.C Kd.string (w.setCell ⟨g,i,none⟩ u) A n xs:=by
  refine⟨h.1,h.2.1,fun hn=>?_⟩
  obtain⟨ad,e,hc⟩:=h.2.2 hn
  refine⟨ad,e,fun j p hj=>?_⟩
  obtain⟨c,h1,h2,h3⟩:=hc j p hj
  refine⟨c,h1,h2,fun q v hq=>?_⟩
  have hb:(ad.add (j*Kd.string.sz+q)).block≠g:=by rw[add_block];exact hne ad e hn
  have e2:(w.setCell ⟨g,i,none⟩ u).cell? (ad.add (j*Kd.string.sz+q))=w.cell? (ad.add (j*Kd.string.sz+q)):=by unfold World.cell?;rw[Below.heap_setCell w ⟨g,i,none⟩ u _ hb]
  rw[e2];exact h3 q v hq
theorem bkk {p:Prop} (h:p:=by(repeat (first|(with_reducible first|exact Aside0.out (by assumption)|apply blk_drewN|apply blk_drew|apply blk_alloc)|apply blk_far (hp:=by first|exact Aside0.out (by assumption)|assumption)|apply blk_put));(all_goals first|with_reducible rfl|(simp only[List.setIfInBounds_toArray,List.set_cons_zero,List.set_cons_succ];done)|rfl)):p:=h
theorem rpR {α:Type} {d:Kd α} {e base:Nat} {ok:Nat→Prop} {v:Value} {xs:List α} {w W:World} (h:Kd.R d e w base ok v xs) (hu:Kd.R d e w base ok v xs→Kd.R d e W base ok v xs:=by intro h_;(with_reducible repeat (first|apply Kd.R_alloc|apply Kd.R_drewN|apply Kd.R_drew));exact h_):Kd.R d e W base ok v xs:=hu h
theorem rpV {α:Type} {d:Kd α} {e base:Nat} {ok:Nat→Prop} {v:Value} {xs:List α} {w W:World} (h:Kd.V d e w base ok v xs) (hu:Kd.V d e w base ok v xs→Kd.V d e W base ok v xs:=by intro h_;(with_reducible repeat (first|apply Kd.V_alloc|apply Kd.V_drewN|apply Kd.V_drew));exact h_):Kd.V d e W base ok v xs:=hu h
theorem rpQ {α:Type} {d:Kd α} {e base:Nat} {ok:Nat→Prop} {v:Value} {xs:List α} {w W:World} (h:Kd.Q d e w base ok v xs) (hu:Kd.Q d e w base ok v xs→Kd.Q d e W base ok v xs:=by intro h_;(with_reducible repeat (first|apply Kd.Q_alloc|apply Kd.Q_drewN|apply Kd.Q_drew));exact h_):Kd.Q d e W base ok v xs:=hu h
section
variable {P:Program} {ops:Array Oper} {rest:List Oper} {o:Oper} {a:Act} {Q:Exit→Act→World→Prop}
end
section
variable {P:Program} {ops:Array Oper} {md:Region.Mode} {Q:Exit→Act→World→Prop} {S:World→Prop} {ds:List Nat} {oi:Oper} {v:Value} {fuel:Nat} {l:Array Bool} {a a':Act} {w:World}
theorem pV (i N:Nat) (l':Array Bool) (h:wpAnyLast P md ops Q S ds fuel l' a' w) (hi:ops[i]? = some oi:=by rfl) (hN:oi.dst=some N:=by rfl) (hc:anyB md ops l l' i=true:=by first|exact any_of HT_.out (by kernel_rfl)|kernel_rfl)
    (hQ:∀c a w,Q (.panic c) (a.put oi.dst v) w→Q (.panic c) a w:=by exact fun _ _ _ h=>h) (hy:Yields P ops oi v a:=by refine Or.inl ⟨by rfl,?_⟩;intro w';go_simp;with_reducible rfl) (ha:a.put (some N) v=a':=by simp only[Act.put,List.setIfInBounds_toArray,List.set_cons_zero,List.set_cons_succ,i64_w,i32_w];rfl):wpAnyLast P md ops Q S ds (fuel+1) l a w:=pure_ l' hi hN hc hQ hy ha h
theorem tV (i N:Nat) (l':Array Bool) (h:wpAnyLast P md ops Q S ds fuel l' a' w) (hi:ops[i]? = some oi:=by rfl) (hN:oi.dst=some N:=by rfl) (hc:takeB md ops ds l l' i=true:=by first|exact take_ofW HT_.out HW_.out (by kernel_rfl)|kernel_rfl)
    (hQ:∀c a w,Q (.panic c) (a.put oi.dst v) w→Q (.panic c) a w:=by exact fun _ _ _ h=>h) (hy:YieldsIf P ops S oi v a:=by refine Or.inl ⟨by rfl,?_⟩;intro w' hs_;(repeat (obtain⟨hq_,hs_⟩:=hs_));go_simp;with_reducible rfl) (hS:S w:=by exact hHeld) (ha:a.put (some N) v=a':=by simp only[Act.put,List.setIfInBounds_toArray,List.set_cons_zero,List.set_cons_succ,i64_w,i32_w];rfl):wpAnyLast P md ops Q S ds (fuel+1) l a w:=take_ l' hi hN hc hQ hy hS ha h
end
end Go.Proofs.YtndbmllnkjngnaaGreat.Zip
set_option linter.unusedVariables false
set_option linter.unusedSimpArgs false
theorem Go.Proofs.YtndbmllnkjngnaaGreatW.PrintWords.Aside0.o {p:Prop} (h:Go.Proofs.YtndbmllnkjngnaaGreatW.PrintWords.Aside0 p):p:=h.out
namespace Go.Proofs.YtndbmllnkjngnaaGreat.Zip
open Go.RowKit Go.Proofs.YtndbmllnkjngnaaGreatW.PrintWords Go.Proofs.YtndbmllnkjngnaaGreatW.PrintLast Go.Proofs.YtndbmllnkjngnaaGreatW.PrintMore
section
variable {α:Type} {d:Kd α} {e base g t:Nat} {ok:Nat→Prop} {v:Value} {xs:List α} {w:World} {cells:Array Value}
theorem f0 (h:d.R e w base (fun k=>ok k∧k≠g) v xs) {i:Nat} {u:Value}:d.R e (w.setCell ⟨g,i,none⟩ u) base (fun k=>ok k∧k≠g) v xs:=Kd.R_far h (fun _ hk=>hk.2) u
theorem f1 (h:Aside0 (d.R e w base ok v xs)) (hb:Aside0 (w.heap[g]? = some (.cells cells t (0,0)))) {i0:Nat} {v0:Value} (ht:∀q,q∈e::d.E→q≠t:=by decide):d.R e (w.setCell ⟨g,i0,none⟩ v0) base ok v xs:=Kd.R_mono (f0 (Kd.R_types h.out hb.out ht)) (fun _ hk=>hk.1)
theorem f2 (h:Aside0 (d.R e w base ok v xs)) (hb:Aside0 (w.heap[g]? = some (.cells cells t (0,0)))) {i0 i1:Nat} {v0 v1:Value} (ht:∀q,q∈e::d.E→q≠t:=by decide):d.R e ((w.setCell ⟨g,i0,none⟩ v0).setCell ⟨g,i1,none⟩ v1) base ok v xs:=Kd.R_mono (f0 (f0 (Kd.R_types h.out hb.out ht))) (fun _ hk=>hk.1)
theorem f3 (h:Aside0 (d.R e w base ok v xs)) (hb:Aside0 (w.heap[g]? = some (.cells cells t (0,0)))) {i0 i1 i2:Nat} {v0 v1 v2:Value} (ht:∀q,q∈e::d.E→q≠t:=by decide):d.R e (((w.setCell ⟨g,i0,none⟩ v0).setCell ⟨g,i1,none⟩ v1).setCell ⟨g,i2,none⟩ v2) base ok v xs:=Kd.R_mono (f0 (f0 (f0 (Kd.R_types h.out hb.out ht)))) (fun _ hk=>hk.1)
theorem f4 (h:Aside0 (d.R e w base ok v xs)) (hb:Aside0 (w.heap[g]? = some (.cells cells t (0,0)))) {i0 i1 i2 i3:Nat} {v0 v1 v2 v3:Value} (ht:∀q,q∈e::d.E→q≠t:=by decide):d.R e ((((w.setCell ⟨g,i0,none⟩ v0).setCell ⟨g,i1,none⟩ v1).setCell ⟨g,i2,none⟩ v2).setCell ⟨g,i3,none⟩ v3) base ok v xs:=Kd.R_mono (f0 (f0 (f0 (f0 (Kd.R_types h.out hb.out ht))))) (fun _ hk=>hk.1)
theorem f5 (h:Aside0 (d.R e w base ok v xs)) (hb:Aside0 (w.heap[g]? = some (.cells cells t (0,0)))) {i0 i1 i2 i3 i4:Nat} {v0 v1 v2 v3 v4:Value} (ht:∀q,q∈e::d.E→q≠t:=by decide):d.R e (((((w.setCell ⟨g,i0,none⟩ v0).setCell ⟨g,i1,none⟩ v1).setCell ⟨g,i2,none⟩ v2).setCell ⟨g,i3,none⟩ v3).setCell ⟨g,i4,none⟩ v4) base ok v xs:=Kd.R_mono (f0 (f0 (f0 (f0 (f0 (Kd.R_types h.out hb.out ht)))))) (fun _ hk=>hk.1)
theorem cR {A:Option Addr} {n c:Nat} (h:d.R e w base ok (.slice A n c) xs):d.C w A xs.length xs:=(Kd.R_reads' h).2.2
theorem cl {A:Option Addr} {n c:Nat} (h:Aside0 (d.R e w base ok (.slice A n c) xs)):n≤c:=(Kd.R_reads' h.out).2.1
theorem rb {W W1:World} (h:Aside0 (d.R e w base ok v xs)) (hb:Below W.heap.size W W1) (hu:d.R e w base ok v xs→d.R e W base ok v xs:=by intro h_;(with_reducible repeat (first|apply Kd.R_alloc|apply Kd.R_drewN|apply Kd.R_drew));exact h_):Aside0 (d.R e W1 base ok v xs):=⟨Kd.R_below (hu h.out) hb⟩
theorem re {β:Type} {d':Kd β} {e':Nat} {ok':Nat→Prop} {v':Value} {ys:List β} {W W1:World} (h:d.R e w base ok v xs) (ho:d'.R e' W1 W.heap.size ok' v' ys) (hb:Below W.heap.size W W1) (hu:d.R e w base ok v xs→d.R e W base ok v xs:=by intro h_;(with_reducible repeat (first|apply Kd.R_alloc|apply Kd.R_drewN|apply Kd.R_drew));exact h_):Aside0 (d.R e W1 base (fun k=>ok k∧some k≠v'.ownBlock) v xs):=⟨Kd.R_elder' (hu h) (Kd.R_base ho) hb⟩
theorem rB {W W1:World} (h:d.R e w base ok v xs) (hb:Below W.heap.size W W1) (hu:d.R e w base ok v xs→d.R e W base ok v xs:=by intro h_;(with_reducible repeat (first|apply Kd.R_alloc|apply Kd.R_drewN|apply Kd.R_drew));exact h_):Aside0 (d.R e W1 base ok v xs):=⟨Kd.R_below (hu h) hb⟩
theorem rl {W W0 W1:World} (_:Aside0 (Below w.heap.size w W0)) (h:d.R e W1 W.heap.size ok v xs) (hb:Below w.heap.size w W:=by repeat (first|(with_reducible first|exact HB.out|apply below_alloc|apply pw_below_drewN|apply below_drew1|refine below_set ?_ (Aside0.out (by assumption)))|exact HB.out)):Aside0 (d.R e W1 w.heap.size ok v xs):=⟨Kd.R_lower h (below_size hb)⟩
theorem eB {g' t':Nat} {cells':Array Value} (h:Aside0 (d.R e w base ok v xs)) (hb:Aside0 (w.heap[g]? = some (.cells cells t (0,0)))) (hb':Aside0 (w.heap[g']? = some (.cells cells' t' (0,0)))) (ht:∀q,q∈e::d.E→q≠t:=by decide) (ht':∀q,q∈e::d.E→q≠t':=by decide):d.R e w base (fun k=>(ok k∧k≠g)∧k≠g') v xs:=Kd.R_types (Kd.R_types h.out hb.out ht) hb'.out ht'
theorem qa {g':Nat} (h:d.R e w base (fun k=>(ok k∧k≠g)∧k≠g') v xs) {i:Nat} {u:Value}:d.R e (w.setCell ⟨g,i,none⟩ u) base (fun k=>(ok k∧k≠g)∧k≠g') v xs:=Kd.R_far h (fun _ hk=>hk.1.2) u
theorem qb {g':Nat} (h:d.R e w base (fun k=>(ok k∧k≠g)∧k≠g') v xs) {i:Nat} {u:Value}:d.R e (w.setCell ⟨g',i,none⟩ u) base (fun k=>(ok k∧k≠g)∧k≠g') v xs:=Kd.R_far h (fun _ hk=>hk.2) u
theorem mB {g':Nat} (h:d.R e w base (fun k=>(ok k∧k≠g)∧k≠g') v xs):d.R e w base ok v xs:=Kd.R_mono h (fun _ hk=>hk.1.1)
theorem cB {W W0:World} {A:Option Addr} {n:Nat} (h:Aside0 (d.C w A n xs)) (hb:Aside0 (Below w.heap.size w W0)) (hu:d.C W0 A n xs→d.C W A n xs:=by intro h_;repeat (first|exact h_|(with_reducible refine Kd.C_alloc ?_ _)|(with_reducible refine Kd.C_drewN ?_ _)|(with_reducible refine Kd.C_drew ?_))):d.C W A n xs:=hu (Kd.C_below h.out hb.out)
end
theorem bS {w W0 W w2:World} (_:Aside0 (Below w.heap.size w W0)) (hb:Below W.heap.size W w2) (h:Below w.heap.size w W:=by repeat (first|(with_reducible first|exact HB.out|apply below_alloc|apply pw_below_drewN|apply below_drew1|refine below_set ?_ (Aside0.out (by assumption)))|exact HB.out)):Aside0 (Below w.heap.size w w2):=⟨below_step h hb⟩
theorem gW {w W0 W:World} {g:Nat} (_:Aside0 (Below w.heap.size w W0)) (hg:g=W.heap.size) (h:Below w.heap.size w W:=by repeat (first|(with_reducible first|exact HB.out|apply below_alloc|apply pw_below_drewN|apply below_drew1|refine below_set ?_ (Aside0.out (by assumption)))|exact HB.out)):Aside0 (w.heap.size≤g):=⟨by rw[hg];exact below_size h⟩
section
variable {P:Program} {ops:Array Oper} {md:Region.Mode} {Q:Exit→Act→World→Prop} {S:World→Prop} {ds:List Nat} {oi:Oper} {v:Value} {fuel:Nat} {l:Array Bool} {a a' b:Act} {w:World}
theorem o1 (i N:Nat) (l':Array Bool) (h:∀K:Act→World→Prop,Shut (∀a' w',S w'→(S w'→wpAnyLast P md ops Q S ds fuel l' a' w')→K a' w')→if Region.wanted oi (yielded ops a.tmps)=true then Oper.wp P oi a w K Q else K (a.put (some N) undef) w)
    (hi:ops[i]? = some oi:=by rfl) (hN:oi.dst=some N:=by rfl) (hc:readyB md ops l l' i=true:=by first|exact one_of HT_.out (by kernel_rfl)|kernel_rfl) (hd:i ∉ ds:=by decide):wpAnyLast P md ops Q S ds (fuel+1) l a w:=one_ l' hi hN hc hd h
theorem nm (N:Nat) (h:wpAnyLast P md ops Q S ds fuel l a' w) (he:a=b.put (some N) v:=by rfl) (ha:b.put (some N) v=a':=by simp only[Act.put,List.setIfInBounds_toArray,List.set_cons_zero,List.set_cons_succ,i64_w,i32_w];rfl):wpAnyLast P md ops Q S ds fuel l a w:=norm_ (he.trans ha) h
end
theorem aK {p:Prop} (h:p):Aside0 p:=⟨h⟩
theorem dT {p:Prop} [inst:Decidable p] (h:decide p=true):p:=of_decide_eq_true h
theorem dt {p:Prop} [inst:Decidable p] (h:p):decide p=true:=decide_eq_true h
theorem df {p:Prop} [inst:Decidable p] (h:¬p):decide p=false:=decide_eq_false h
theorem bL (w:World) (a:Addr) {v:Value} (h:w.cell? a=some v):a.block<w.heap.size:=World.block_lt_of_cell? w a h
theorem rs {α:Type} {d:Kd α} {e base:Nat} {ok:Nat→Prop} {v:Value} {xs:List α} {w:World} (h:Aside0 (d.R e w base ok v xs)):∃A c,v = .slice A xs.length c:=Kd.R_slice h.out
theorem rM {α:Type} {d:Kd α} {e base:Nat} {ok ok':Nat→Prop} {v:Value} {xs:List α} {w:World} (h:d.R e w base ok v xs) (hok:∀k,ok k→ok' k):d.R e w base ok' v xs:=Kd.R_mono h hok
theorem oj {α:Type} {a b:α} (h:some a=some b):a=b:=Option.some.inj h
theorem cy {w W W':World} {a:Addr} {v:Value} (h:Aside0 (Below w.heap.size w W)) (hc:w.cell? a=some v) (e:W'.cell? a=W.cell? a:=by rfl):W'.cell? a=some v:=e.trans (cz h hc)
theorem bF {b:Bool} (h:b≠true):b=false:=Bool.eq_false_iff.mpr h
theorem oB {α β:Type} {o:Option α} {f:α→Option β} {b:β} (h:o.bind f=some b):∃a,o=some a∧f a=some b:=Option.bind_eq_some_iff.mp h
theorem bE {α:Type} [BEq α] [LawfulBEq α] {a b:α} (h:a=b):(a != b)=false:=bne_eq_false_iff_eq.mpr h
theorem bN {α:Type} [BEq α] [LawfulBEq α] {a b:α} (h:a≠b):(a==b)=false:=beq_eq_false_iff_ne.mpr h
end Go.Proofs.YtndbmllnkjngnaaGreat.Zip
set_option linter.unusedVariables false
namespace Go.Proofs.YtndbmllnkjngnaaGreat.Zip
open Go.RowKit Go.Proofs.YtndbmllnkjngnaaGreatW.PrintWords Go.Proofs.YtndbmllnkjngnaaGreatW.PrintLast Go.Proofs.YtndbmllnkjngnaaGreatW.PrintMore
theorem bT {α:Type} [BEq α] [LawfulBEq α] {a b:α} (h:a=b):(a==b)=true:=beq_iff_eq.mpr h
theorem bQ {α:Type} [BEq α] [LawfulBEq α] {a b:α} (h:a≠b):(a != b)=true:=bne_iff_ne.mpr h
theorem dB {w:World} {g:Nat} {o:Obj} (h:Aside0 (w.heap[g]? = some o)):Aside0 (w.drew.heap[g]? = some o):=⟨blk_drew h.out⟩
theorem dR {α:Type} {d:Kd α} {e base:Nat} {ok:Nat→Prop} {v:Value} {xs:List α} {w:World} (h:Aside0 (d.R e w base ok v xs)):Aside0 (d.R e w.drew base ok v xs):=⟨Kd.R_drew h.out⟩
theorem dW {n:Nat} {w W:World} (h:Aside0 (Below n w W)):Aside0 (Below n w W.drew):=⟨below_drew1 h.out⟩
theorem bw {w W:World} {g:Nat} {o:Obj} (h:Aside0 (w.heap[g]? = some o)) (hu:w.heap[g]? = some o→W.heap[g]? = some o:=by intro h_;(with_reducible repeat (first|refine blk_drewN ?_ _|refine blk_drew ?_|refine blk_alloc ?_ _));exact h_):W.heap[g]? = some o:=hu h.out
theorem yy {α:Type} (x:α):∃y:α,y=x:=⟨x,rfl⟩
theorem obs {α β:Type} (x:α) (f:α→Option β):(some x).bind f=f x:=rfl
section
variable {P:Program} {ops:Array Oper} {rest:List Oper} {o:Oper} {a:Act} {Q:Exit→Act→World→Prop}
theorem goesW {W:World} {N:Option Tmp} {f:FuncId} {fn:Func} {as:Array Operand} {ts:Array TypeId} (hf:P.funcs[f]? = some fn) {args:Array Value}
    (h:Calls P f args W fun e w'=>∃v,e = .returned v∧wpList P ops Q rest (a.put N v) w') (hd:o.dst=N:=by rfl)
    (hg:o.guard=none:=by rfl) (hname:(fn.name == "runtime.NumGoroutine")=false:=by kernel_rfl) (hb:fn.body.isSome=true:=by rfl)
    (hop:o.op = .call { callee:=.value (.func f),args:=as,argTypes:=ts}:=by rfl) (hargs:as.map a.eval=args:=by go_simp;rfl):wpList P ops Q (o::rest) a W:=
  goesL_ N hd hg hf hname hb args hop hargs h
theorem goesY {W:World} (N:Option Tmp) (hd:o.dst=N) {f:FuncId} {fn:Func} {as:Array Operand} {ts:Array TypeId} (hf:P.funcs[f]? = some fn) {args:Array Value}
    (h:Calls P f args W fun e w'=>∃v,e = .returned v∧wpList P ops Q rest (a.put N v) w')
    (hg:o.guard=none:=by rfl) (hname:(fn.name == "runtime.NumGoroutine")=false:=by kernel_rfl) (hb:fn.body.isSome=true:=by rfl)
    (hop:o.op = .call { callee:=.value (.func f),args:=as,argTypes:=ts}:=by rfl) (hargs:as.map a.eval=args:=by go_simp;rfl):wpList P ops Q (o::rest) a W:=
  goesL_ N hd hg hf hname hb args hop hargs h
theorem boxW {W:World} {N:Tmp} {cs:Array Value} {t:TypeId}
    (h:∀g,g=W.heap.size→∀w1,w1.heap[g]? = some (.cells cs t (0,0))→Below W.heap.size W w1→wpList P ops Q rest (a.put o.dst (.pointer (some ⟨g,0,none⟩))) w1)
    (hgd:o.guard=none:=by rfl) (hd:o.dst=some N:=by rfl) (hrun:(execOp a.eval o).run P W = .ok (.value (.pointer (some ⟨W.heap.size,0,none⟩))) (W.alloc (.cells cs t (0,0))):=by go_simp;rfl):wpList P ops Q (o::rest) a W:=
  box_event hgd hd hrun h
theorem goesV {N:Option Tmp} {w:World} {K:Act→World→Prop} {f:FuncId} {fn:Func} {as:Array Operand} {ts:Array TypeId} {args:Array Value} (hf:P.funcs[f]? = some fn)
    (h:Calls P f args w fun e w'=>∃v,e = .returned v∧K (a.put N v) w') (hname:(fn.name == "runtime.NumGoroutine")=false:=by kernel_rfl) (hb:fn.body.isSome=true:=by rfl)
    (hw:Region.wanted o (yielded ops a.tmps)=true:=by rfl) (hN:o.dst=N:=by rfl) (hop:o.op = .call { callee:=.value (.func f),args:=as,argTypes:=ts}:=by rfl) (hargs:as.map a.eval=args:=by go_simp;rfl):if Region.wanted o (yielded ops a.tmps)=true then Oper.wp P o a w K Q else K (a.put N undef) w:=
  goes_ hf hname hb args hw hN hop hargs h
theorem boxV {W:World} {Kc:Act→World→Prop} {N:Tmp} {cs:Array Value} {t:TypeId}
    (h:∀g,g=W.heap.size→∀w1,w1.heap[g]? = some (.cells cs t (0,0))→Below W.heap.size W w1→Kc (a.put o.dst (.pointer (some ⟨g,0,none⟩))) w1)
    (hd:o.dst=some N:=by rfl) (hw:Region.wanted o (yielded ops a.tmps)=true:=by rfl) (hrun:(execOp a.eval o).run P W = .ok (.value (.pointer (some ⟨W.heap.size,0,none⟩))) (W.alloc (.cells cs t (0,0))):=by go_simp;rfl):if Region.wanted o (yielded ops a.tmps)=true then Oper.wp P o a W Kc Q else Kc (a.put o.dst undef) W:=
  box_step hw hd hrun h
end
theorem qE (a b:Int) (s:ByteArray):(a=0∧b=0∧s.toList = [])∨(a=0∧b=0∧¬s.toList = [])∨(a=0∧¬b=0)∨¬a=0:=by
  by_cases x:a=0<;>by_cases y:b=0<;>by_cases z:s.toList = []<;>simp_all
theorem cell_drewN {w:World} {n:Nat} {a:Addr} {v:Value} (h:w.cell? a=some v):(w.drewN n).cell? a=some v:=h
theorem hh {p:Prop} (h:p:=by repeat' (first|with_reducible refine And.intro ?_ ?_|((with_reducible repeat (first|refine cell_drewN ?_|refine cell_drew ?_));exact cb _ (by with_reducible assumption)))):p:=h
theorem cf9 {w:World} {g:Nat} {t:TypeId} {v0 v1 v2 v3 v4 v5 v6 v7 v8:Value} (h:Aside0 (w.heap[g]? = some (.cells #[v0,v1,v2,v3,v4,v5,v6,v7,v8] t (0,0)))):w.cell? ⟨g,0,none⟩=some v0∧w.cell? ⟨g,1,none⟩=some v1∧w.cell? ⟨g,2,none⟩=some v2∧w.cell? ⟨g,3,none⟩=some v3∧w.cell? ⟨g,4,none⟩=some v4∧w.cell? ⟨g,5,none⟩=some v5∧w.cell? ⟨g,6,none⟩=some v6∧w.cell? ⟨g,7,none⟩=some v7∧w.cell? ⟨g,8,none⟩=some v8∧w.frozen? ⟨g,0,none⟩=false∧w.frozen? ⟨g,1,none⟩=false∧w.frozen? ⟨g,2,none⟩=false∧w.frozen? ⟨g,3,none⟩=false∧w.frozen? ⟨g,4,none⟩=false∧w.frozen? ⟨g,5,none⟩=false∧w.frozen? ⟨g,6,none⟩=false∧w.frozen? ⟨g,7,none⟩=false∧w.frozen? ⟨g,8,none⟩=false:=⟨(blk_cell h.out 0).trans rfl,(blk_cell h.out 1).trans rfl,(blk_cell h.out 2).trans rfl,(blk_cell h.out 3).trans rfl,(blk_cell h.out 4).trans rfl,(blk_cell h.out 5).trans rfl,(blk_cell h.out 6).trans rfl,(blk_cell h.out 7).trans rfl,(blk_cell h.out 8).trans rfl,blk_frozen h.out 0,blk_frozen h.out 1,blk_frozen h.out 2,blk_frozen h.out 3,blk_frozen h.out 4,blk_frozen h.out 5,blk_frozen h.out 6,blk_frozen h.out 7,blk_frozen h.out 8⟩
theorem f7 {α:Type} {d:Kd α} {e base:Nat} {ok:Nat→Prop} {v:Value} {xs:List α} {w:World} {g t:Nat} {cells:Array Value} (h:Aside0 (d.R e w base ok v xs)) (hb:Aside0 (w.heap[g]? = some (.cells cells t (0,0)))) {i0 i1 i2 i3 i4 i5 i6:Nat} {v0 v1 v2 v3 v4 v5 v6:Value} (ht:∀q,q∈e::d.E→q≠t:=by decide):d.R e (((((((w.setCell ⟨g,i0,none⟩ v0).setCell ⟨g,i1,none⟩ v1).setCell ⟨g,i2,none⟩ v2).setCell ⟨g,i3,none⟩ v3).setCell ⟨g,i4,none⟩ v4).setCell ⟨g,i5,none⟩ v5).setCell ⟨g,i6,none⟩ v6) base ok v xs:=Kd.R_mono (f0 (f0 (f0 (f0 (f0 (f0 (f0 (Kd.R_types h.out hb.out ht)))))))) (fun _ hk=>hk.1)
theorem f9 {α:Type} {d:Kd α} {e base:Nat} {ok:Nat→Prop} {v:Value} {xs:List α} {w:World} {g t:Nat} {cells:Array Value} (h:Aside0 (d.R e w base ok v xs)) (hb:Aside0 (w.heap[g]? = some (.cells cells t (0,0)))) {i0 i1 i2 i3 i4 i5 i6 i7 i8:Nat} {v0 v1 v2 v3 v4 v5 v6 v7 v8:Value} (ht:∀q,q∈e::d.E→q≠t:=by decide):d.R e (((((((((w.setCell ⟨g,i0,none⟩ v0).setCell ⟨g,i1,none⟩ v1).setCell ⟨g,i2,none⟩ v2).setCell ⟨g,i3,none⟩ v3).setCell ⟨g,i4,none⟩ v4).setCell ⟨g,i5,none⟩ v5).setCell ⟨g,i6,none⟩ v6).setCell ⟨g,i7,none⟩ v7).setCell ⟨g,i8,none⟩ v8) base ok v xs:=Kd.R_mono (f0 (f0 (f0 (f0 (f0 (f0 (f0 (f0 (f0 (Kd.R_types h.out hb.out ht)))))))))) (fun _ hk=>hk.1)
theorem cfr9 {W:World} {a:Addr} {v:Value} {g i0 i1 i2 i3 i4 i5 i6 i7 i8:Nat} {u0 u1 u2 u3 u4 u5 u6 u7 u8:Value} (n:a.block≠g) (h:W.cell? a=some v):(((((((((W.setCell ⟨g,i0,none⟩ u0).setCell ⟨g,i1,none⟩ u1).setCell ⟨g,i2,none⟩ u2).setCell ⟨g,i3,none⟩ u3).setCell ⟨g,i4,none⟩ u4).setCell ⟨g,i5,none⟩ u5).setCell ⟨g,i6,none⟩ u6).setCell ⟨g,i7,none⟩ u7).setCell ⟨g,i8,none⟩ u8).cell? a=some v:=((cell_far (p:=⟨g,i8,none⟩) n _).trans ((cell_far (p:=⟨g,i7,none⟩) n _).trans ((cell_far (p:=⟨g,i6,none⟩) n _).trans ((cell_far (p:=⟨g,i5,none⟩) n _).trans ((cell_far (p:=⟨g,i4,none⟩) n _).trans ((cell_far (p:=⟨g,i3,none⟩) n _).trans ((cell_far (p:=⟨g,i2,none⟩) n _).trans ((cell_far (p:=⟨g,i1,none⟩) n _).trans ((cell_far (p:=⟨g,i0,none⟩) n _).trans h)))))))))
theorem cneT {W:World} {g:Nat} {t:TypeId} {cs:Array Value} {A:Option Addr} {n:Nat} {xs:List ByteArray} (hb:Aside0 (W.heap[g]? = some (.cells cs t (0,0)))) (hcs:∀(i:Nat) (s:ByteArray),cs[i]?≠some (Value.string s)) (h:Kd.C Kd.string W A n xs):∀ad,A=some ad→0<n→ad.block≠g:=by
  intro ad e hn e2
  obtain⟨ad',e',hc⟩:=h.2.2 hn
  rw[e]at e'
  obtain rfl:=Option.some.inj e'
  obtain⟨c,_,hk,h3⟩:=hc 0 _ (List.getElem?_eq_getElem (by have:=h.1;omega))
  have hk2:c = [Value.string _]:=hk
  have h4:=h3 0 _ (by rw[hk2];rfl)
  rw[Nat.zero_mul,Nat.zero_add]at h4
  have h5:ad.add 0=ad:=rfl
  rw[h5]at h4
  have h6:W.cell? ad=if ad.spot.isSome then none else cs[ad.off]?:=by unfold World.cell?;rw[e2,hb.out]
  rw[h6]at h4
  by_cases hs:ad.spot.isSome=true
  · rw[if_pos hs]at h4;exact absurd h4 (by simp)
  · rw[if_neg hs]at h4;exact hcs _ _ h4
theorem bvk {w W W1:World} {g:Nat} {o:Obj} (_u:Aside0 (w.heap[g]? = some o)) (hb:Below W.heap.size W W1) (h:W.heap[g]? = some o:=by exact bkk):Aside0 (W1.heap[g]? = some o):=⟨blk_below h hb⟩
theorem no {α:Type} {c:Prop} [Decidable c] {a:Option α} {r:α} {p:Prop} (h:¬c) (H:(if c then a else none)=some r):p:=by
  rw[if_neg h]at H;cases H
theorem mo {P:Program} {f:FuncId} {args:Array Value} {W:World} {v:Value} {Q:World→Prop} {R:Value→World→Prop} (c:Calls P f args W fun e w'=>e = .returned v∧Q w') (h:∀w',Q w'→R v w'):Calls P f args W fun e w'=>∃v,e = .returned v∧R v w':=c.mono fun _ w' h0=>⟨v,h0.1,h w' h0.2⟩
theorem t2 {T0 T1:Type} {a0 b0:T0} {a1 b1:T1} (H:some (a0,a1)=some (b0,b1)):a0=b0∧a1=b1:=by
  cases H;exact⟨rfl,rfl⟩
theorem t3 {T0 T1 T2:Type} {a0 b0:T0} {a1 b1:T1} {a2 b2:T2} (H:some (a0,a1,a2)=some (b0,b1,b2)):a0=b0∧a1=b1∧a2=b2:=by
  cases H;exact⟨rfl,rfl,rfl⟩
theorem t4 {T0 T1 T2 T3:Type} {a0 b0:T0} {a1 b1:T1} {a2 b2:T2} {a3 b3:T3} (H:some (a0,a1,a2,a3)=some (b0,b1,b2,b3)):a0=b0∧a1=b1∧a2=b2∧a3=b3:=by
  cases H;exact⟨rfl,rfl,rfl,rfl⟩
theorem t5 {T0 T1 T2 T3 T4:Type} {a0 b0:T0} {a1 b1:T1} {a2 b2:T2} {a3 b3:T3} {a4 b4:T4} (H:some (a0,a1,a2,a3,a4)=some (b0,b1,b2,b3,b4)):a0=b0∧a1=b1∧a2=b2∧a3=b3∧a4=b4:=by
  cases H;exact⟨rfl,rfl,rfl,rfl,rfl⟩
theorem t6 {T0 T1 T2 T3 T4 T5:Type} {a0 b0:T0} {a1 b1:T1} {a2 b2:T2} {a3 b3:T3} {a4 b4:T4} {a5 b5:T5} (H:some (a0,a1,a2,a3,a4,a5)=some (b0,b1,b2,b3,b4,b5)):a0=b0∧a1=b1∧a2=b2∧a3=b3∧a4=b4∧a5=b5:=by
  cases H;exact⟨rfl,rfl,rfl,rfl,rfl,rfl⟩
theorem t7 {T0 T1 T2 T3 T4 T5 T6:Type} {a0 b0:T0} {a1 b1:T1} {a2 b2:T2} {a3 b3:T3} {a4 b4:T4} {a5 b5:T5} {a6 b6:T6} (H:some (a0,a1,a2,a3,a4,a5,a6)=some (b0,b1,b2,b3,b4,b5,b6)):a0=b0∧a1=b1∧a2=b2∧a3=b3∧a4=b4∧a5=b5∧a6=b6:=by
  cases H;exact⟨rfl,rfl,rfl,rfl,rfl,rfl,rfl⟩
theorem t10 {T0 T1 T2 T3 T4 T5 T6 T7 T8 T9:Type} {a0 b0:T0} {a1 b1:T1} {a2 b2:T2} {a3 b3:T3} {a4 b4:T4} {a5 b5:T5} {a6 b6:T6} {a7 b7:T7} {a8 b8:T8} {a9 b9:T9} (H:some (a0,a1,a2,a3,a4,a5,a6,a7,a8,a9)=some (b0,b1,b2,b3,b4,b5,b6,b7,b8,b9)):a0=b0∧a1=b1∧a2=b2∧a3=b3∧a4=b4∧a5=b5∧a6=b6∧a7=b7∧a8=b8∧a9=b9:=by
  cases H;exact⟨rfl,rfl,rfl,rfl,rfl,rfl,rfl,rfl,rfl,rfl⟩
theorem nL {w W:World} {g g':Nat} {o:Obj} (u:Aside0 (w.heap[g]? = some o)) (hg:g'=W.heap.size) (hu:W.heap[g]? = some o:=by(with_reducible repeat (first|refine blk_drewN ?_ _|refine blk_drew ?_|refine blk_alloc ?_ _));exact Aside0.out (by assumption)):g≠g':=(nl u hg hu).out
theorem nR {w W:World} {g g':Nat} {o:Obj} (u:Aside0 (w.heap[g]? = some o)) (hg:g'=W.heap.size) (hu:W.heap[g]? = some o:=by(with_reducible repeat (first|refine blk_drewN ?_ _|refine blk_drew ?_|refine blk_alloc ?_ _));exact Aside0.out (by assumption)):g'≠g:=(nr u hg hu).out
section
variable {P:Program} {ops:Array Oper} {rest:List Oper} {o:Oper} {a:Act} {Q:Exit→Act→World→Prop}
theorem gd {W:World} (N:Tmp) (h:wpList P ops Q (o::rest) a W) (_hN:o.dst=some N:=by with_reducible rfl):wpList P ops Q (o::rest) a W:=h
theorem gc {W:World} (f:FuncId) {as:Array Operand} {ts:Array TypeId} (h:wpList P ops Q (o::rest) a W) (_ho:o.op = .call { callee:=.value (.func f),args:=as,argTypes:=ts}:=by with_reducible rfl):wpList P ops Q (o::rest) a W:=h
theorem boxQ {w W0 W:World} {N:Tmp} {cs:Array Value} {t:TypeId} (HB0:Aside0 (Below w.heap.size w W0))
    (h:∀g,g=W.heap.size→∀w1,Aside0 (w1.heap[g]? = some (.cells cs t (0,0)))→Aside0 (w.heap.size≤g)→Aside0 (Below w.heap.size w w1)→Below W.heap.size W w1→wpList P ops Q rest (a.put o.dst (.pointer (some ⟨g,0,none⟩))) w1)
    (hB:Below w.heap.size w W:=by repeat (first|(with_reducible first|exact HB.out|apply below_alloc|apply pw_below_drewN|apply below_drew1|refine below_set ?_ (Aside0.out (by assumption)))|exact HB.out))
    (hgd:o.guard=none:=by rfl) (hd:o.dst=some N:=by rfl) (hrun:(execOp a.eval o).run P W = .ok (.value (.pointer (some ⟨W.heap.size,0,none⟩))) (W.alloc (.cells cs t (0,0))):=by go_simp;rfl):wpList P ops Q (o::rest) a W:=
  box_event hgd hd hrun (fun g hg w1 hbox hb=>h g hg w1 ⟨hbox⟩ (gW HB0 hg hB) (bS HB0 hb hB) hb)
end
section
variable {P:Program} {ops:Array Oper} {md:Region.Mode} {Q:Exit→Act→World→Prop} {S:World→Prop} {ds:List Nat} {oi:Oper} {v:Value} {fuel n m N:Nat} {a a':Act} {w:World}
theorem pu (i:Nat) (h:wpAnyLast P md ops Q S ds fuel (bo n (m ||| 1 <<< i)) a' w) (hi:ops[i]? = some oi:=by rfl) (hN:oi.dst=some N:=by rfl) (hc:anyB md ops (bo n m) (bo n (m ||| 1 <<< i)) i=true:=by first|exact any_of HT_.out (by kernel_rfl)|kernel_rfl)
    (hQ:∀c a w,Q (.panic c) (a.put oi.dst undef) w→Q (.panic c) a w:=by exact fun _ _ _ h=>h) (hy:Yields P ops oi undef a:=by exact Or.inr ⟨by rfl,rfl⟩) (ha:a.put (some N) undef=a':=by simp only[Act.put,List.setIfInBounds_toArray,List.set_cons_zero,List.set_cons_succ,i64_w,i32_w];rfl):wpAnyLast P md ops Q S ds (fuel+1) (bo n m) a w:=pure_ _ hi hN hc hQ hy ha h
theorem pv (i:Nat) (h:wpAnyLast P md ops Q S ds fuel (bo n (m ||| 1 <<< i)) a' w) (hi:ops[i]? = some oi:=by rfl) (hN:oi.dst=some N:=by rfl) (hc:anyB md ops (bo n m) (bo n (m ||| 1 <<< i)) i=true:=by first|exact any_of HT_.out (by kernel_rfl)|kernel_rfl)
    (hQ:∀c a w,Q (.panic c) (a.put oi.dst v) w→Q (.panic c) a w:=by exact fun _ _ _ h=>h) (hy:Yields P ops oi v a:=by refine Or.inl ⟨by rfl,?_⟩;intro w';go_simp;with_reducible rfl) (ha:a.put (some N) v=a':=by simp only[Act.put,List.setIfInBounds_toArray,List.set_cons_zero,List.set_cons_succ,i64_w,i32_w];rfl):wpAnyLast P md ops Q S ds (fuel+1) (bo n m) a w:=pure_ _ hi hN hc hQ hy ha h
theorem tv (i:Nat) (h:wpAnyLast P md ops Q S ds fuel (bo n (m ||| 1 <<< i)) a' w) (hi:ops[i]? = some oi:=by rfl) (hN:oi.dst=some N:=by rfl) (hc:takeB md ops ds (bo n m) (bo n (m ||| 1 <<< i)) i=true:=by first|exact take_ofW HT_.out HW_.out (by kernel_rfl)|kernel_rfl)
    (hQ:∀c a w,Q (.panic c) (a.put oi.dst v) w→Q (.panic c) a w:=by exact fun _ _ _ h=>h) (hy:YieldsIf P ops S oi v a:=by refine Or.inl ⟨by rfl,?_⟩;intro w' hs_;(repeat (obtain⟨hq_,hs_⟩:=hs_));go_simp;with_reducible rfl) (hS:S w:=by exact hHeld) (ha:a.put (some N) v=a':=by simp only[Act.put,List.setIfInBounds_toArray,List.set_cons_zero,List.set_cons_succ,i64_w,i32_w];rfl):wpAnyLast P md ops Q S ds (fuel+1) (bo n m) a w:=take_ _ hi hN hc hQ hy hS ha h
theorem oo (i:Nat) (h:∀K:Act→World→Prop,Shut (∀a' w',S w'→(S w'→wpAnyLast P md ops Q S ds fuel (bo n (m ||| 1 <<< i)) a' w')→K a' w')→if Region.wanted oi (yielded ops a.tmps)=true then Oper.wp P oi a w K Q else K (a.put (some N) undef) w)
    (hi:ops[i]? = some oi:=by rfl) (hN:oi.dst=some N:=by rfl) (hc:readyB md ops (bo n m) (bo n (m ||| 1 <<< i)) i=true:=by first|exact one_of HT_.out (by kernel_rfl)|kernel_rfl) (hd:i ∉ ds:=by decide):wpAnyLast P md ops Q S ds (fuel+1) (bo n m) a w:=one_ _ hi hN hc hd h
end
end Go.Proofs.YtndbmllnkjngnaaGreat.Zip
