/- More short names for steps that printed proofs repeat; each is a plain theorem. -/
import Derived.Test.YtndbmllnkjngnaaZip
set_option linter.unusedVariables false
set_option linter.unusedSimpArgs false
theorem Go.Proofs.YtndbmllnkjngnaaW.PrintWords.Aside0.o {p : Prop} (h : Go.Proofs.YtndbmllnkjngnaaW.PrintWords.Aside0 p) : p := h.out
namespace Go.Proofs.Ytndbmllnkjngnaa.Zip
open Go.RowKit Go.Proofs.YtndbmllnkjngnaaW.PrintWords Go.Proofs.YtndbmllnkjngnaaW.PrintLast Go.Proofs.YtndbmllnkjngnaaW.PrintMore
section
variable {α : Type} {d : Kd α} {e base g t : Nat} {ok : Nat → Prop} {v : Value} {xs : List α} {w : World} {cells : Array Value}
theorem f0 (h : d.R e w base (fun k => ok k ∧ k ≠ g) v xs) {i : Nat} {u : Value} : d.R e (w.setCell ⟨g, i, none⟩ u) base (fun k => ok k ∧ k ≠ g) v xs := Kd.R_far h (fun _ hk => hk.2) u
theorem f1 (h : Aside0 (d.R e w base ok v xs)) (hb : Aside0 (w.heap[g]? = some (.cells cells t (0, 0)))) {i0 : Nat} {v0 : Value} (ht : ∀ q, q ∈ e :: d.E → q ≠ t := by decide) : d.R e (w.setCell ⟨g, i0, none⟩ v0) base ok v xs := Kd.R_mono (f0 (Kd.R_types h.out hb.out ht)) (fun _ hk => hk.1)
theorem f2 (h : Aside0 (d.R e w base ok v xs)) (hb : Aside0 (w.heap[g]? = some (.cells cells t (0, 0)))) {i0 i1 : Nat} {v0 v1 : Value} (ht : ∀ q, q ∈ e :: d.E → q ≠ t := by decide) : d.R e ((w.setCell ⟨g, i0, none⟩ v0).setCell ⟨g, i1, none⟩ v1) base ok v xs := Kd.R_mono (f0 (f0 (Kd.R_types h.out hb.out ht))) (fun _ hk => hk.1)
theorem f3 (h : Aside0 (d.R e w base ok v xs)) (hb : Aside0 (w.heap[g]? = some (.cells cells t (0, 0)))) {i0 i1 i2 : Nat} {v0 v1 v2 : Value} (ht : ∀ q, q ∈ e :: d.E → q ≠ t := by decide) : d.R e (((w.setCell ⟨g, i0, none⟩ v0).setCell ⟨g, i1, none⟩ v1).setCell ⟨g, i2, none⟩ v2) base ok v xs := Kd.R_mono (f0 (f0 (f0 (Kd.R_types h.out hb.out ht)))) (fun _ hk => hk.1)
theorem f4 (h : Aside0 (d.R e w base ok v xs)) (hb : Aside0 (w.heap[g]? = some (.cells cells t (0, 0)))) {i0 i1 i2 i3 : Nat} {v0 v1 v2 v3 : Value} (ht : ∀ q, q ∈ e :: d.E → q ≠ t := by decide) : d.R e ((((w.setCell ⟨g, i0, none⟩ v0).setCell ⟨g, i1, none⟩ v1).setCell ⟨g, i2, none⟩ v2).setCell ⟨g, i3, none⟩ v3) base ok v xs := Kd.R_mono (f0 (f0 (f0 (f0 (Kd.R_types h.out hb.out ht))))) (fun _ hk => hk.1)
theorem f5 (h : Aside0 (d.R e w base ok v xs)) (hb : Aside0 (w.heap[g]? = some (.cells cells t (0, 0)))) {i0 i1 i2 i3 i4 : Nat} {v0 v1 v2 v3 v4 : Value} (ht : ∀ q, q ∈ e :: d.E → q ≠ t := by decide) : d.R e (((((w.setCell ⟨g, i0, none⟩ v0).setCell ⟨g, i1, none⟩ v1).setCell ⟨g, i2, none⟩ v2).setCell ⟨g, i3, none⟩ v3).setCell ⟨g, i4, none⟩ v4) base ok v xs := Kd.R_mono (f0 (f0 (f0 (f0 (f0 (Kd.R_types h.out hb.out ht)))))) (fun _ hk => hk.1)
theorem cR {A : Option Addr} {n c : Nat} (h : d.R e w base ok (.slice A n c) xs) : d.C w A xs.length xs := (Kd.R_reads' h).2.2
theorem cl {A : Option Addr} {n c : Nat} (h : Aside0 (d.R e w base ok (.slice A n c) xs)) : n ≤ c := (Kd.R_reads' h.out).2.1
theorem rb {W W1 : World} (h : Aside0 (d.R e w base ok v xs)) (hb : Below W.heap.size W W1) (hu : d.R e w base ok v xs → d.R e W base ok v xs := by intro h_; (with_reducible repeat (first | apply Kd.R_alloc | apply Kd.R_drewN | apply Kd.R_drew)); exact h_) : Aside0 (d.R e W1 base ok v xs) := ⟨Kd.R_below (hu h.out) hb⟩
theorem re {β : Type} {d' : Kd β} {e' : Nat} {ok' : Nat → Prop} {v' : Value} {ys : List β} {W W1 : World} (h : d.R e w base ok v xs) (ho : d'.R e' W1 W.heap.size ok' v' ys) (hb : Below W.heap.size W W1) (hu : d.R e w base ok v xs → d.R e W base ok v xs := by intro h_; (with_reducible repeat (first | apply Kd.R_alloc | apply Kd.R_drewN | apply Kd.R_drew)); exact h_) : Aside0 (d.R e W1 base (fun k => ok k ∧ some k ≠ v'.ownBlock) v xs) := ⟨Kd.R_elder' (hu h) (Kd.R_base ho) hb⟩
theorem rB {W W1 : World} (h : d.R e w base ok v xs) (hb : Below W.heap.size W W1) (hu : d.R e w base ok v xs → d.R e W base ok v xs := by intro h_; (with_reducible repeat (first | apply Kd.R_alloc | apply Kd.R_drewN | apply Kd.R_drew)); exact h_) : Aside0 (d.R e W1 base ok v xs) := ⟨Kd.R_below (hu h) hb⟩
theorem rl {W W0 W1 : World} (_ : Aside0 (Below w.heap.size w W0)) (h : d.R e W1 W.heap.size ok v xs) (hb : Below w.heap.size w W := by repeat (first | (with_reducible first | exact HB.out | apply below_alloc | apply pw_below_drewN | apply below_drew1 | refine below_set ?_ (Aside0.out (by assumption))) | exact HB.out)) : Aside0 (d.R e W1 w.heap.size ok v xs) := ⟨Kd.R_lower h (below_size hb)⟩
theorem eB {g' t' : Nat} {cells' : Array Value} (h : Aside0 (d.R e w base ok v xs)) (hb : Aside0 (w.heap[g]? = some (.cells cells t (0, 0)))) (hb' : Aside0 (w.heap[g']? = some (.cells cells' t' (0, 0)))) (ht : ∀ q, q ∈ e :: d.E → q ≠ t := by decide) (ht' : ∀ q, q ∈ e :: d.E → q ≠ t' := by decide) : d.R e w base (fun k => (ok k ∧ k ≠ g) ∧ k ≠ g') v xs := Kd.R_types (Kd.R_types h.out hb.out ht) hb'.out ht'
theorem qa {g' : Nat} (h : d.R e w base (fun k => (ok k ∧ k ≠ g) ∧ k ≠ g') v xs) {i : Nat} {u : Value} : d.R e (w.setCell ⟨g, i, none⟩ u) base (fun k => (ok k ∧ k ≠ g) ∧ k ≠ g') v xs := Kd.R_far h (fun _ hk => hk.1.2) u
theorem qb {g' : Nat} (h : d.R e w base (fun k => (ok k ∧ k ≠ g) ∧ k ≠ g') v xs) {i : Nat} {u : Value} : d.R e (w.setCell ⟨g', i, none⟩ u) base (fun k => (ok k ∧ k ≠ g) ∧ k ≠ g') v xs := Kd.R_far h (fun _ hk => hk.2) u
theorem mB {g' : Nat} (h : d.R e w base (fun k => (ok k ∧ k ≠ g) ∧ k ≠ g') v xs) : d.R e w base ok v xs := Kd.R_mono h (fun _ hk => hk.1.1)
theorem cB {W W0 : World} {A : Option Addr} {n : Nat} (h : Aside0 (d.C w A n xs)) (hb : Aside0 (Below w.heap.size w W0)) (hu : d.C W0 A n xs → d.C W A n xs := by intro h_; repeat (first | exact h_ | (with_reducible refine Kd.C_alloc ?_ _) | (with_reducible refine Kd.C_drewN ?_ _) | (with_reducible refine Kd.C_drew ?_))) : d.C W A n xs := hu (Kd.C_below h.out hb.out)
end
theorem bS {w W0 W w2 : World} (_ : Aside0 (Below w.heap.size w W0)) (hb : Below W.heap.size W w2) (h : Below w.heap.size w W := by repeat (first | (with_reducible first | exact HB.out | apply below_alloc | apply pw_below_drewN | apply below_drew1 | refine below_set ?_ (Aside0.out (by assumption))) | exact HB.out)) : Aside0 (Below w.heap.size w w2) := ⟨below_step h hb⟩
theorem gW {w W0 W : World} {g : Nat} (_ : Aside0 (Below w.heap.size w W0)) (hg : g = W.heap.size) (h : Below w.heap.size w W := by repeat (first | (with_reducible first | exact HB.out | apply below_alloc | apply pw_below_drewN | apply below_drew1 | refine below_set ?_ (Aside0.out (by assumption))) | exact HB.out)) : Aside0 (w.heap.size ≤ g) := ⟨by rw [hg]; exact below_size h⟩
section
variable {P : Program} {ops : Array Oper} {md : Region.Mode} {Q : Exit → Act → World → Prop} {S : World → Prop} {ds : List Nat} {oi : Oper} {v : Value} {fuel : Nat} {l : Array Bool} {a a' b : Act} {w : World}
theorem o1 (i N : Nat) (l' : Array Bool) (h : ∀ K : Act → World → Prop, Shut (∀ a' w', S w' → (S w' → wpAnyLast P md ops Q S ds fuel l' a' w') → K a' w') → if Region.wanted oi (yielded ops a.tmps) = true then Oper.wp P oi a w K Q else K (a.put (some N) undef) w)
    (hi : ops[i]? = some oi := by rfl) (hN : oi.dst = some N := by rfl) (hc : readyB md ops l l' i = true := by first | exact one_of HT_.out (by kernel_rfl) | kernel_rfl) (hd : i ∉ ds := by decide) : wpAnyLast P md ops Q S ds (fuel + 1) l a w := one_ l' hi hN hc hd h
theorem nm (N : Nat) (h : wpAnyLast P md ops Q S ds fuel l a' w) (he : a = b.put (some N) v := by rfl) (ha : b.put (some N) v = a' := by simp only [Act.put, List.setIfInBounds_toArray, List.set_cons_zero, List.set_cons_succ, i64_w, i32_w]; rfl) : wpAnyLast P md ops Q S ds fuel l a w := norm_ (he.trans ha) h
end
theorem aK {p : Prop} (h : p) : Aside0 p := ⟨h⟩
theorem dT {p : Prop} [inst : Decidable p] (h : decide p = true) : p := of_decide_eq_true h
theorem dt {p : Prop} [inst : Decidable p] (h : p) : decide p = true := decide_eq_true h
theorem df {p : Prop} [inst : Decidable p] (h : ¬ p) : decide p = false := decide_eq_false h
theorem bL (w : World) (a : Addr) {v : Value} (h : w.cell? a = some v) : a.block < w.heap.size := World.block_lt_of_cell? w a h
theorem rs {α : Type} {d : Kd α} {e base : Nat} {ok : Nat → Prop} {v : Value} {xs : List α} {w : World} (h : Aside0 (d.R e w base ok v xs)) : ∃ A c, v = .slice A xs.length c := Kd.R_slice h.out
theorem rM {α : Type} {d : Kd α} {e base : Nat} {ok ok' : Nat → Prop} {v : Value} {xs : List α} {w : World} (h : d.R e w base ok v xs) (hok : ∀ k, ok k → ok' k) : d.R e w base ok' v xs := Kd.R_mono h hok
theorem oj {α : Type} {a b : α} (h : some a = some b) : a = b := Option.some.inj h
theorem cy {w W W' : World} {a : Addr} {v : Value} (h : Aside0 (Below w.heap.size w W)) (hc : w.cell? a = some v) (e : W'.cell? a = W.cell? a := by rfl) : W'.cell? a = some v := e.trans (cz h hc)
theorem bF {b : Bool} (h : b ≠ true) : b = false := Bool.eq_false_iff.mpr h
theorem oB {α β : Type} {o : Option α} {f : α → Option β} {b : β} (h : o.bind f = some b) : ∃ a, o = some a ∧ f a = some b := Option.bind_eq_some_iff.mp h
theorem bE {α : Type} [BEq α] [LawfulBEq α] {a b : α} (h : a = b) : (a != b) = false := bne_eq_false_iff_eq.mpr h
theorem bN {α : Type} [BEq α] [LawfulBEq α] {a b : α} (h : a ≠ b) : (a == b) = false := beq_eq_false_iff_ne.mpr h
end Go.Proofs.Ytndbmllnkjngnaa.Zip
