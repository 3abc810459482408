/- More short names for steps that printed proofs repeat; each is a plain theorem. -/
import Derived.Test.YtndbmllnkjngnaaZop
set_option linter.unusedVariables false
namespace Go.Proofs.Ytndbmllnkjngnaa.Zip
open Go.RowKit Go.Proofs.YtndbmllnkjngnaaW.PrintWords Go.Proofs.YtndbmllnkjngnaaW.PrintLast Go.Proofs.YtndbmllnkjngnaaW.PrintMore
theorem yy {α : Type} (x : α) : ∃ y : α, y = x := ⟨x, rfl⟩
theorem obs {α β : Type} (x : α) (f : α → Option β) : (some x).bind f = f x := rfl
section
variable {P : Program} {ops : Array Oper} {rest : List Oper} {o : Oper} {a : Act} {Q : Exit → Act → World → Prop}
theorem goesW {W : World} {N : Option Tmp} {f : FuncId} {fn : Func} {as : Array Operand} {ts : Array TypeId} (hf : P.funcs[f]? = some fn) {args : Array Value}
    (h : Calls P f args W fun e w' => ∃ v, e = .returned v ∧ wpList P ops Q rest (a.put N v) w') (hd : o.dst = N := by rfl)
    (hg : o.guard = none := by rfl) (hname : (fn.name == "runtime.NumGoroutine") = false := by kernel_rfl) (hb : fn.body.isSome = true := by rfl)
    (hop : o.op = .call { callee := .value (.func f), args := as, argTypes := ts } := by rfl) (hargs : as.map a.eval = args := by go_simp; rfl) : wpList P ops Q (o :: rest) a W :=
  goesL_ N hd hg hf hname hb args hop hargs h
theorem goesY {W : World} (N : Option Tmp) (hd : o.dst = N) {f : FuncId} {fn : Func} {as : Array Operand} {ts : Array TypeId} (hf : P.funcs[f]? = some fn) {args : Array Value}
    (h : Calls P f args W fun e w' => ∃ v, e = .returned v ∧ wpList P ops Q rest (a.put N v) w')
    (hg : o.guard = none := by rfl) (hname : (fn.name == "runtime.NumGoroutine") = false := by kernel_rfl) (hb : fn.body.isSome = true := by rfl)
    (hop : o.op = .call { callee := .value (.func f), args := as, argTypes := ts } := by rfl) (hargs : as.map a.eval = args := by go_simp; rfl) : wpList P ops Q (o :: rest) a W :=
  goesL_ N hd hg hf hname hb args hop hargs h
theorem boxW {W : World} {N : Tmp} {cs : Array Value} {t : TypeId}
    (h : ∀ g, g = W.heap.size → ∀ w1, w1.heap[g]? = some (.cells cs t (0, 0)) → Below W.heap.size W w1 → wpList P ops Q rest (a.put o.dst (.pointer (some ⟨g, 0, none⟩))) w1)
    (hgd : o.guard = none := by rfl) (hd : o.dst = some N := by rfl) (hrun : (execOp a.eval o).run P W = .ok (.value (.pointer (some ⟨W.heap.size, 0, none⟩))) (W.alloc (.cells cs t (0, 0))) := by go_simp; rfl) : wpList P ops Q (o :: rest) a W :=
  box_event hgd hd hrun h
theorem goesV {N : Option Tmp} {w : World} {K : Act → World → Prop} {f : FuncId} {fn : Func} {as : Array Operand} {ts : Array TypeId} {args : Array Value} (hf : P.funcs[f]? = some fn)
    (h : Calls P f args w fun e w' => ∃ v, e = .returned v ∧ K (a.put N v) w') (hname : (fn.name == "runtime.NumGoroutine") = false := by kernel_rfl) (hb : fn.body.isSome = true := by rfl)
    (hw : Region.wanted o (yielded ops a.tmps) = true := by rfl) (hN : o.dst = N := by rfl) (hop : o.op = .call { callee := .value (.func f), args := as, argTypes := ts } := by rfl) (hargs : as.map a.eval = args := by go_simp; rfl) : if Region.wanted o (yielded ops a.tmps) = true then Oper.wp P o a w K Q else K (a.put N undef) w :=
  goes_ hf hname hb args hw hN hop hargs h
theorem boxV {W : World} {Kc : Act → World → Prop} {N : Tmp} {cs : Array Value} {t : TypeId}
    (h : ∀ g, g = W.heap.size → ∀ w1, w1.heap[g]? = some (.cells cs t (0, 0)) → Below W.heap.size W w1 → Kc (a.put o.dst (.pointer (some ⟨g, 0, none⟩))) w1)
    (hd : o.dst = some N := by rfl) (hw : Region.wanted o (yielded ops a.tmps) = true := by rfl) (hrun : (execOp a.eval o).run P W = .ok (.value (.pointer (some ⟨W.heap.size, 0, none⟩))) (W.alloc (.cells cs t (0, 0))) := by go_simp; rfl) : if Region.wanted o (yielded ops a.tmps) = true then Oper.wp P o a W Kc Q else Kc (a.put o.dst undef) W :=
  box_step hw hd hrun h
end
theorem na {w : World} {a : Addr} {v : Value} {b g : Nat} (h : w.cell? a = some v) (hg : Aside0 (w.heap.size ≤ g)) (e : b = a.block := by rfl) : b ≠ g := by rw [e]; exact Nat.ne_of_lt (Nat.lt_of_lt_of_le (bL _ _ h) hg.o)
theorem cfr1 {W : World} {a : Addr} {v : Value} {g i0 : Nat} {u0 : Value} (n : a.block ≠ g) (h : W.cell? a = some v) : (W.setCell ⟨g, i0, none⟩ u0).cell? a = some v := ((cell_far (p := ⟨g, i0, none⟩) n _).trans h)
theorem cfr2 {W : World} {a : Addr} {v : Value} {g i0 i1 : Nat} {u0 u1 : Value} (n : a.block ≠ g) (h : W.cell? a = some v) : ((W.setCell ⟨g, i0, none⟩ u0).setCell ⟨g, i1, none⟩ u1).cell? a = some v := ((cell_far (p := ⟨g, i1, none⟩) n _).trans ((cell_far (p := ⟨g, i0, none⟩) n _).trans h))
theorem cfr3 {W : World} {a : Addr} {v : Value} {g i0 i1 i2 : Nat} {u0 u1 u2 : Value} (n : a.block ≠ g) (h : W.cell? a = some v) : (((W.setCell ⟨g, i0, none⟩ u0).setCell ⟨g, i1, none⟩ u1).setCell ⟨g, i2, none⟩ u2).cell? a = some v := ((cell_far (p := ⟨g, i2, none⟩) n _).trans ((cell_far (p := ⟨g, i1, none⟩) n _).trans ((cell_far (p := ⟨g, i0, none⟩) n _).trans h)))
theorem cfr4 {W : World} {a : Addr} {v : Value} {g i0 i1 i2 i3 : Nat} {u0 u1 u2 u3 : Value} (n : a.block ≠ g) (h : W.cell? a = some v) : ((((W.setCell ⟨g, i0, none⟩ u0).setCell ⟨g, i1, none⟩ u1).setCell ⟨g, i2, none⟩ u2).setCell ⟨g, i3, none⟩ u3).cell? a = some v := ((cell_far (p := ⟨g, i3, none⟩) n _).trans ((cell_far (p := ⟨g, i2, none⟩) n _).trans ((cell_far (p := ⟨g, i1, none⟩) n _).trans ((cell_far (p := ⟨g, i0, none⟩) n _).trans h))))
theorem cfr5 {W : World} {a : Addr} {v : Value} {g i0 i1 i2 i3 i4 : Nat} {u0 u1 u2 u3 u4 : Value} (n : a.block ≠ g) (h : W.cell? a = some v) : (((((W.setCell ⟨g, i0, none⟩ u0).setCell ⟨g, i1, none⟩ u1).setCell ⟨g, i2, none⟩ u2).setCell ⟨g, i3, none⟩ u3).setCell ⟨g, i4, none⟩ u4).cell? a = some v := ((cell_far (p := ⟨g, i4, none⟩) n _).trans ((cell_far (p := ⟨g, i3, none⟩) n _).trans ((cell_far (p := ⟨g, i2, none⟩) n _).trans ((cell_far (p := ⟨g, i1, none⟩) n _).trans ((cell_far (p := ⟨g, i0, none⟩) n _).trans h)))))
theorem cfr6 {W : World} {a : Addr} {v : Value} {g i0 i1 i2 i3 i4 i5 : Nat} {u0 u1 u2 u3 u4 u5 : Value} (n : a.block ≠ g) (h : W.cell? a = some v) : ((((((W.setCell ⟨g, i0, none⟩ u0).setCell ⟨g, i1, none⟩ u1).setCell ⟨g, i2, none⟩ u2).setCell ⟨g, i3, none⟩ u3).setCell ⟨g, i4, none⟩ u4).setCell ⟨g, i5, none⟩ u5).cell? a = some v := ((cell_far (p := ⟨g, i5, none⟩) n _).trans ((cell_far (p := ⟨g, i4, none⟩) n _).trans ((cell_far (p := ⟨g, i3, none⟩) n _).trans ((cell_far (p := ⟨g, i2, none⟩) n _).trans ((cell_far (p := ⟨g, i1, none⟩) n _).trans ((cell_far (p := ⟨g, i0, none⟩) n _).trans h))))))
theorem qE (a b : Int) (s : ByteArray) : (a = 0 ∧ b = 0 ∧ s.toList = []) ∨ (a = 0 ∧ b = 0 ∧ ¬ s.toList = []) ∨ (a = 0 ∧ ¬ b = 0) ∨ ¬ a = 0 := by
  by_cases x : a = 0 <;> by_cases y : b = 0 <;> by_cases z : s.toList = [] <;> simp_all
theorem kp_ {p : Prop} (h : p := by repeat (first | (with_reducible first | exact HK.o | apply KeepBut.set_ | apply keep_drewN | apply keep_drew | apply keep_alloc | refine keep_far ?_ (Aside0.out (by assumption)) _) | exact HK.o)) : p := h
theorem gwk_ {w W : World} {g g_ : Nat} {row : Option Nat} (hg : g_ = W.heap.size) (h : KeepBut w W g row := by repeat (first | (with_reducible first | exact HK.o | apply KeepBut.set_ | apply keep_drewN | apply keep_drew | apply keep_alloc | refine keep_far ?_ (Aside0.out (by assumption)) _) | exact HK.o)) : Aside0 (w.heap.size ≤ g_) := ⟨by rw [hg]; exact keep_size h⟩
theorem gwl_ {w0 w W : World} {g g_ : Nat} {row : Option Nat} (h0 : Aside0 (w0.heap.size ≤ w.heap.size)) (hg : g_ = W.heap.size) (h : KeepBut w W g row := by repeat (first | (with_reducible first | exact HK.o | apply KeepBut.set_ | apply keep_drewN | apply keep_drew | apply keep_alloc | refine keep_far ?_ (Aside0.out (by assumption)) _) | exact HK.o)) : Aside0 (w0.heap.size ≤ g_) := ⟨Nat.le_trans h0.out (by rw [hg]; exact keep_size h)⟩
theorem kpb_ {w W w2 : World} {g : Nat} (hb : Below W.heap.size W w2) (h : KeepBut w W g none := by repeat (first | (with_reducible first | exact HK.o | apply KeepBut.set_ | apply keep_drewN | apply keep_drew | apply keep_alloc | refine keep_far ?_ (Aside0.out (by assumption)) _) | exact HK.o)) : Aside0 (KeepBut w w2 g none) := ⟨KeepBut.trans h (KeepBut.of_below hb g none) (.inl rfl)⟩
theorem kpk_ {w W w2 : World} {g : Nat} (hk : KeepBut W w2 g none) (h : KeepBut w W g none := by repeat (first | (with_reducible first | exact HK.o | apply KeepBut.set_ | apply keep_drewN | apply keep_drew | apply keep_alloc | refine keep_far ?_ (Aside0.out (by assumption)) _) | exact HK.o)) : Aside0 (KeepBut w w2 g none) := ⟨KeepBut.trans h hk (.inl rfl)⟩
theorem cell_drewN {w : World} {n : Nat} {a : Addr} {v : Value} (h : w.cell? a = some v) : (w.drewN n).cell? a = some v := h
theorem hh {p : Prop} (h : p := by repeat' (first | with_reducible refine And.intro ?_ ?_ | ((with_reducible repeat (first | refine cell_drewN ?_ | refine cell_drew ?_)); exact cb _ (by with_reducible assumption)))) : p := h
end Go.Proofs.Ytndbmllnkjngnaa.Zip
