-- PRINTED by print.py (a twelfth state) out of the translation. Not trusted: Lean checks it.
import Derived.Test.YtflegbpgkkiijaaPFnExactReplayx0
import Derived.Test.YtflegbpgkkiijaaPFnExactReplayx9
import Derived.Test.YtflegbpgkkiijaaPFnExactReplayx10
import Derived.Test.YtflegbpgkkiijaaZip
namespace Go.Proofs.Ytflegbpgkkiijaa.PFnExactReplay
open Go.RowKit Go.Proofs.YtflegbpgkkiijaaW.PrintWords Go.Proofs.YtflegbpgkkiijaaW.PrintLast Go.Proofs.YtflegbpgkkiijaaW.PrintMore Go.Proofs.Ytflegbpgkkiijaa.Zip
attribute [local go_sem] max2_int min2_int max_two min_two max_three min_three max_four min_four   -- for this text's walks alone
set_option linter.unusedVariables false
set_option linter.unusedSimpArgs false

/-! ### impl_Frames: function 12 -/
def impl_Frames.l0 : Nat → ByteArray → List ByteArray → Int → Option (List ByteArray × Int)
 | 0, _, _, _ => none
 | k + 1, x0, x4, x5 => if 0 ≤ x5 then (if x5 ≤ (x0.size : Int) then ((impl_Unframe.f k (x0.extract (x5 : Int).toNat x0.size)).bind fun bt247 => (if bt247.2.2 = 0 then (if x4.length < 8796093022208 then (impl_Frames.l0 k x0 (x4 ++ [bt247.1]) (wrap64 (x5 + bt247.2.1))) else (none)) else (some (x4, x5)))) else (none)) else (none)
def impl_Frames.f (k : Nat) (a0 : ByteArray) : Option (List ByteArray × Int) := impl_Frames.l0 k a0 (([] : List ByteArray)) 0
theorem impl_Frames.mono_l : ∀ k, (∀ y0 y1 y2, LeO (impl_Frames.l0 k y0 y1 y2) (impl_Frames.l0 (k + 1) y0 y1 y2))
 | 0 => fun _ _ _ r h => by simp [impl_Frames.l0] at h
 | k + 1 => by
  have ih0 := impl_Frames.mono_l k
  ·intro y0 y1 y2
   unfold impl_Frames.l0
   repeat' first
   | (with_reducible exact ih0 _ _ _)
   | (with_reducible exact impl_Unframe.mono _ _)
   | (with_reducible exact LeO.refl _)
   | (with_reducible exact LeO.none _)
   | (with_reducible refine LeO.ite ?_ ?_)
   | (with_reducible refine LeO.bind ?_ (fun _ => ?_))
   | exact ih0 _ _ _
   | exact impl_Unframe.mono _ _
   | exact LeO.none _
   | refine LeO.ite ?_ ?_
   | refine LeO.bind ?_ (fun _ => ?_)
theorem impl_Frames.mono : ∀ a0 k, LeO (impl_Frames.f k a0) (impl_Frames.f (k + 1) a0) := by
 intro a0 k
 have ih0 := impl_Frames.mono_l k
 unfold impl_Frames.f
 repeat' first
  | (with_reducible exact ih0 _ _ _)
  | (with_reducible exact impl_Unframe.mono _ _)
  | (with_reducible exact LeO.refl _)
  | (with_reducible exact LeO.none _)
  | (with_reducible refine LeO.ite ?_ ?_)
  | (with_reducible refine LeO.bind ?_ (fun _ => ?_))
  | exact ih0 _ _ _
  | exact impl_Unframe.mono _ _
  | exact LeO.none _
  | refine LeO.ite ?_ ?_
  | refine LeO.bind ?_ (fun _ => ?_)
set_option maxHeartbeats 8000000 in
set_option maxRecDepth 100000 in
theorem impl_Frames.calls (k : Nat) (a0 : ByteArray) (r1 : List ByteArray) (r2 : Int) (w : World) (h : impl_Frames.f k a0 = some (r1, r2)) :
 Calls Try.prog 12 #[.string a0] w fun e w' => ∃ v0_ : Value, e = .returned (.tuple #[v0_, .int .i64 r2]) ∧ Kd.R Kd.string 9 w' w.heap.size (fun _ => True) v0_ r1 ∧ Below w.heap.size w w' := by
 have HB := Aside0.mk (Below.refl w.heap.size w)
 have H : (impl_Frames.l0 k a0 (([] : List ByteArray)) 0) = some (r1, r2) := h
 clear h
 obtain ⟨y244, hy244⟩ : ∃ y_ : List ByteArray, y_ = (([] : List ByteArray)) := ⟨_, rfl⟩
 replace H : (impl_Frames.l0 k a0 y244 0) = some (r1, r2) := by first | (rw [hy244]; with_reducible exact H) | (have H2_ := (Option.bind_some _ _).symm.trans H; rw [hy244]; with_reducible exact H2_) | (have H2_ := (Option.bind_some _ _).symm.trans H; with_reducible exact H2_) | with_reducible exact H | (rw [hy244]; exact H) | exact H
 have Ny244 := Aside0.mk hy244
 clear hy244
 have H' := Aside0.mk H
 clear H
 go_enter Try.func12, Try.ntmps12
 go_wp2_with (first | ((with_reducible refine gD 9 rfl ?_); refine Kd.R_lit Kd.string _ 9 ?hg (N := 9) ?hd (xs := ([] : List ByteArray)) (inner := []) (ok := fun _ => True) (okp := fun _ => True) ?hr ?hp (fun _ hk => hk) trivial (Below.refl _ _) (Nat.le_refl _) (by simp) ?_; (case hd => rfl); (case hg => rfl); (case hr => first | (go_simp; done) | (go_simp; rfl)); (case hp => exact (Reps.none _ _)); intro v245 w2 ho3 hb hg_ hnew_; clear hg_ hnew_; (first | rw [← Ny244.out] at ho3 | (simp only [Int.reduceToNat] at ho3; rw [← Ny244.out] at ho3)); have HO246 := Aside0.mk (Kd.R_lower ho3 (below_size bl)); replace HB := bs (w := w) hb; clear hb ho3))
 go_loopg [4, 5] k (fun kq v4 v5 w' => ∃ (x4_1 : List ByteArray) (x5_1 : Int), v5 = .int .i64 x5_1 ∧ Aside0 (impl_Frames.l0 kq a0 x4_1 x5_1 = some (r1, r2)) ∧ Aside0 (kq ≤ k) ∧ Aside0 (Kd.R Kd.string 9 w' w.heap.size (fun _ => True) v4 x4_1) ∧ Aside0 (Below w.heap.size w w'))
 case atStart => exact ⟨(y244), (0), fa, H', ⟨Nat.le_refl _⟩, ⟨rpR HO246.out⟩, ⟨bl⟩⟩
 case round =>
  clear H'
  try clear c1
  try clear p2
  obtain ⟨x4_1, x5_1, rfl, HA, HK1, HO_4, HB⟩ := hrel
  cases gk with
  | zero => exact absurd HA.out (by simp [impl_Frames.l0])
  | succ k1 =>
   have H := HA.out
   clear HA
   simp only [impl_Frames.l0] at H
   by_cases c4 : 0 ≤ x5_1
   ·rw [if_pos c4] at H
    have c4b0 := eq_true c4
    have c4b1 : decide (0 ≤ x5_1) = true := decide_eq_true c4
    clear c4
    by_cases c5 : x5_1 ≤ (a0.size : Int)
    ·rw [if_pos c5] at H
     have c5b0 := eq_true c5
     have c5b1 : decide (x5_1 ≤ (a0.size : Int)) = true := decide_eq_true c5
     clear c5
     replace H := Option.bind_eq_some_iff.mp H
     obtain ⟨⟨t247, t248, t249⟩, A60, H⟩ := H
     replace H : (if t249 = 0 then (if x4_1.length < 8796093022208 then (impl_Frames.l0 k1 a0 (x4_1 ++ [t247]) (wrap64 (x5_1 + t248))) else (none)) else (some (x4_1, x5_1))) = some (r1, r2) := H
     have A6 := Aside0.mk A60
     clear A60
     by_cases c7 : t249 = 0
     ·rw [if_pos c7] at H
      have c7b0 : (t249 == 0) = true := beq_iff_eq.mpr c7
      have c7b1 : (t249 != 0) = false := bne_eq_false_iff_eq.mpr c7
      clear c7
      by_cases c8 : x4_1.length < 8796093022208
      ·rw [if_pos c8] at H
       have LMc8 := Aside0.mk c8
       clear c8
       obtain ⟨y250, hy250⟩ : ∃ y_ : List ByteArray, y_ = (x4_1 ++ [t247]) := ⟨_, rfl⟩
       replace H : (impl_Frames.l0 k1 a0 y250 (wrap64 (x5_1 + t248))) = some (r1, r2) := by first | (rw [hy250]; with_reducible exact H) | (have H2_ := (Option.bind_some _ _).symm.trans H; rw [hy250]; with_reducible exact H2_) | (have H2_ := (Option.bind_some _ _).symm.trans H; with_reducible exact H2_) | with_reducible exact H | (rw [hy250]; exact H) | exact H
       have Ny250 := Aside0.mk hy250
       clear hy250
       have H' := Aside0.mk H
       clear H
       go_wp2_with (first | ((with_reducible refine gC 25 rfl ?_); refine goesZ (some 14) rfl Try.func25 #[.string (a0.extract (x5_1 : Int).toNat a0.size)] ?_; (with_reducible refine (impl_Unframe.calls k1 (a0.extract (x5_1 : Int).toNat a0.size) t247 t248 t249 _ A6.out).mono ?_); rintro e w9 ⟨rfl, hb⟩; refine ⟨_, rfl, ?_⟩; replace HO_4 := Aside0.mk (Kd.R_below (rpR HO_4.out) hb); replace HB := bs (w := w) hb; (try clear hb)) | ((with_reducible refine gate_builtin (b := .append) (xs := #[.tmp 22, .tmp 24]) rfl ?_); at_builtin; refine Kd.R_append Kd.string (w0 := w) w.heap.size rfl (.tmp 22) (.tmp 24) 30 9 (.string ⟨#[]⟩) 16 rfl Try.underlying30 info9 rfl (by decide) (by omega) u4 x4_1 t247 [.string t247] (fun _ => True) (fun _ => False) rfl rfl ?aP (fun _ hk => hk.elim) ?aF ?aO ?aB ?aS ?aL ?_; (case aP => exact rfl); (case aB => exact bl); (case aF => exact (fun _ _ => trivial)); (case aO => exact (rpR HO_4.out)); (case aS => exact (below_size bl)); (case aL => have := LMc8.out; omega); intro v251 w10 ho hb hg hat; rw [← Ny250.out] at ho; replace HB := Aside0.mk (hb); have HO252 := Aside0.mk (ho); clear HO_4; clear ho hb hg hat))
       go_roundg k1
       case measure => have := HK1.out; omega
       case rel => exact ⟨(y250), (wrap64 (x5_1 + t248)), fa, H', ⟨by have := HK1.out; omega⟩, ⟨rpR HO252.out⟩, ⟨bl⟩⟩
      ·rw [if_neg c8] at H
       exact absurd H (by simp)
     ·rw [if_neg c7] at H
      have c7b0 : (t249 == 0) = false := beq_eq_false_iff_ne.mpr c7
      have c7b1 : (t249 != 0) = true := bne_iff_ne.mpr c7
      simp only [Option.some.injEq, Prod.mk.injEq] at H
      obtain ⟨rfl, rfl⟩ := H
      go_wp2_with (first | ((with_reducible refine gC 25 rfl ?_); refine goesZ (some 14) rfl Try.func25 #[.string (a0.extract (x5_1 : Int).toNat a0.size)] ?_; (with_reducible refine (impl_Unframe.calls k1 (a0.extract (x5_1 : Int).toNat a0.size) t247 t248 t249 _ A6.out).mono ?_); rintro e w11 ⟨rfl, hb⟩; refine ⟨_, rfl, ?_⟩; replace HO_4 := Aside0.mk (Kd.R_below (rpR HO_4.out) hb); replace HB := bs (w := w) hb; (try clear hb)))
      go_ret2
      exact ⟨_, fe, rpR HO_4.out, bl⟩
    ·rw [if_neg c5] at H
     exact absurd H (by simp)
   ·rw [if_neg c4] at H
    exact absurd H (by simp)

/-- A state of type 54 at block g of W; what its slices lead to came in by w0. -/
def IsS54 (w0 W : World) (g : Nat) (f0 : ByteArray) (f1 : Bool) : Prop := W.heap[g]? = some (.cells #[.string f0, .bool f1] 54 (0, 0)) ∧ w0.heap.size ≤ g
theorem IsS54.grown {w0 W : World} {g : Nat} {f0 : ByteArray} {f1 : Bool} {W1 : World} {row : Option Nat} (h : IsS54 w0 W g f0 f1) (hw : W.grownBy W1 row) (hne : some g ≠ row) : IsS54 w0 W1 g f0 f1 := by
 obtain ⟨hb, hg⟩ := h
 exact ⟨blk_grown hb hw hne, hg⟩
theorem IsS54.own_neN {w0 W : World} {g : Nat} {f0 : ByteArray} {f1 : Bool} {α : Type} {d : Kd α} {e : Nat} {base : Nat} {ok : Nat → Prop} {v : Value} {xs : List α} (h : IsS54 w0 W g f0 f1) (ho : Kd.N d e W base ok v xs) (ht : e ≠ 54) : some g ≠ v.ownBlock := by
 obtain ⟨hb, hg⟩ := h
 exact Kd.N_ne ho hb ht
theorem IsS54.fresh {w0 W : World} {g : Nat} {f0 : ByteArray} {f1 : Bool} (h : IsS54 w0 W g f0 f1) : ∀ k, W.heap.size ≤ k → k ≠ g := by
 obtain ⟨hb, hg⟩ := h
 exact Kd.freshB hb
theorem IsS54.kept {w0 W : World} {g : Nat} {f0 : ByteArray} {f1 : Bool} {W1 : World} {S : Nat → Prop} (h : IsS54 w0 W g f0 f1) (hk : Kept W W1 S) (hne : ¬ S g) : IsS54 w0 W1 g f0 f1 := by
 obtain ⟨hb, hg⟩ := h
 exact ⟨blk_kept hb hk hne, hg⟩
theorem IsS54.below {w0 W : World} {g : Nat} {f0 : ByteArray} {f1 : Bool} {W1 : World} (h : IsS54 w0 W g f0 f1) (hw : Below W.heap.size W W1) : IsS54 w0 W1 g f0 f1 := h.grown (grown_of_below hw none) (by simp)
theorem IsS54.alloc {w0 W : World} {g : Nat} {f0 : ByteArray} {f1 : Bool} (h : IsS54 w0 W g f0 f1) (o : Obj) : IsS54 w0 (W.alloc o) g f0 f1 := h.below (below_alloc (Below.refl _ _) o)
theorem IsS54.drewN {w0 W : World} {g : Nat} {f0 : ByteArray} {f1 : Bool} (h : IsS54 w0 W g f0 f1) (m : Nat) : IsS54 w0 (W.drewN m) g f0 f1 := h
theorem IsS54.drew {w0 W : World} {g : Nat} {f0 : ByteArray} {f1 : Bool} (h : IsS54 w0 W g f0 f1) : IsS54 w0 W.drew g f0 f1 := h
theorem IsS54.at_ {w0 W : World} {g : Nat} {f0 : ByteArray} {f1 : Bool} {w' : World} {m : Nat} (hq : W.drewN m = w') (h : IsS54 w0 W g f0 f1) : IsS54 w0 w' g f0 f1 := by subst hq; exact IsS54.drewN h m
theorem IsS54.apart {w0 W : World} {g : Nat} {f0 : ByteArray} {f1 : Bool} {α : Type} {d : Kd α} {e : Nat} {base : Nat} {ok : Nat → Prop} {v : Value} {xs : List α} (h : IsS54 w0 W g f0 f1) (ho : d.R e W base ok v xs) (ht : ∀ q, q ∈ e :: d.E → q ≠ 54) : d.R e W base (fun k => ok k ∧ k ≠ g) v xs := by
 obtain ⟨hb, hg⟩ := h
 exact Kd.R_types ho hb ht
theorem IsS54.own_ne {w0 W : World} {g : Nat} {f0 : ByteArray} {f1 : Bool} {α : Type} {d : Kd α} {e : Nat} {base : Nat} {ok : Nat → Prop} {v : Value} {xs : List α} (h : IsS54 w0 W g f0 f1) (ho : d.R e W base ok v xs) (ht : e ≠ 54) : some g ≠ v.ownBlock := by
 obtain ⟨hb, hg⟩ := h
 exact Kd.R_ne ho hb ht
theorem IsS54.apartQ {w0 W : World} {g : Nat} {f0 : ByteArray} {f1 : Bool} {α : Type} {d : Kd α} {e : Nat} {base : Nat} {ok : Nat → Prop} {v : Value} {xs : List α} (h : IsS54 w0 W g f0 f1) (ho : d.Q e W base ok v xs) (ht : ∀ q, q ∈ e :: d.E → q ≠ 54) : d.Q e W base (fun k => ok k ∧ k ≠ g) v xs := by
 obtain ⟨hb, hg⟩ := h
 exact Kd.Q_types ho hb ht
theorem IsS54.own_neQ {w0 W : World} {g : Nat} {f0 : ByteArray} {f1 : Bool} {α : Type} {d : Kd α} {e : Nat} {base : Nat} {ok : Nat → Prop} {v : Value} {xs : List α} (h : IsS54 w0 W g f0 f1) (ho : d.Q e W base ok v xs) (ht : e ≠ 54) : some g ≠ v.ownBlock := by
 obtain ⟨hb, hg⟩ := h
 exact Kd.Q_ne ho hb ht
theorem IsS54.apartS {w0 W : World} {g : Nat} {f0 : ByteArray} {f1 : Bool} {α : Type} {d : Kd α} {e : Nat} {base : Nat} {ok : Nat → Prop} {v : Value} {xs : List α} (h : IsS54 w0 W g f0 f1) (ho : d.S e W base ok v xs) (ht : ∀ q, q ∈ e :: d.E → q ≠ 54) : d.S e W base (fun k => ok k ∧ k ≠ g) v xs := by
 obtain ⟨hb, hg⟩ := h
 exact Kd.S_types ho hb ht
theorem IsS54.own_neS {w0 W : World} {g : Nat} {f0 : ByteArray} {f1 : Bool} {α : Type} {d : Kd α} {e : Nat} {base : Nat} {ok : Nat → Prop} {v : Value} {xs : List α} (h : IsS54 w0 W g f0 f1) (ho : d.S e W base ok v xs) (ht : e ≠ 54) : some g ≠ v.ownBlock := by
 obtain ⟨hb, hg⟩ := h
 exact Kd.S_ne ho hb ht
theorem IsS54.lt {w0 W : World} {g : Nat} {f0 : ByteArray} {f1 : Bool} (h : IsS54 w0 W g f0 f1) : g < W.heap.size := by
 obtain ⟨hb, hg⟩ := h
 exact blk_lt hb
theorem IsS54.ge {w0 W : World} {g : Nat} {f0 : ByteArray} {f1 : Bool} (h : IsS54 w0 W g f0 f1) : w0.heap.size ≤ g := by
 obtain ⟨hb, hg⟩ := h
 exact hg
theorem IsS54.ne_blk {w0 W : World} {g : Nat} {f0 : ByteArray} {f1 : Bool} {a : Nat} {cs : Array Value} {t : TypeId} {fr : Nat × Nat} (h : IsS54 w0 W g f0 f1) (hb2 : W.heap[a]? = some (.cells cs t fr)) (ht : t ≠ 54) : g ≠ a := by
 obtain ⟨hb, hg⟩ := h
 rintro rfl
 rw [hb] at hb2
 injection hb2 with hb2
 injection hb2 with _ ht2
 exact ht ht2.symm
theorem IsS54.far {w0 W : World} {g : Nat} {f0 : ByteArray} {f1 : Bool} {p : Addr} (h : IsS54 w0 W g f0 f1) (hne : g ≠ p.block) (u : Value) : IsS54 w0 (W.setCell p u) g f0 f1 := by
 obtain ⟨hb, hg⟩ := h
 exact ⟨blk_far hb hne u, hg⟩
theorem cellS54_0 {W : World} {g : Nat} {f0 : ByteArray} {f1 : Bool} (h : W.heap[g]? = some (.cells #[.string f0, .bool f1] 54 (0, 0))) : W.cell? ⟨g, 0, none⟩ = some (.string f0) := (blk_cell h 0).trans rfl
theorem IsS54.set_0 {w0 W : World} {g : Nat} {f0 : ByteArray} {f1 : Bool} (h : IsS54 w0 W g f0 f1) (x : ByteArray) : IsS54 w0 (W.setCell ⟨g, 0, none⟩ (.string x)) g x f1 := by
 obtain ⟨hb, hg⟩ := h
 exact ⟨by simpa using blk_set hb 0 (.string x), hg⟩
theorem cellS54_1 {W : World} {g : Nat} {f0 : ByteArray} {f1 : Bool} (h : W.heap[g]? = some (.cells #[.string f0, .bool f1] 54 (0, 0))) : W.cell? ⟨g, 1, none⟩ = some (.bool f1) := (blk_cell h 1).trans rfl
theorem IsS54.set_1 {w0 W : World} {g : Nat} {f0 : ByteArray} {f1 : Bool} (h : IsS54 w0 W g f0 f1) (x : Bool) : IsS54 w0 (W.setCell ⟨g, 1, none⟩ (.bool x)) g f0 x := by
 obtain ⟨hb, hg⟩ := h
 exact ⟨by simpa using blk_set hb 1 (.bool x), hg⟩
theorem IsS54.new (w0 W : World) (f0 : ByteArray) (f1 : Bool) (hB : Below w0.heap.size w0 W) : IsS54 w0 (W.alloc (.cells #[.string f0, .bool f1] 54)) W.heap.size f0 f1 := ⟨by simpa using heap_alloc_new W _, hB.size⟩

/-! ### impl_reader_bytes: function 45 -/
def impl_reader_bytes.f (s0_0 : ByteArray) (s0_1 : Bool) (a1 : Int) : Option (ByteArray × ByteArray × Bool) := if s0_1 = true then (if a1 > (s0_0.size : Int) then (some ((⟨#[]⟩ : ByteArray), s0_0, false)) else (if 0 ≤ a1 then (if a1 ≤ (s0_0.size : Int) then (some (s0_0.extract 0 (a1 : Int).toNat, s0_0.extract (a1 : Int).toNat s0_0.size, s0_1)) else (none)) else (none))) else (some ((⟨#[]⟩ : ByteArray), s0_0, false))
set_option maxHeartbeats 8000000 in
set_option maxRecDepth 100000 in
theorem impl_reader_bytes.calls (g : Nat) (s0_0 : ByteArray) (s0_1 : Bool) (a1 : Int) (r1 : ByteArray) (r2 : ByteArray) (r3 : Bool) (w0 w : World) (hI : IsS54 w0 w g s0_0 s0_1) (hB : Below w0.heap.size w0 w) (h : impl_reader_bytes.f s0_0 s0_1 a1 = some (r1, r2, r3)) :
 Calls Try.prog 45 #[.pointer (some ⟨g, 0, none⟩), .int .i64 a1] w fun e w' => e = .returned (.string r1) ∧ IsS54 w0 w' g r2 r3 ∧ Below w0.heap.size w0 w' ∧ KeepBut w w' g none := by
 have HI0 := Aside0.mk hI
 have HK := Aside0.mk (KeepBut.refl w g none)
 have HL := Aside0.mk hB.size
 clear hI
 have HW0 := Aside0.mk hB.size
 have HB := Aside0.mk hB
 clear hB
 have H : (if s0_1 = true then (if a1 > (s0_0.size : Int) then (some ((⟨#[]⟩ : ByteArray), s0_0, false)) else (if 0 ≤ a1 then (if a1 ≤ (s0_0.size : Int) then (some (s0_0.extract 0 (a1 : Int).toNat, s0_0.extract (a1 : Int).toNat s0_0.size, s0_1)) else (none)) else (none))) else (some ((⟨#[]⟩ : ByteArray), s0_0, false))) = some (r1, r2, r3) := h
 clear h
 by_cases c3 : s0_1 = true
 ·subst c3
  replace H := iT H
  by_cases c4 : a1 > (s0_0.size : Int)
  ·rw [if_pos c4] at H
   have c4b0 : decide ((s0_0.size : Int) < a1) = true := decide_eq_true c4
   clear c4
   simp only [Option.some.injEq, Prod.mk.injEq] at H
   obtain ⟨rfl, rfl, rfl⟩ := H
   obtain ⟨HGz5, hgz5⟩ := HI0.out
   have Z5_0 := cellS54_0 HGz5; have Z5_1 := cellS54_1 HGz5; have Y5_0 := blk_frozen HGz5 0; have Y5_1 := blk_frozen HGz5 1
   clear HGz5 hgz5
   go_enter Try.func45, Try.ntmps45
   go_wp2
   go_ret
   exact ⟨fe, by repeat (first | (with_reducible first | exact HI0.out | apply IsS54.alloc | apply IsS54.drewN | apply IsS54.drew | apply IsS54.set_0 | apply IsS54.set_1) | exact HI0.out), by repeat (first | (with_reducible first | exact HB.out | apply below_alloc | apply pw_below_drewN | apply below_drew1 | refine below_set ?_ (IsS54.ge HI0.out)) | exact HB.out), by repeat (first | (with_reducible first | exact HK.out | apply KeepBut.set_ | apply keep_drewN | apply keep_drew | apply keep_alloc) | exact HK.out)⟩
  ·rw [if_neg c4] at H
   have c4b0 : decide ((s0_0.size : Int) < a1) = false := decide_eq_false c4
   clear c4
   by_cases c6 : 0 ≤ a1
   ·rw [if_pos c6] at H
    have c6b0 := eq_true c6
    have c6b1 : decide (0 ≤ a1) = true := decide_eq_true c6
    clear c6
    by_cases c7 : a1 ≤ (s0_0.size : Int)
    ·rw [if_pos c7] at H
     have c7b0 := eq_true c7
     have c7b1 : decide (a1 ≤ (s0_0.size : Int)) = true := decide_eq_true c7
     clear c7
     have c8b0 := eq_true (of_decide_eq_true am : 0 ≤ a1)
     have c9b0 := eq_true (of_decide_eq_true am : a1 ≤ (s0_0.size : Int))
     simp only [Option.some.injEq, Prod.mk.injEq] at H
     obtain ⟨rfl, rfl, rfl⟩ := H
     obtain ⟨HGz10, hgz10⟩ := HI0.out
     have Z10_0 := cellS54_0 HGz10; have Z10_1 := cellS54_1 HGz10; have Y10_0 := blk_frozen HGz10 0; have Y10_1 := blk_frozen HGz10 1
     clear HGz10 hgz10
     go_enter Try.func45, Try.ntmps45
     go_wp2
     go_ret
     exact ⟨fe, by repeat (first | (with_reducible first | exact HI0.out | apply IsS54.alloc | apply IsS54.drewN | apply IsS54.drew | apply IsS54.set_0 | apply IsS54.set_1) | exact HI0.out), by repeat (first | (with_reducible first | exact HB.out | apply below_alloc | apply pw_below_drewN | apply below_drew1 | refine below_set ?_ (IsS54.ge HI0.out)) | exact HB.out), by repeat (first | (with_reducible first | exact HK.out | apply KeepBut.set_ | apply keep_drewN | apply keep_drew | apply keep_alloc) | exact HK.out)⟩
    ·rw [if_neg c7] at H
     exact absurd H (by simp)
   ·rw [if_neg c6] at H
    exact absurd H (by simp)
 ·replace c3 := Bool.eq_false_iff.mpr c3
  subst c3
  replace H := iF H
  simp only [Option.some.injEq, Prod.mk.injEq] at H
  obtain ⟨rfl, rfl, rfl⟩ := H
  obtain ⟨HGz11, hgz11⟩ := HI0.out
  have Z11_0 := cellS54_0 HGz11; have Z11_1 := cellS54_1 HGz11; have Y11_0 := blk_frozen HGz11 0; have Y11_1 := blk_frozen HGz11 1
  clear HGz11 hgz11
  go_enter Try.func45, Try.ntmps45
  go_wp2
  go_ret
  exact ⟨fe, by repeat (first | (with_reducible first | exact HI0.out | apply IsS54.alloc | apply IsS54.drewN | apply IsS54.drew | apply IsS54.set_0 | apply IsS54.set_1) | exact HI0.out), by repeat (first | (with_reducible first | exact HB.out | apply below_alloc | apply pw_below_drewN | apply below_drew1 | refine below_set ?_ (IsS54.ge HI0.out)) | exact HB.out), by repeat (first | (with_reducible first | exact HK.out | apply KeepBut.set_ | apply keep_drewN | apply keep_drew | apply keep_alloc) | exact HK.out)⟩

/-! ### impl_reader_kind: function 26 -/
def impl_reader_kind.f (s0_0 : ByteArray) (s0_1 : Bool) : Option (Int × ByteArray × Bool) := (impl_reader_bytes.f s0_0 s0_1 1).bind fun bt253 => (if bt253.1.toList = ([] : List UInt8) then (some (0, bt253.2.1, bt253.2.2)) else (if 0 < (bt253.1.size : Int) then (some (wrap64 (bt bt253.1 0), bt253.2.1, bt253.2.2)) else (none)))
set_option maxHeartbeats 8000000 in
set_option maxRecDepth 100000 in
theorem impl_reader_kind.calls (g : Nat) (s0_0 : ByteArray) (s0_1 : Bool) (r1 : Int) (r2 : ByteArray) (r3 : Bool) (w0 w : World) (hI : IsS54 w0 w g s0_0 s0_1) (hB : Below w0.heap.size w0 w) (h : impl_reader_kind.f s0_0 s0_1 = some (r1, r2, r3)) :
 Calls Try.prog 26 #[.pointer (some ⟨g, 0, none⟩)] w fun e w' => e = .returned (.int .i64 r1) ∧ IsS54 w0 w' g r2 r3 ∧ Below w0.heap.size w0 w' ∧ KeepBut w w' g none := by
 have HI0 := Aside0.mk hI
 have HK := Aside0.mk (KeepBut.refl w g none)
 have HL := Aside0.mk hB.size
 clear hI
 have HW0 := Aside0.mk hB.size
 have HB := Aside0.mk hB
 clear hB
 have H : ((impl_reader_bytes.f s0_0 s0_1 1).bind fun bt253 => (if bt253.1.toList = ([] : List UInt8) then (some (0, bt253.2.1, bt253.2.2)) else (if 0 < (bt253.1.size : Int) then (some (wrap64 (bt bt253.1 0), bt253.2.1, bt253.2.2)) else (none)))) = some (r1, r2, r3) := h
 clear h
 replace H := Option.bind_eq_some_iff.mp H
 obtain ⟨⟨t253, t254, t255⟩, A20, H⟩ := H
 replace H : (if t253.toList = ([] : List UInt8) then (some (0, t254, t255)) else (if 0 < (t253.size : Int) then (some (wrap64 (bt t253 0), t254, t255)) else (none))) = some (r1, r2, r3) := H
 have A2 := Aside0.mk A20
 clear A20
 by_cases c3 : t253.toList = ([] : List UInt8)
 ·rw [if_pos c3] at H
  have c3b0 : (t253.toList == ([] : List UInt8)) = true := beq_iff_eq.mpr c3
  have c3bE := c3b0; simp only [show ∀ l_ : List UInt8, (l_ == []) = l_.isEmpty from fun l_ => by cases l_ <;> rfl] at c3bE
  have c3b1 : (t253.toList != ([] : List UInt8)) = false := bne_eq_false_iff_eq.mpr c3
  clear c3
  simp only [Option.some.injEq, Prod.mk.injEq] at H
  obtain ⟨rfl, rfl, rfl⟩ := H
  go_enter Try.func26, Try.ntmps26
  go_wp2_with (first | ((with_reducible refine gC 45 rfl ?_); refine goesZ (some 5) rfl Try.func45 #[.pointer (some ⟨g, 0, none⟩), .int .i64 1] ?_; (with_reducible refine (impl_reader_bytes.calls g s0_0 s0_1 1 t253 t254 t255 w0 _ ?side1 ?side2 A2.out).mono ?_); (case side1 => repeat (first | (with_reducible first | exact HI0.out | apply IsS54.alloc | apply IsS54.drewN | apply IsS54.drew | apply IsS54.set_0 | apply IsS54.set_1) | exact HI0.out)); (case side2 => repeat (first | (with_reducible first | exact HB.out | apply below_alloc | apply pw_below_drewN | apply below_drew1 | refine below_set ?_ (IsS54.ge HI0.out)) | exact HB.out)); rintro e w4 ⟨rfl, hi, hb, hk⟩; refine ⟨_, rfl, ?_⟩; replace HK := Aside0.mk (KeepBut.trans (by repeat (first | (with_reducible first | exact HK.out | apply KeepBut.set_ | apply keep_drewN | apply keep_drew | apply keep_alloc) | exact HK.out)) hk (.inl rfl)); replace HB := Aside0.mk (hb); replace HI0 := Aside0.mk (hi); (try clear hb hk hi)))
  go_ret
  exact ⟨fe, by repeat (first | (with_reducible first | exact HI0.out | apply IsS54.alloc | apply IsS54.drewN | apply IsS54.drew | apply IsS54.set_0 | apply IsS54.set_1) | exact HI0.out), by repeat (first | (with_reducible first | exact HB.out | apply below_alloc | apply pw_below_drewN | apply below_drew1 | refine below_set ?_ (IsS54.ge HI0.out)) | exact HB.out), by repeat (first | (with_reducible first | exact HK.out | apply KeepBut.set_ | apply keep_drewN | apply keep_drew | apply keep_alloc) | exact HK.out)⟩
 ·rw [if_neg c3] at H
  have c3b0 : (t253.toList == ([] : List UInt8)) = false := beq_eq_false_iff_ne.mpr c3
  have c3bE := c3b0; simp only [show ∀ l_ : List UInt8, (l_ == []) = l_.isEmpty from fun l_ => by cases l_ <;> rfl] at c3bE
  have c3b1 : (t253.toList != ([] : List UInt8)) = true := bne_iff_ne.mpr c3
  by_cases c5 : 0 < (t253.size : Int)
  ·rw [if_pos c5] at H
   have c5b0 : decide (0 < (t253.size : Int)) = true := decide_eq_true c5
   have c5b1 : decide (0 < t253.size) = true := decide_eq_true (by omega)
   clear c5
   simp only [Option.some.injEq, Prod.mk.injEq] at H
   obtain ⟨rfl, rfl, rfl⟩ := H
   go_enter Try.func26, Try.ntmps26
   go_wp2_with (first | ((with_reducible refine gC 45 rfl ?_); refine goesZ (some 5) rfl Try.func45 #[.pointer (some ⟨g, 0, none⟩), .int .i64 1] ?_; (with_reducible refine (impl_reader_bytes.calls g s0_0 s0_1 1 t253 t254 t255 w0 _ ?side1 ?side2 A2.out).mono ?_); (case side1 => repeat (first | (with_reducible first | exact HI0.out | apply IsS54.alloc | apply IsS54.drewN | apply IsS54.drew | apply IsS54.set_0 | apply IsS54.set_1) | exact HI0.out)); (case side2 => repeat (first | (with_reducible first | exact HB.out | apply below_alloc | apply pw_below_drewN | apply below_drew1 | refine below_set ?_ (IsS54.ge HI0.out)) | exact HB.out)); rintro e w7 ⟨rfl, hi, hb, hk⟩; refine ⟨_, rfl, ?_⟩; replace HK := Aside0.mk (KeepBut.trans (by repeat (first | (with_reducible first | exact HK.out | apply KeepBut.set_ | apply keep_drewN | apply keep_drew | apply keep_alloc) | exact HK.out)) hk (.inl rfl)); replace HB := Aside0.mk (hb); replace HI0 := Aside0.mk (hi); (try clear hb hk hi); have p6 : 0 ≤ (0 : Int) := (by omega); have q6 : 0 < t253.size := (by have : (0 : Int) < (t253.size : Int) := of_decide_eq_true am; omega); have hx6 : ∀ h : 0 < t253.size, ((t253[0]'h).toNat : Int) = bt t253 0 := bt_at t253 0; clear p6; have qi6 : (0 < (t253.size : Int)) = True := eq_true (of_decide_eq_true am); replace q6 := eq_true q6))
   go_ret
   exact ⟨fe, by repeat (first | (with_reducible first | exact HI0.out | apply IsS54.alloc | apply IsS54.drewN | apply IsS54.drew | apply IsS54.set_0 | apply IsS54.set_1) | exact HI0.out), by repeat (first | (with_reducible first | exact HB.out | apply below_alloc | apply pw_below_drewN | apply below_drew1 | refine below_set ?_ (IsS54.ge HI0.out)) | exact HB.out), by repeat (first | (with_reducible first | exact HK.out | apply KeepBut.set_ | apply keep_drewN | apply keep_drew | apply keep_alloc) | exact HK.out)⟩
  ·rw [if_neg c5] at H
   exact absurd H (by simp)

/-! ### impl_ReadVar: function 46 -/
mutual
def impl_ReadVar.l0 : Nat → ByteArray → Int → Int → Option (Int × Int)
 | 0, _, _, _ => none
 | k + 1, x0, x4, x5 => if x5 < 7 then (impl_ReadVar.j1 k x0 x4 x5 (decide (x5 < (x0.size : Int)))) else (impl_ReadVar.j1 k x0 x4 x5 false)
def impl_ReadVar.j1 : Nat → ByteArray → Int → Int → Bool → Option (Int × Int)
 | 0, _, _, _, _ => none
 | k + 1, x0, x4, x5, x13 => if x13 = true then (if 0 ≤ x5 then (if x5 < (x0.size : Int) then (if 0 ≤ (wrap64 (7 * x5)) then (if (bt x0 x5) ≥ 128 then (impl_ReadVar.l0 k x0 (wrap64 (x4 + (shl .i64 (wrap64 (Int.tmod (bt x0 x5) 128)) (wrap64 (7 * x5))))) (wrap64 (x5 + 1))) else (if (bt x0 x5) = 0 then (if x5 > 0 then (some (0, 0)) else (some (wrap64 (x4 + (shl .i64 (wrap64 (Int.tmod (bt x0 x5) 128)) (wrap64 (7 * x5)))), wrap64 (x5 + 1)))) else (some (wrap64 (x4 + (shl .i64 (wrap64 (Int.tmod (bt x0 x5) 128)) (wrap64 (7 * x5)))), wrap64 (x5 + 1))))) else (none)) else (none)) else (none)) else (some (0, 0))
end
def impl_ReadVar.f (k : Nat) (a0 : ByteArray) : Option (Int × Int) := impl_ReadVar.l0 k a0 0 0
theorem impl_ReadVar.mono_l : ∀ k, (∀ y0 y1 y2, LeO (impl_ReadVar.l0 k y0 y1 y2) (impl_ReadVar.l0 (k + 1) y0 y1 y2)) ∧ (∀ y0 y1 y2 y3, LeO (impl_ReadVar.j1 k y0 y1 y2 y3) (impl_ReadVar.j1 (k + 1) y0 y1 y2 y3))
 | 0 => ⟨fun _ _ _ r h => by simp [impl_ReadVar.l0] at h, fun _ _ _ _ r h => by simp [impl_ReadVar.j1] at h⟩
 | k + 1 => by
  obtain ⟨ih0, ih1⟩ := impl_ReadVar.mono_l k
  refine ⟨?_, ?_⟩
  ·intro y0 y1 y2
   unfold impl_ReadVar.l0
   repeat' first
   | (with_reducible exact ih0 _ _ _)
   | (with_reducible exact ih1 _ _ _ _)
   | (with_reducible exact LeO.refl _)
   | (with_reducible exact LeO.none _)
   | (with_reducible refine LeO.ite ?_ ?_)
   | (with_reducible refine LeO.bind ?_ (fun _ => ?_))
   | exact ih0 _ _ _
   | exact ih1 _ _ _ _
   | exact LeO.none _
   | refine LeO.ite ?_ ?_
   | refine LeO.bind ?_ (fun _ => ?_)
  ·intro y0 y1 y2 y3
   unfold impl_ReadVar.j1
   repeat' first
   | (with_reducible exact ih0 _ _ _)
   | (with_reducible exact ih1 _ _ _ _)
   | (with_reducible exact LeO.refl _)
   | (with_reducible exact LeO.none _)
   | (with_reducible refine LeO.ite ?_ ?_)
   | (with_reducible refine LeO.bind ?_ (fun _ => ?_))
   | exact ih0 _ _ _
   | exact ih1 _ _ _ _
   | exact LeO.none _
   | refine LeO.ite ?_ ?_
   | refine LeO.bind ?_ (fun _ => ?_)
theorem impl_ReadVar.mono : ∀ a0 k, LeO (impl_ReadVar.f k a0) (impl_ReadVar.f (k + 1) a0) := by
 intro a0 k
 obtain ⟨ih0, ih1⟩ := impl_ReadVar.mono_l k
 unfold impl_ReadVar.f
 repeat' first
  | (with_reducible exact ih0 _ _ _)
  | (with_reducible exact ih1 _ _ _ _)
  | (with_reducible exact LeO.refl _)
  | (with_reducible exact LeO.none _)
  | (with_reducible refine LeO.ite ?_ ?_)
  | (with_reducible refine LeO.bind ?_ (fun _ => ?_))
  | exact ih0 _ _ _
  | exact ih1 _ _ _ _
  | exact LeO.none _
  | refine LeO.ite ?_ ?_
  | refine LeO.bind ?_ (fun _ => ?_)
set_option maxHeartbeats 8000000 in
set_option maxRecDepth 100000 in
theorem impl_ReadVar.calls (k : Nat) (a0 : ByteArray) (r1 : Int) (r2 : Int) (w : World) (h : impl_ReadVar.f k a0 = some (r1, r2)) :
 Calls Try.prog 46 #[.string a0] w fun e w' => e = .returned (.tuple #[.int .i64 r1, .int .i64 r2]) ∧ Drawn0 w w' := by
 have H : (impl_ReadVar.l0 k a0 0 0) = some (r1, r2) := h
 clear h
 have H' := Aside0.mk H
 clear H
 go_enter Try.func46, Try.ntmps46
 go_wp2
 go_loopg [4, 5] k (fun kq v4 v5 w' => ∃ (x4_1 : Int) (x5_1 : Int), v4 = .int .i64 x4_1 ∧ v5 = .int .i64 x5_1 ∧ Aside0 (impl_ReadVar.l0 kq a0 x4_1 x5_1 = some (r1, r2)) ∧ Aside0 (kq ≤ k) ∧ Drawn0 w w')
 case atStart => exact ⟨(0), (0), fa, fa, H', ⟨Nat.le_refl _⟩, fd⟩
 case round =>
  clear H'
  obtain ⟨x4_1, x5_1, rfl, rfl, HA, HK1, ⟨m1, rfl⟩⟩ := hrel
  cases gk with
  | zero => exact absurd HA.out (by simp [impl_ReadVar.l0])
  | succ k1 =>
   have H := HA.out
   clear HA
   simp only [impl_ReadVar.l0] at H
   have HC2 := Aside0.mk H
   clear H
   go_upto_region 3 with (fail)
   go_cut [13] (fun v13 wc => ∃ (kq : Nat) (x13_1 : Bool), v13 = .bool x13_1 ∧ Aside0 (impl_ReadVar.j1 kq a0 x4_1 x5_1 x13_1 = some (r1, r2)) ∧ Aside0 (kq ≤ k1) ∧ Drawn0 w wc)
   case first =>
    have H := HC2.out
    clear HC2
    by_cases c3 : x5_1 < 7
    ·rw [if_pos c3] at H
     have c3b0 : decide (x5_1 < 7) = true := decide_eq_true c3
     clear c3
     (first | rw [c3b0] | (simp only [i64_w, i32_w]; rw [c3b0]) | skip)
     have H' := Aside0.mk H
     clear H
     go_wp2
     go_meet
     case rel => exact ⟨_, (decide (x5_1 < (a0.size : Int))), fa, H', ⟨by have := HK1.out; first | omega | exact Nat.le_refl _⟩, fd⟩
    ·rw [if_neg c3] at H
     have c3b0 : decide (x5_1 < 7) = false := decide_eq_false c3
     clear c3
     (first | rw [c3b0] | (simp only [i64_w, i32_w]; rw [c3b0]) | skip)
     have H' := Aside0.mk H
     clear H
     go_wp2
     go_meet
     case rel => exact ⟨_, (false), fa, H', ⟨by have := HK1.out; first | omega | exact Nat.le_refl _⟩, fd⟩
   case rest =>
    clear HC2
    try clear p2
    try clear c3
    try clear c3b0
    obtain ⟨kq, x13_1, rfl, HA, HJ1, ⟨mc1, rfl⟩⟩ := hcut
    cases kq with
    | zero => exact absurd HA.out (by simp [impl_ReadVar.j1])
    | succ kj1 =>
     have H := HA.out
     clear HA
     simp only [impl_ReadVar.j1] at H
     by_cases c4 : x13_1 = true
     ·subst c4
      replace H := iT H
      by_cases c5 : 0 ≤ x5_1
      ·rw [if_pos c5] at H
       have c5b0 : decide (0 ≤ x5_1) = true := decide_eq_true c5
       clear c5
       by_cases c6 : x5_1 < (a0.size : Int)
       ·rw [if_pos c6] at H
        have c6b0 : decide (x5_1 < (a0.size : Int)) = true := decide_eq_true c6
        clear c6
        obtain ⟨ji8, hji8⟩ : ∃ j_ : Int, (wrap64 (7 * x5_1)) = j_ := ⟨_, rfl⟩
        replace H : (if 0 ≤ (ji8) then (if (bt a0 x5_1) ≥ 128 then (impl_ReadVar.l0 kj1 a0 (wrap64 (x4_1 + (shl .i64 (wrap64 (Int.tmod (bt a0 x5_1) 128)) (ji8)))) (wrap64 (x5_1 + 1))) else (if (bt a0 x5_1) = 0 then (if x5_1 > 0 then (some (0, 0)) else (some (wrap64 (x4_1 + (shl .i64 (wrap64 (Int.tmod (bt a0 x5_1) 128)) (ji8))), wrap64 (x5_1 + 1)))) else (some (wrap64 (x4_1 + (shl .i64 (wrap64 (Int.tmod (bt a0 x5_1) 128)) (ji8))), wrap64 (x5_1 + 1))))) else (none)) = some (r1, r2) := by first | (rw [hji8] at H; exact H) | (simp only [hji8] at H ⊢; exact H)
        have hji8w : (IntKind.i64.wrap (7 * x5_1)) = ji8 := (i64_w _).trans hji8
        by_cases c9 : 0 ≤ (ji8)
        ·rw [if_pos c9] at H
         have c9b0 := eq_true c9
         have c9b1 : decide (0 ≤ (ji8)) = true := decide_eq_true c9
         clear c9
         obtain ⟨ji10, hji10⟩ : ∃ j_ : Int, (shl .i64 (wrap64 (Int.tmod (bt a0 x5_1) 128)) (ji8)) = j_ := ⟨_, rfl⟩
         replace H : (if (bt a0 x5_1) ≥ 128 then (impl_ReadVar.l0 kj1 a0 (wrap64 (x4_1 + (ji10))) (wrap64 (x5_1 + 1))) else (if (bt a0 x5_1) = 0 then (if x5_1 > 0 then (some (0, 0)) else (some (wrap64 (x4_1 + (ji10)), wrap64 (x5_1 + 1)))) else (some (wrap64 (x4_1 + (ji10)), wrap64 (x5_1 + 1))))) = some (r1, r2) := by first | (rw [hji10] at H; exact H) | (simp only [hji10] at H ⊢; exact H)
         have hji10_ : (IntKind.i64.wrap ((wrap64 (Int.tmod (bt a0 x5_1) 128)) * 2 ^ min (ji8).toNat 64)) = ji10 := hji10
         have hji10z : (ji8) ≤ 64 → (IntKind.i64.wrap ((wrap64 (Int.tmod (bt a0 x5_1) 128)) * 2 ^ (ji8).toNat)) = ji10 := shl_small hji10
         have hji10y : (wrap64 ((wrap64 (Int.tmod (bt a0 x5_1) 128)) * 2 ^ min (ji8).toNat 64)) = ji10 := (i64_w _).symm.trans hji10_
         have hji10x : (ji8) ≤ 64 → (wrap64 ((wrap64 (Int.tmod (bt a0 x5_1) 128)) * 2 ^ (ji8).toNat)) = ji10 := fun h_ => (i64_w _).symm.trans (hji10z h_)
         by_cases c12 : (bt a0 x5_1) ≥ 128
         ·rw [if_pos c12] at H
          have c12b0 : decide (128 ≤ (bt a0 x5_1)) = true := decide_eq_true c12
          clear c12
          have H' := Aside0.mk H
          clear H
          have p7 : 0 ≤ (x5_1 : Int) := of_decide_eq_true am
          have q7 : x5_1 < (a0.size : Int) := of_decide_eq_true am
          have hx7 := bt_at a0 x5_1
          replace p7 := eq_true p7
          replace q7 := eq_true q7
          have p11 : 0 ≤ (x5_1 : Int) := of_decide_eq_true am
          have q11 : x5_1 < (a0.size : Int) := of_decide_eq_true am
          have hx11 := bt_at a0 x5_1
          replace p11 := eq_true p11
          replace q11 := eq_true q11
          go_wp2
          go_roundg kj1
          case measure => have := HK1.out; have := HJ1.out; omega
          case rel => exact ⟨(wrap64 (x4_1 + (ji10))), (wrap64 (x5_1 + 1)), (by first | rfl | (simp; done) | (simp only [← hji10] <;> (first | rfl | simp)) | (simp [*]; done)), fa, H', ⟨by have := HK1.out; have := HJ1.out; omega⟩, fd⟩
         ·rw [if_neg c12] at H
          have c12b0 : decide (128 ≤ (bt a0 x5_1)) = false := decide_eq_false c12
          clear c12
          by_cases c14 : (bt a0 x5_1) = 0
          ·rw [if_pos c14] at H
           have c14b0 : ((bt a0 x5_1) == 0) = true := beq_iff_eq.mpr c14
           have c14b1 : ((bt a0 x5_1) != 0) = false := bne_eq_false_iff_eq.mpr c14
           clear c14
           by_cases c15 : x5_1 > 0
           ·rw [if_pos c15] at H
            have c15b0 : decide (0 < x5_1) = true := decide_eq_true c15
            clear c15
            simp only [Option.some.injEq, Prod.mk.injEq] at H
            obtain ⟨rfl, rfl⟩ := H
            have p7 : 0 ≤ (x5_1 : Int) := of_decide_eq_true am
            have q7 : x5_1 < (a0.size : Int) := of_decide_eq_true am
            have hx7 := bt_at a0 x5_1
            replace p7 := eq_true p7
            replace q7 := eq_true q7
            have p11 : 0 ≤ (x5_1 : Int) := of_decide_eq_true am
            have q11 : x5_1 < (a0.size : Int) := of_decide_eq_true am
            have hx11 := bt_at a0 x5_1
            replace p11 := eq_true p11
            replace q11 := eq_true q11
            have p13 : 0 ≤ (x5_1 : Int) := of_decide_eq_true am
            have q13 : x5_1 < (a0.size : Int) := of_decide_eq_true am
            have hx13 := bt_at a0 x5_1
            replace p13 := eq_true p13
            replace q13 := eq_true q13
            go_wp2
            go_ret2
            exact ⟨by first | rfl | (simp; done) | (simp only [← hji8, ← hji10] <;> (first | rfl | simp)) | (simp [*]; done), fd⟩
           ·rw [if_neg c15] at H
            have c15b0 : decide (0 < x5_1) = false := decide_eq_false c15
            clear c15
            simp only [Option.some.injEq, Prod.mk.injEq] at H
            obtain ⟨rfl, rfl⟩ := H
            have p7 : 0 ≤ (x5_1 : Int) := of_decide_eq_true am
            have q7 : x5_1 < (a0.size : Int) := of_decide_eq_true am
            have hx7 := bt_at a0 x5_1
            replace p7 := eq_true p7
            replace q7 := eq_true q7
            have p11 : 0 ≤ (x5_1 : Int) := of_decide_eq_true am
            have q11 : x5_1 < (a0.size : Int) := of_decide_eq_true am
            have hx11 := bt_at a0 x5_1
            replace p11 := eq_true p11
            replace q11 := eq_true q11
            have p13 : 0 ≤ (x5_1 : Int) := of_decide_eq_true am
            have q13 : x5_1 < (a0.size : Int) := of_decide_eq_true am
            have hx13 := bt_at a0 x5_1
            replace p13 := eq_true p13
            replace q13 := eq_true q13
            go_wp2
            go_ret2
            exact ⟨by first | rfl | (simp; done) | (simp only [← hji8, ← hji10] <;> (first | rfl | simp)) | (simp [*]; done), fd⟩
          ·rw [if_neg c14] at H
           have c14b0 : ((bt a0 x5_1) == 0) = false := beq_eq_false_iff_ne.mpr c14
           have c14b1 : ((bt a0 x5_1) != 0) = true := bne_iff_ne.mpr c14
           simp only [Option.some.injEq, Prod.mk.injEq] at H
           obtain ⟨rfl, rfl⟩ := H
           have p7 : 0 ≤ (x5_1 : Int) := of_decide_eq_true am
           have q7 : x5_1 < (a0.size : Int) := of_decide_eq_true am
           have hx7 := bt_at a0 x5_1
           replace p7 := eq_true p7
           replace q7 := eq_true q7
           have p11 : 0 ≤ (x5_1 : Int) := of_decide_eq_true am
           have q11 : x5_1 < (a0.size : Int) := of_decide_eq_true am
           have hx11 := bt_at a0 x5_1
           replace p11 := eq_true p11
           replace q11 := eq_true q11
           have p13 : 0 ≤ (x5_1 : Int) := of_decide_eq_true am
           have q13 : x5_1 < (a0.size : Int) := of_decide_eq_true am
           have hx13 := bt_at a0 x5_1
           replace p13 := eq_true p13
           replace q13 := eq_true q13
           go_wp2
           go_ret2
           exact ⟨by first | rfl | (simp; done) | (simp only [← hji8, ← hji10] <;> (first | rfl | simp)) | (simp [*]; done), fd⟩
        ·rw [if_neg c9] at H
         exact absurd H (by simp)
       ·rw [if_neg c6] at H
        exact absurd H (by simp)
      ·rw [if_neg c5] at H
       exact absurd H (by simp)
     ·replace c4 := Bool.eq_false_iff.mpr c4
      subst c4
      replace H := iF H
      simp only [Option.some.injEq, Prod.mk.injEq] at H
      obtain ⟨rfl, rfl⟩ := H
      go_wp2
      go_ret2
      exact ⟨fa, fd⟩

/-! ### impl_reader_num: function 27 -/
def impl_reader_num.f (k : Nat) (s0_0 : ByteArray) (s0_1 : Bool) : Option (Int × ByteArray × Bool) := (impl_ReadVar.f k s0_0).bind fun bt256 => (if s0_1 = true then (if bt256.2 > 0 then (if 0 ≤ bt256.2 then (if bt256.2 ≤ (s0_0.size : Int) then (some (bt256.1, s0_0.extract (bt256.2 : Int).toNat s0_0.size, decide (bt256.2 > 0))) else (none)) else (none)) else (some (0, s0_0, decide (bt256.2 > 0)))) else (some (0, s0_0, false)))
theorem impl_reader_num.mono : ∀ a0 a1 k, LeO (impl_reader_num.f k a0 a1) (impl_reader_num.f (k + 1) a0 a1) := by
 intro a0 a1 k
 unfold impl_reader_num.f
 repeat' first
  | (with_reducible exact impl_ReadVar.mono _ _)
  | (with_reducible exact LeO.refl _)
  | (with_reducible exact LeO.none _)
  | (with_reducible refine LeO.ite ?_ ?_)
  | (with_reducible refine LeO.bind ?_ (fun _ => ?_))
  | exact impl_ReadVar.mono _ _
  | exact LeO.none _
  | refine LeO.ite ?_ ?_
  | refine LeO.bind ?_ (fun _ => ?_)
set_option maxHeartbeats 8000000 in
set_option maxRecDepth 100000 in
theorem impl_reader_num.calls (k : Nat) (g : Nat) (s0_0 : ByteArray) (s0_1 : Bool) (r1 : Int) (r2 : ByteArray) (r3 : Bool) (w0 w : World) (hI : IsS54 w0 w g s0_0 s0_1) (hB : Below w0.heap.size w0 w) (h : impl_reader_num.f k s0_0 s0_1 = some (r1, r2, r3)) :
 Calls Try.prog 27 #[.pointer (some ⟨g, 0, none⟩)] w fun e w' => e = .returned (.int .i64 r1) ∧ IsS54 w0 w' g r2 r3 ∧ Below w0.heap.size w0 w' ∧ KeepBut w w' g none := by
 have HI0 := Aside0.mk hI
 have HK := Aside0.mk (KeepBut.refl w g none)
 have HL := Aside0.mk hB.size
 clear hI
 have HW0 := Aside0.mk hB.size
 have HB := Aside0.mk hB
 clear hB
 have H : ((impl_ReadVar.f k s0_0).bind fun bt256 => (if s0_1 = true then (if bt256.2 > 0 then (if 0 ≤ bt256.2 then (if bt256.2 ≤ (s0_0.size : Int) then (some (bt256.1, s0_0.extract (bt256.2 : Int).toNat s0_0.size, decide (bt256.2 > 0))) else (none)) else (none)) else (some (0, s0_0, decide (bt256.2 > 0)))) else (some (0, s0_0, false)))) = some (r1, r2, r3) := h
 clear h
 replace H := Option.bind_eq_some_iff.mp H
 obtain ⟨⟨t256, t257⟩, A20, H⟩ := H
 replace H : (if s0_1 = true then (if t257 > 0 then (if 0 ≤ t257 then (if t257 ≤ (s0_0.size : Int) then (some (t256, s0_0.extract (t257 : Int).toNat s0_0.size, decide (t257 > 0))) else (none)) else (none)) else (some (0, s0_0, decide (t257 > 0)))) else (some (0, s0_0, false))) = some (r1, r2, r3) := H
 have A2 := Aside0.mk A20
 clear A20
 by_cases c3 : s0_1 = true
 ·subst c3
  replace H := iT H
  by_cases c4 : t257 > 0
  ·rw [if_pos c4] at H
   have c4b0 : decide (0 < t257) = true := decide_eq_true c4
   clear c4
   by_cases c5 : 0 ≤ t257
   ·rw [if_pos c5] at H
    have c5b0 := eq_true c5
    have c5b1 : decide (0 ≤ t257) = true := decide_eq_true c5
    clear c5
    by_cases c6 : t257 ≤ (s0_0.size : Int)
    ·rw [if_pos c6] at H
     have c6b0 := eq_true c6
     have c6b1 : decide (t257 ≤ (s0_0.size : Int)) = true := decide_eq_true c6
     clear c6
     simp only [Option.some.injEq, Prod.mk.injEq] at H
     obtain ⟨rfl, rfl, rfl⟩ := H
     obtain ⟨HGz7, hgz7⟩ := HI0.out
     have Z7_0 := cellS54_0 HGz7; have Z7_1 := cellS54_1 HGz7; have Y7_0 := blk_frozen HGz7 0; have Y7_1 := blk_frozen HGz7 1
     clear HGz7 hgz7
     go_enter Try.func27, Try.ntmps27
     go_wp2_with (first | ((with_reducible refine gC 46 rfl ?_); refine goesZ (some 10) rfl Try.func46 #[.string s0_0] ?_; (with_reducible refine (impl_ReadVar.calls k s0_0 t256 t257 _ A2.out).mono ?_); rintro e w' ⟨rfl, ⟨nd, rfl⟩⟩; refine ⟨_, rfl, ?_⟩; generalize hq_ : World.drewN w _ = w8; have n0_ : Aside0 (IsS54 w0 w8 g s0_0 true) := ⟨by rw [← hq_]; exact (by repeat (first | (with_reducible first | exact HI0.out | apply IsS54.alloc | apply IsS54.drewN | apply IsS54.drew | apply IsS54.set_0 | apply IsS54.set_1) | exact HI0.out))⟩; have n1_ : Aside0 (KeepBut w w8 g none) := ⟨by rw [← hq_]; exact (by repeat (first | (with_reducible first | exact HK.out | apply KeepBut.set_ | apply keep_drewN | apply keep_drew | apply keep_alloc) | exact HK.out))⟩; have n2_ : Aside0 (Below w0.heap.size w0 w8) := ⟨by rw [← hq_]; exact (by repeat (first | (with_reducible first | exact HB.out | apply below_alloc | apply pw_below_drewN | apply below_drew1 | refine below_set ?_ (IsS54.ge HI0.out)) | exact HB.out))⟩; clear hq_ HI0 HK HB; have HI0 := n0_; have HK := n1_; have HB := n2_; clear n0_ n1_ n2_; obtain ⟨HGz7, hgz7⟩ := HI0.out; have Z7_0 := cellS54_0 HGz7; have Z7_1 := cellS54_1 HGz7; have Y7_0 := blk_frozen HGz7 0; have Y7_1 := blk_frozen HGz7 1; clear HGz7 hgz7; obtain ⟨HGz9, hgz9⟩ := HI0.out; have Z9_0 := cellS54_0 HGz9; have Z9_1 := cellS54_1 HGz9; have Y9_0 := blk_frozen HGz9 0; have Y9_1 := blk_frozen HGz9 1; clear HGz9 hgz9))
     go_ret
     exact ⟨fe, by (try simp only [gt_iff_lt, c4b0]); repeat (first | (with_reducible first | exact HI0.out | apply IsS54.alloc | apply IsS54.drewN | apply IsS54.drew | apply IsS54.set_0 | apply IsS54.set_1) | exact HI0.out), by repeat (first | (with_reducible first | exact HB.out | apply below_alloc | apply pw_below_drewN | apply below_drew1 | refine below_set ?_ (IsS54.ge HI0.out)) | exact HB.out), by repeat (first | (with_reducible first | exact HK.out | apply KeepBut.set_ | apply keep_drewN | apply keep_drew | apply keep_alloc) | exact HK.out)⟩
    ·rw [if_neg c6] at H
     exact absurd H (by simp)
   ·rw [if_neg c5] at H
    exact absurd H (by simp)
  ·rw [if_neg c4] at H
   have c4b0 : decide (0 < t257) = false := decide_eq_false c4
   clear c4
   simp only [Option.some.injEq, Prod.mk.injEq] at H
   obtain ⟨rfl, rfl, rfl⟩ := H
   obtain ⟨HGz10, hgz10⟩ := HI0.out
   have Z10_0 := cellS54_0 HGz10; have Z10_1 := cellS54_1 HGz10; have Y10_0 := blk_frozen HGz10 0; have Y10_1 := blk_frozen HGz10 1
   clear HGz10 hgz10
   go_enter Try.func27, Try.ntmps27
   go_wp2_with (first | ((with_reducible refine gC 46 rfl ?_); refine goesZ (some 10) rfl Try.func46 #[.string s0_0] ?_; (with_reducible refine (impl_ReadVar.calls k s0_0 t256 t257 _ A2.out).mono ?_); rintro e w' ⟨rfl, ⟨nd, rfl⟩⟩; refine ⟨_, rfl, ?_⟩; generalize hq_ : World.drewN w _ = w11; have n0_ : Aside0 (IsS54 w0 w11 g s0_0 true) := ⟨by rw [← hq_]; exact (by repeat (first | (with_reducible first | exact HI0.out | apply IsS54.alloc | apply IsS54.drewN | apply IsS54.drew | apply IsS54.set_0 | apply IsS54.set_1) | exact HI0.out))⟩; have n1_ : Aside0 (KeepBut w w11 g none) := ⟨by rw [← hq_]; exact (by repeat (first | (with_reducible first | exact HK.out | apply KeepBut.set_ | apply keep_drewN | apply keep_drew | apply keep_alloc) | exact HK.out))⟩; have n2_ : Aside0 (Below w0.heap.size w0 w11) := ⟨by rw [← hq_]; exact (by repeat (first | (with_reducible first | exact HB.out | apply below_alloc | apply pw_below_drewN | apply below_drew1 | refine below_set ?_ (IsS54.ge HI0.out)) | exact HB.out))⟩; clear hq_ HI0 HK HB; have HI0 := n0_; have HK := n1_; have HB := n2_; clear n0_ n1_ n2_; obtain ⟨HGz10, hgz10⟩ := HI0.out; have Z10_0 := cellS54_0 HGz10; have Z10_1 := cellS54_1 HGz10; have Y10_0 := blk_frozen HGz10 0; have Y10_1 := blk_frozen HGz10 1; clear HGz10 hgz10; obtain ⟨HGz12, hgz12⟩ := HI0.out; have Z12_0 := cellS54_0 HGz12; have Z12_1 := cellS54_1 HGz12; have Y12_0 := blk_frozen HGz12 0; have Y12_1 := blk_frozen HGz12 1; clear HGz12 hgz12))
   go_ret
   exact ⟨fe, by (try simp only [gt_iff_lt, c4b0]); repeat (first | (with_reducible first | exact HI0.out | apply IsS54.alloc | apply IsS54.drewN | apply IsS54.drew | apply IsS54.set_0 | apply IsS54.set_1) | exact HI0.out), by repeat (first | (with_reducible first | exact HB.out | apply below_alloc | apply pw_below_drewN | apply below_drew1 | refine below_set ?_ (IsS54.ge HI0.out)) | exact HB.out), by repeat (first | (with_reducible first | exact HK.out | apply KeepBut.set_ | apply keep_drewN | apply keep_drew | apply keep_alloc) | exact HK.out)⟩
 ·replace c3 := Bool.eq_false_iff.mpr c3
  subst c3
  replace H := iF H
  simp only [Option.some.injEq, Prod.mk.injEq] at H
  obtain ⟨rfl, rfl, rfl⟩ := H
  obtain ⟨HGz13, hgz13⟩ := HI0.out
  have Z13_0 := cellS54_0 HGz13; have Z13_1 := cellS54_1 HGz13; have Y13_0 := blk_frozen HGz13 0; have Y13_1 := blk_frozen HGz13 1
  clear HGz13 hgz13
  go_enter Try.func27, Try.ntmps27
  go_wp2_with (first | ((with_reducible refine gC 46 rfl ?_); refine goesZ (some 10) rfl Try.func46 #[.string s0_0] ?_; (with_reducible refine (impl_ReadVar.calls k s0_0 t256 t257 _ A2.out).mono ?_); rintro e w' ⟨rfl, ⟨nd, rfl⟩⟩; refine ⟨_, rfl, ?_⟩; generalize hq_ : World.drewN w _ = w14; have n0_ : Aside0 (IsS54 w0 w14 g s0_0 false) := ⟨by rw [← hq_]; exact (by repeat (first | (with_reducible first | exact HI0.out | apply IsS54.alloc | apply IsS54.drewN | apply IsS54.drew | apply IsS54.set_0 | apply IsS54.set_1) | exact HI0.out))⟩; have n1_ : Aside0 (KeepBut w w14 g none) := ⟨by rw [← hq_]; exact (by repeat (first | (with_reducible first | exact HK.out | apply KeepBut.set_ | apply keep_drewN | apply keep_drew | apply keep_alloc) | exact HK.out))⟩; have n2_ : Aside0 (Below w0.heap.size w0 w14) := ⟨by rw [← hq_]; exact (by repeat (first | (with_reducible first | exact HB.out | apply below_alloc | apply pw_below_drewN | apply below_drew1 | refine below_set ?_ (IsS54.ge HI0.out)) | exact HB.out))⟩; clear hq_ HI0 HK HB; have HI0 := n0_; have HK := n1_; have HB := n2_; clear n0_ n1_ n2_; obtain ⟨HGz13, hgz13⟩ := HI0.out; have Z13_0 := cellS54_0 HGz13; have Z13_1 := cellS54_1 HGz13; have Y13_0 := blk_frozen HGz13 0; have Y13_1 := blk_frozen HGz13 1; clear HGz13 hgz13; obtain ⟨HGz15, hgz15⟩ := HI0.out; have Z15_0 := cellS54_0 HGz15; have Z15_1 := cellS54_1 HGz15; have Y15_0 := blk_frozen HGz15 0; have Y15_1 := blk_frozen HGz15 1; clear HGz15 hgz15))
  go_ret
  exact ⟨fe, by (try simp only [gt_iff_lt, c4b0]); repeat (first | (with_reducible first | exact HI0.out | apply IsS54.alloc | apply IsS54.drewN | apply IsS54.drew | apply IsS54.set_0 | apply IsS54.set_1) | exact HI0.out), by repeat (first | (with_reducible first | exact HB.out | apply below_alloc | apply pw_below_drewN | apply below_drew1 | refine below_set ?_ (IsS54.ge HI0.out)) | exact HB.out), by repeat (first | (with_reducible first | exact HK.out | apply KeepBut.set_ | apply keep_drewN | apply keep_drew | apply keep_alloc) | exact HK.out)⟩

/-! ### impl_isVote: function 48 -/
def impl_isVote.f (a0 : Int) : Option (Bool) := (impl_from.f a0 (-1) 4).bind fun t258 => (some t258)
set_option maxHeartbeats 8000000 in
set_option maxRecDepth 100000 in
theorem impl_isVote.calls (a0 : Int) (r : Bool) (w : World) (h : impl_isVote.f a0 = some r) :
 Calls Try.prog 48 #[.int .i64 a0] w fun e w' => e = .returned (.bool r) ∧ Drawn0 w w' := by
 have H : ((impl_from.f a0 (-1) 4).bind fun t258 => (some t258)) = some r := h
 clear h
 obtain ⟨t258, A2, H⟩ := bd H
 obtain rfl := Option.some.inj H
 go_enter Try.func48, Try.ntmps48
 go_wp2_with (first | ((with_reducible refine gC 33 rfl ?_); refine goesZ (some 4) rfl Try.func33 #[.int .i64 a0, .int .i64 (-1), .int .i64 4] ?_; (with_reducible refine (impl_from.calls a0 (-1) 4 t258 _ A2.out).mono ?_); rintro e w' ⟨rfl, ⟨nd, rfl⟩⟩; refine ⟨_, rfl, ?_⟩))
 go_ret
 exact ⟨fa, fd⟩

/-! ### impl_isTerm: function 52 -/
def impl_isTerm.f (a0 : Int) : Option (Bool) := (impl_from.f a0 1 100000).bind fun t259 => (some t259)
set_option maxHeartbeats 8000000 in
set_option maxRecDepth 100000 in
theorem impl_isTerm.calls (a0 : Int) (r : Bool) (w : World) (h : impl_isTerm.f a0 = some r) :
 Calls Try.prog 52 #[.int .i64 a0] w fun e w' => e = .returned (.bool r) ∧ Drawn0 w w' := by
 have H : ((impl_from.f a0 1 100000).bind fun t259 => (some t259)) = some r := h
 clear h
 obtain ⟨t259, A2, H⟩ := bd H
 obtain rfl := Option.some.inj H
 go_enter Try.func52, Try.ntmps52
 go_wp2_with (first | ((with_reducible refine gC 33 rfl ?_); refine goesZ (some 4) rfl Try.func33 #[.int .i64 a0, .int .i64 1, .int .i64 100000] ?_; (with_reducible refine (impl_from.calls a0 1 100000 t259 _ A2.out).mono ?_); rintro e w' ⟨rfl, ⟨nd, rfl⟩⟩; refine ⟨_, rfl, ?_⟩))
 go_ret
 exact ⟨fa, fd⟩

/-! ### impl_isPlace: function 49 -/
def impl_isPlace.f (a0 : Int) (a1 : Int) : Option (Bool) := if a0 = 0 then (if a1 = 0 then (some true) else ((impl_from.f a0 1 100000).bind fun t260 => (if t260 = true then ((impl_isTerm.f a1).bind fun t261 => (some t261)) else (some false)))) else ((impl_from.f a0 1 100000).bind fun t262 => (if t262 = true then ((impl_isTerm.f a1).bind fun t263 => (some t263)) else (some false)))
set_option maxHeartbeats 8000000 in
set_option maxRecDepth 100000 in
theorem impl_isPlace.calls (a0 : Int) (a1 : Int) (r : Bool) (w : World) (h : impl_isPlace.f a0 a1 = some r) :
 Calls Try.prog 49 #[.int .i64 a0, .int .i64 a1] w fun e w' => e = .returned (.bool r) ∧ Drawn0 w w' := by
 have H : (if a0 = 0 then (if a1 = 0 then (some true) else ((impl_from.f a0 1 100000).bind fun t260 => (if t260 = true then ((impl_isTerm.f a1).bind fun t261 => (some t261)) else (some false)))) else ((impl_from.f a0 1 100000).bind fun t262 => (if t262 = true then ((impl_isTerm.f a1).bind fun t263 => (some t263)) else (some false)))) = some r := h
 clear h
 by_cases c3 : a0 = 0
 ·rw [if_pos c3] at H
  have c3b0 : (a0 == 0) = true := beq_iff_eq.mpr c3
  have c3b1 : (a0 != 0) = false := bne_eq_false_iff_eq.mpr c3
  clear c3
  by_cases c4 : a1 = 0
  ·rw [if_pos c4] at H
   have c4b0 : (a1 == 0) = true := beq_iff_eq.mpr c4
   have c4b1 : (a1 != 0) = false := bne_eq_false_iff_eq.mpr c4
   clear c4
   obtain rfl := Option.some.inj H
   go_enter Try.func49, Try.ntmps49
   go_wp2
   go_ret
   exact ⟨fa, fd⟩
  ·rw [if_neg c4] at H
   have c4b0 : (a1 == 0) = false := beq_eq_false_iff_ne.mpr c4
   have c4b1 : (a1 != 0) = true := bne_iff_ne.mpr c4
   obtain ⟨t260, A5, H⟩ := bd H
   by_cases c6 : t260 = true
   ·subst c6
    replace H := iT H
    obtain ⟨t261, A7, H⟩ := bd H
    obtain rfl := Option.some.inj H
    go_enter Try.func49, Try.ntmps49
    go_wp2_with (first | (go_at_call 33; (with_reducible refine (impl_from.calls a0 1 100000 true _ A5.out).mono ?_); rintro e w' ⟨rfl, ⟨nd, rfl⟩⟩) | (go_at_call 52; (with_reducible refine (impl_isTerm.calls a1 t261 _ A7.out).mono ?_); rintro e w' ⟨rfl, ⟨nd, rfl⟩⟩))
    go_ret
    exact ⟨fa, fd⟩
   ·replace c6 := Bool.eq_false_iff.mpr c6
    subst c6
    replace H := iF H
    obtain rfl := Option.some.inj H
    go_enter Try.func49, Try.ntmps49
    go_wp2_with (first | (go_at_call 33; (with_reducible refine (impl_from.calls a0 1 100000 false _ A5.out).mono ?_); rintro e w' ⟨rfl, ⟨nd, rfl⟩⟩))
    go_ret
    exact ⟨fa, fd⟩
 ·rw [if_neg c3] at H
  have c3b0 : (a0 == 0) = false := beq_eq_false_iff_ne.mpr c3
  have c3b1 : (a0 != 0) = true := bne_iff_ne.mpr c3
  obtain ⟨t262, A8, H⟩ := bd H
  by_cases c9 : t262 = true
  ·subst c9
   replace H := iT H
   obtain ⟨t263, A10, H⟩ := bd H
   obtain rfl := Option.some.inj H
   go_enter Try.func49, Try.ntmps49
   go_wp2_with (first | (go_at_call 33; (with_reducible refine (impl_from.calls a0 1 100000 true _ A8.out).mono ?_); rintro e w' ⟨rfl, ⟨nd, rfl⟩⟩) | (go_at_call 52; (with_reducible refine (impl_isTerm.calls a1 t263 _ A10.out).mono ?_); rintro e w' ⟨rfl, ⟨nd, rfl⟩⟩))
   go_ret
   exact ⟨fa, fd⟩
  ·replace c9 := Bool.eq_false_iff.mpr c9
   subst c9
   replace H := iF H
   obtain rfl := Option.some.inj H
   go_enter Try.func49, Try.ntmps49
   go_wp2_with (first | (go_at_call 33; (with_reducible refine (impl_from.calls a0 1 100000 false _ A8.out).mono ?_); rintro e w' ⟨rfl, ⟨nd, rfl⟩⟩))
   go_ret
   exact ⟨fa, fd⟩

end Go.Proofs.Ytflegbpgkkiijaa.PFnExactReplay
