-- PRINTED by print.py (a twelfth state) out of the translation. Not trusted: Lean checks it.
import Derived.Test.YtfmddjbekophnaaPFnExactChangesx0
import Derived.Test.YtfmddjbekophnaaPFnExactChangesx8
import Derived.Test.YtfmddjbekophnaaZip
namespace Go.Proofs.Ytfmddjbekophnaa.PFnExactChanges
open Go.RowKit Go.Proofs.YtfmddjbekophnaaW.PrintWords Go.Proofs.YtfmddjbekophnaaW.PrintLast Go.Proofs.YtfmddjbekophnaaW.PrintMore Go.Proofs.Ytfmddjbekophnaa.Zip
attribute [local go_sem] max2_int min2_int max_two min_two max_three min_three max_four min_four   -- for this text's walks alone
set_option linter.unusedVariables false
set_option linter.unusedSimpArgs false

/-! ### laws_markRecS: function 64 -/
def laws_markRecS.l0 : Nat → List (S83) → Int → Int → Option (Int × (List (S83)))
 | 0, _, _, _ => none
 | k + 1, x0, x1, x5 => if x5 < (x0.length : Int) then (if 0 ≤ x5 then ((some (x0.set (x5 : Int).toNat (⟨x1, (rd_T83 x0 x5).f1, (rd_T83 x0 x5).f2, (rd_T83 x0 x5).f3, (rd_T83 x0 x5).f4⟩ : S83) : List (S83))).bind fun y251 => ((some (y251.set (x5 : Int).toNat (⟨(rd_T83 y251 x5).f0, wrap64 (x1 + 1), (rd_T83 y251 x5).f2, (rd_T83 y251 x5).f3, (rd_T83 y251 x5).f4⟩ : S83) : List (S83))).bind fun y252 => ((some (y252.set (x5 : Int).toNat (⟨(rd_T83 y252 x5).f0, (rd_T83 y252 x5).f1, wrap64 ((wrap64 (x1 + 1)) + 1), (rd_T83 y252 x5).f3, (rd_T83 y252 x5).f4⟩ : S83) : List (S83))).bind fun y253 => ((some (y253.set (x5 : Int).toNat (⟨(rd_T83 y253 x5).f0, (rd_T83 y253 x5).f1, (rd_T83 y253 x5).f2, wrap64 ((wrap64 ((wrap64 (x1 + 1)) + 1)) + 1), (rd_T83 y253 x5).f4⟩ : S83) : List (S83))).bind fun y254 => ((laws_markText.f k (wrap64 ((wrap64 ((wrap64 ((wrap64 (x1 + 1)) + 1)) + 1)) + 1))).bind fun t255 => (laws_markRecS.l0 k (y254.set (x5 : Int).toNat (⟨(rd_T83 y254 x5).f0, (rd_T83 y254 x5).f1, (rd_T83 y254 x5).f2, (rd_T83 y254 x5).f3, t255⟩ : S83)) (wrap64 ((wrap64 ((wrap64 ((wrap64 ((wrap64 (x1 + 1)) + 1)) + 1)) + 1)) + 1)) (wrap64 (x5 + 1)))))))) else (none)) else (some (x1, x0))
def laws_markRecS.f (k : Nat) (l0 : List (S83)) (a1 : Int) : Option (Int × (List (S83))) := laws_markRecS.l0 k l0 a1 0
theorem laws_markRecS.mono_l : ∀ k, (∀ y0 y1 y2, LeO (laws_markRecS.l0 k y0 y1 y2) (laws_markRecS.l0 (k + 1) y0 y1 y2))
 | 0 => fun _ _ _ r h => by simp [laws_markRecS.l0] at h
 | k + 1 => by
  have ih0 := laws_markRecS.mono_l k
  ·intro y0 y1 y2
   unfold laws_markRecS.l0
   repeat' first
   | (with_reducible exact ih0 _ _ _)
   | (with_reducible exact laws_markText.mono _ _)
   | (with_reducible exact LeO.refl _)
   | (with_reducible exact LeO.none _)
   | (with_reducible refine LeO.ite ?_ ?_)
   | (with_reducible refine LeO.bind ?_ (fun _ => ?_))
   | exact ih0 _ _ _
   | exact laws_markText.mono _ _
   | exact LeO.none _
   | refine LeO.ite ?_ ?_
   | refine LeO.bind ?_ (fun _ => ?_)
theorem laws_markRecS.mono : ∀ a0 a1 k, LeO (laws_markRecS.f k a0 a1) (laws_markRecS.f (k + 1) a0 a1) := by
 intro a0 a1 k
 have ih0 := laws_markRecS.mono_l k
 unfold laws_markRecS.f
 repeat' first
  | (with_reducible exact ih0 _ _ _)
  | (with_reducible exact laws_markText.mono _ _)
  | (with_reducible exact LeO.refl _)
  | (with_reducible exact LeO.none _)
  | (with_reducible refine LeO.ite ?_ ?_)
  | (with_reducible refine LeO.bind ?_ (fun _ => ?_))
  | exact ih0 _ _ _
  | exact laws_markText.mono _ _
  | exact LeO.none _
  | refine LeO.ite ?_ ?_
  | refine LeO.bind ?_ (fun _ => ?_)
set_option maxHeartbeats 8000000 in
set_option maxRecDepth 100000 in
theorem laws_markRecS.calls (k : Nat) (P0_ : Nat → Prop) (u9000_ : Value) (l0 : List (S83)) (a1 : Int) (r1 : Int) (r2 : List (S83)) (w0 w : World) (hB : Below w0.heap.size w0 w) (ho0 : Kd.R k83 83 w w0.heap.size P0_ u9000_ l0) (h : laws_markRecS.f k l0 a1 = some (r1, r2)) :
 Calls Try.prog 64 #[u9000_, .int .i64 a1] w fun e w' => e = .returned (.int .i64 r1) ∧ Kd.R k83 83 w' w0.heap.size (fun k_ => (P0_ k_ ∨ w.heap.size ≤ k_)) u9000_ r2 ∧ Below w0.heap.size w0 w' ∧ Kept w w' (fun k_ => P0_ k_) := by
 have HO0 := Aside0.mk (show Kd.R k83 83 w w0.heap.size (fun k_ => (P0_ k_ ∨ w.heap.size ≤ k_)) u9000_ l0 from Kd.R_mono ho0 (fun k_ hk => (.inl hk)))
 have HK := Aside0.mk (Kept.refl w (fun k_ => P0_ k_))
 have HW0 := Aside0.mk hB.size
 have HB := Aside0.mk hB
 clear hB
 have H : (laws_markRecS.l0 k l0 a1 0) = some (r1, r2) := h
 clear h
 have H' := Aside0.mk H
 clear H
 go_enter Try.func64, Try.ntmps64
 go_wp2
 go_loopg [1, 5] k (fun kq v1 v5 w' => ∃ (x0_1 : List (S83)) (x1_1 : Int) (x5_1 : Int), v1 = .int .i64 x1_1 ∧ v5 = .int .i64 x5_1 ∧ Aside0 (laws_markRecS.l0 kq x0_1 x1_1 x5_1 = some (r1, r2)) ∧ Aside0 (kq ≤ k) ∧ Aside0 (Kd.R k83 83 w' w0.heap.size (fun k_ => (P0_ k_ ∨ w.heap.size ≤ k_)) u9000_ x0_1) ∧ Aside0 (Kept w w' (fun k_ => P0_ k_)) ∧ Aside0 (Below w0.heap.size w0 w'))
 case atStart => exact ⟨(l0), (a1), (0), fa, fa, H', ⟨Nat.le_refl _⟩, ⟨by (with_reducible repeat (first | apply Kd.R_alloc | apply Kd.R_drewN | apply Kd.R_drew)); exact HO0.out⟩, ⟨by repeat (first | (with_reducible first | exact HK.out | apply Kept.alloc | apply Kept.drewN | apply Kept.drew) | exact HK.out)⟩, ⟨bl⟩⟩
 case round =>
  clear H'
  try clear p2
  obtain ⟨x0_1, x1_1, x5_1, rfl, rfl, HA, HK1, HO_0, HK, HB⟩ := hrel
  cases gk with
  | zero => exact absurd HA.out (by simp [laws_markRecS.l0])
  | succ k1 =>
   have H := HA.out
   clear HA
   simp only [laws_markRecS.l0] at H
   by_cases c3 : x5_1 < (x0_1.length : Int)
   ·rw [if_pos c3] at H
    have c3b0 : decide (x5_1 < (x0_1.length : Int)) = true := decide_eq_true c3
    clear c3
    by_cases c4 : 0 ≤ x5_1
    ·rw [if_pos c4] at H
     have c4b0 : decide (0 ≤ x5_1) = true := decide_eq_true c4
     clear c4
     obtain ⟨y251, hy251⟩ : ∃ y_ : List (S83), y_ = (x0_1.set (x5_1 : Int).toNat (⟨x1_1, (rd_T83 x0_1 x5_1).f1, (rd_T83 x0_1 x5_1).f2, (rd_T83 x0_1 x5_1).f3, (rd_T83 x0_1 x5_1).f4⟩ : S83)) := ⟨_, rfl⟩
     replace H : ((some (y251.set (x5_1 : Int).toNat (⟨(rd_T83 y251 x5_1).f0, wrap64 (x1_1 + 1), (rd_T83 y251 x5_1).f2, (rd_T83 y251 x5_1).f3, (rd_T83 y251 x5_1).f4⟩ : S83) : List (S83))).bind fun y252 => ((some (y252.set (x5_1 : Int).toNat (⟨(rd_T83 y252 x5_1).f0, (rd_T83 y252 x5_1).f1, wrap64 ((wrap64 (x1_1 + 1)) + 1), (rd_T83 y252 x5_1).f3, (rd_T83 y252 x5_1).f4⟩ : S83) : List (S83))).bind fun y253 => ((some (y253.set (x5_1 : Int).toNat (⟨(rd_T83 y253 x5_1).f0, (rd_T83 y253 x5_1).f1, (rd_T83 y253 x5_1).f2, wrap64 ((wrap64 ((wrap64 (x1_1 + 1)) + 1)) + 1), (rd_T83 y253 x5_1).f4⟩ : S83) : List (S83))).bind fun y254 => ((laws_markText.f k1 (wrap64 ((wrap64 ((wrap64 ((wrap64 (x1_1 + 1)) + 1)) + 1)) + 1))).bind fun t255 => (laws_markRecS.l0 k1 (y254.set (x5_1 : Int).toNat (⟨(rd_T83 y254 x5_1).f0, (rd_T83 y254 x5_1).f1, (rd_T83 y254 x5_1).f2, (rd_T83 y254 x5_1).f3, t255⟩ : S83)) (wrap64 ((wrap64 ((wrap64 ((wrap64 ((wrap64 (x1_1 + 1)) + 1)) + 1)) + 1)) + 1)) (wrap64 (x5_1 + 1))))))) = some (r1, r2) := by first | (rw [hy251]; with_reducible exact H) | (have H2_ := (Option.bind_some _ _).symm.trans H; rw [hy251]; with_reducible exact H2_) | (have H2_ := (Option.bind_some _ _).symm.trans H; with_reducible exact H2_) | with_reducible exact H | (rw [hy251]; exact H) | exact H
     have Ny251 := Aside0.mk hy251
     clear hy251
     obtain ⟨y252, hy252⟩ : ∃ y_ : List (S83), y_ = (y251.set (x5_1 : Int).toNat (⟨(rd_T83 y251 x5_1).f0, wrap64 (x1_1 + 1), (rd_T83 y251 x5_1).f2, (rd_T83 y251 x5_1).f3, (rd_T83 y251 x5_1).f4⟩ : S83)) := ⟨_, rfl⟩
     replace H : ((some (y252.set (x5_1 : Int).toNat (⟨(rd_T83 y252 x5_1).f0, (rd_T83 y252 x5_1).f1, wrap64 ((wrap64 (x1_1 + 1)) + 1), (rd_T83 y252 x5_1).f3, (rd_T83 y252 x5_1).f4⟩ : S83) : List (S83))).bind fun y253 => ((some (y253.set (x5_1 : Int).toNat (⟨(rd_T83 y253 x5_1).f0, (rd_T83 y253 x5_1).f1, (rd_T83 y253 x5_1).f2, wrap64 ((wrap64 ((wrap64 (x1_1 + 1)) + 1)) + 1), (rd_T83 y253 x5_1).f4⟩ : S83) : List (S83))).bind fun y254 => ((laws_markText.f k1 (wrap64 ((wrap64 ((wrap64 ((wrap64 (x1_1 + 1)) + 1)) + 1)) + 1))).bind fun t255 => (laws_markRecS.l0 k1 (y254.set (x5_1 : Int).toNat (⟨(rd_T83 y254 x5_1).f0, (rd_T83 y254 x5_1).f1, (rd_T83 y254 x5_1).f2, (rd_T83 y254 x5_1).f3, t255⟩ : S83)) (wrap64 ((wrap64 ((wrap64 ((wrap64 ((wrap64 (x1_1 + 1)) + 1)) + 1)) + 1)) + 1)) (wrap64 (x5_1 + 1)))))) = some (r1, r2) := by first | (rw [hy252]; with_reducible exact H) | (have H2_ := (Option.bind_some _ _).symm.trans H; rw [hy252]; with_reducible exact H2_) | (have H2_ := (Option.bind_some _ _).symm.trans H; with_reducible exact H2_) | with_reducible exact H | (rw [hy252]; exact H) | exact H
     have Ny252 := Aside0.mk hy252
     clear hy252
     obtain ⟨y253, hy253⟩ : ∃ y_ : List (S83), y_ = (y252.set (x5_1 : Int).toNat (⟨(rd_T83 y252 x5_1).f0, (rd_T83 y252 x5_1).f1, wrap64 ((wrap64 (x1_1 + 1)) + 1), (rd_T83 y252 x5_1).f3, (rd_T83 y252 x5_1).f4⟩ : S83)) := ⟨_, rfl⟩
     replace H : ((some (y253.set (x5_1 : Int).toNat (⟨(rd_T83 y253 x5_1).f0, (rd_T83 y253 x5_1).f1, (rd_T83 y253 x5_1).f2, wrap64 ((wrap64 ((wrap64 (x1_1 + 1)) + 1)) + 1), (rd_T83 y253 x5_1).f4⟩ : S83) : List (S83))).bind fun y254 => ((laws_markText.f k1 (wrap64 ((wrap64 ((wrap64 ((wrap64 (x1_1 + 1)) + 1)) + 1)) + 1))).bind fun t255 => (laws_markRecS.l0 k1 (y254.set (x5_1 : Int).toNat (⟨(rd_T83 y254 x5_1).f0, (rd_T83 y254 x5_1).f1, (rd_T83 y254 x5_1).f2, (rd_T83 y254 x5_1).f3, t255⟩ : S83)) (wrap64 ((wrap64 ((wrap64 ((wrap64 ((wrap64 (x1_1 + 1)) + 1)) + 1)) + 1)) + 1)) (wrap64 (x5_1 + 1))))) = some (r1, r2) := by first | (rw [hy253]; with_reducible exact H) | (have H2_ := (Option.bind_some _ _).symm.trans H; rw [hy253]; with_reducible exact H2_) | (have H2_ := (Option.bind_some _ _).symm.trans H; with_reducible exact H2_) | with_reducible exact H | (rw [hy253]; exact H) | exact H
     have Ny253 := Aside0.mk hy253
     clear hy253
     obtain ⟨y254, hy254⟩ : ∃ y_ : List (S83), y_ = (y253.set (x5_1 : Int).toNat (⟨(rd_T83 y253 x5_1).f0, (rd_T83 y253 x5_1).f1, (rd_T83 y253 x5_1).f2, wrap64 ((wrap64 ((wrap64 (x1_1 + 1)) + 1)) + 1), (rd_T83 y253 x5_1).f4⟩ : S83)) := ⟨_, rfl⟩
     replace H : ((laws_markText.f k1 (wrap64 ((wrap64 ((wrap64 ((wrap64 (x1_1 + 1)) + 1)) + 1)) + 1))).bind fun t255 => (laws_markRecS.l0 k1 (y254.set (x5_1 : Int).toNat (⟨(rd_T83 y254 x5_1).f0, (rd_T83 y254 x5_1).f1, (rd_T83 y254 x5_1).f2, (rd_T83 y254 x5_1).f3, t255⟩ : S83)) (wrap64 ((wrap64 ((wrap64 ((wrap64 ((wrap64 (x1_1 + 1)) + 1)) + 1)) + 1)) + 1)) (wrap64 (x5_1 + 1)))) = some (r1, r2) := by first | (rw [hy254]; with_reducible exact H) | (have H2_ := (Option.bind_some _ _).symm.trans H; rw [hy254]; with_reducible exact H2_) | (have H2_ := (Option.bind_some _ _).symm.trans H; with_reducible exact H2_) | with_reducible exact H | (rw [hy254]; exact H) | exact H
     have Ny254 := Aside0.mk hy254
     clear hy254
     obtain ⟨t255, A9, H⟩ := bd H
     obtain ⟨y256, hy256⟩ : ∃ y_ : List (S83), y_ = (y254.set (x5_1 : Int).toNat (⟨(rd_T83 y254 x5_1).f0, (rd_T83 y254 x5_1).f1, (rd_T83 y254 x5_1).f2, (rd_T83 y254 x5_1).f3, t255⟩ : S83)) := ⟨_, rfl⟩
     replace H : (laws_markRecS.l0 k1 y256 (wrap64 ((wrap64 ((wrap64 ((wrap64 ((wrap64 (x1_1 + 1)) + 1)) + 1)) + 1)) + 1)) (wrap64 (x5_1 + 1))) = some (r1, r2) := by first | (rw [hy256]; with_reducible exact H) | (have H2_ := (Option.bind_some _ _).symm.trans H; rw [hy256]; with_reducible exact H2_) | (have H2_ := (Option.bind_some _ _).symm.trans H; with_reducible exact H2_) | with_reducible exact H | (rw [hy256]; exact H) | exact H
     have Ny256 := Aside0.mk hy256
     clear hy256
     have H' := Aside0.mk H
     clear H
     obtain ⟨Ao11, co11, eo11⟩ := Kd.R_slice HO_0.out
     subst eo11
     have p5 : 0 ≤ (x5_1 : Int) := of_decide_eq_true am
     have q5 : (x5_1 : Int) < ((x0_1.length : Int) : Int) := of_decide_eq_true am
     obtain ⟨go5, co5, eo5, gb5, gl5, cl5, HG5⟩ := Kd.R_form HO_0.out (by omega)
     (first | cases eo5 | (injection eo5 with ea_ en_ ec_; (first | subst ea_ | (injection ea_ with ea_; subst ea_)); subst ec_; clear en_))
     have GB5 := Aside0.mk gb5
     have GG5 := Aside0.mk HG5
     clear gb5 gl5 HG5
     have HMgo5 := Aside0.mk (show (P0_ go5 ∨ w.heap.size ≤ go5) from (HO_0.out.1 _ rfl))
     obtain ⟨ce5, hcl5, hM5, hcc5, hfr5⟩ := Kd.R_elem HO_0.out z83 (x5_1 : Int) p5 q5
     obtain rfl := k83_openM hM5
     have hx5_0 : wr.cell? ⟨go5, (x5_1 : Int).toNat * 5, none⟩ = some (.int .i64 ((rd_T83 x0_1 x5_1).f0)) := hcc5 0 _ rfl
     have hx5_1 : wr.cell? ⟨go5, (x5_1 : Int).toNat * 5 + 1, none⟩ = some (.int .i64 ((rd_T83 x0_1 x5_1).f1)) := hcc5 1 _ rfl
     have hx5_2 : wr.cell? ⟨go5, (x5_1 : Int).toNat * 5 + 2, none⟩ = some (.int .i64 ((rd_T83 x0_1 x5_1).f2)) := hcc5 2 _ rfl
     have hx5_3 : wr.cell? ⟨go5, (x5_1 : Int).toNat * 5 + 3, none⟩ = some (.int .i64 ((rd_T83 x0_1 x5_1).f3)) := hcc5 3 _ rfl
     have hx5_4 : wr.cell? ⟨go5, (x5_1 : Int).toNat * 5 + 4, none⟩ = some (.string ((rd_T83 x0_1 x5_1).f4)) := hcc5 4 _ rfl
     have hf5_0 : wr.frozen? ⟨go5, (x5_1 : Int).toNat * 5, none⟩ = false := hfr5 0
     have hf5_1 : wr.frozen? ⟨go5, (x5_1 : Int).toNat * 5 + 1, none⟩ = false := hfr5 1
     have hf5_2 : wr.frozen? ⟨go5, (x5_1 : Int).toNat * 5 + 2, none⟩ = false := hfr5 2
     have hf5_3 : wr.frozen? ⟨go5, (x5_1 : Int).toNat * 5 + 3, none⟩ = false := hfr5 3
     have hf5_4 : wr.frozen? ⟨go5, (x5_1 : Int).toNat * 5 + 4, none⟩ = false := hfr5 4
     clear hcl5 hcc5 hfr5 hM5
     replace p5 := eq_true p5
     replace q5 := eq_true q5
     have HX12 := Aside0.mk (show Kd.R k83 83 wr w0.heap.size (fun k_ => (P0_ k_ ∨ w.heap.size ≤ k_)) (.slice (some ⟨go5, 0, none⟩) x0_1.length co11) x0_1 from (by (with_reducible repeat (first | apply Kd.R_alloc | apply Kd.R_drewN | apply Kd.R_drew)); exact HO_0.out))
     obtain ⟨ce12, hcl12, hM12, hcc12, hfr12⟩ := Kd.R_elem HX12.out z83 (x5_1 : Int) (of_decide_eq_true am) (by have h_ : (x5_1 : Int) < ((x0_1.length : Int) : Int) := of_decide_eq_true am; first | exact h_ | (have e_ := (Kd.R_reads' HO_0.out).1; omega) | simpa using h_)
     obtain rfl := k83_openM hM12
     have HP12 := Kd.R_seg HX12.out (x5_1 : Int) (of_decide_eq_true am) (by have h_ : (x5_1 : Int) < ((x0_1.length : Int) : Int) := of_decide_eq_true am; first | exact h_ | (have e_ := (Kd.R_reads' HO_0.out).1; omega) | simpa using h_) (seg := [.int .i64 x1_1]) (j := 0) hcl12 hcc12 (show 1 ≤ 5 from by decide) (x' := (⟨x1_1, (rd_T83 x0_1 x5_1).f1, (rd_T83 x0_1 x5_1).f2, (rd_T83 x0_1 x5_1).f3, (rd_T83 x0_1 x5_1).f4⟩ : S83)) (k83_mkM _ _ _ (⟨x1_1, (rd_T83 x0_1 x5_1).f1, (rd_T83 x0_1 x5_1).f2, (rd_T83 x0_1 x5_1).f3, (rd_T83 x0_1 x5_1).f4⟩ : S83) ) (fun _ hk => hk)
     have hx12_0 := hcc12 0 _ rfl
     (try simp only [show (k83).sz = 5 from rfl, Nat.mul_one, Nat.add_zero] at hx12_0)
     have hf12_0 := hfr12 0
     (try simp only [show (k83).sz = 5 from rfl, Nat.mul_one, Nat.add_zero] at hf12_0)
     clear hcl12 hcc12 hfr12 hM12
     go_wp2_with (first | ((with_reducible refine gate_store (t := 3) (p := 16) rfl ?_); refine store_event (t := 3) (p := 16) (v := ?vo_w13) (w1 := (wr.setCell ⟨go5, (x5_1 : Int).toNat * 5, none⟩ (.int .i64 x1_1))) ?hg ?ho ?hn ?hr ?_; (case ho => rfl); (case hg => rfl); (case hn => rfl); (case hr => first | (go_simp; done) | (go_simp; rfl)); intro w13 hw; have hg : wr.grownBy w13 (some go5) := (by rw [hw]; exact HP12.2); have hp_ : Kd.R k83 83 w13 w0.heap.size (fun k_ => (P0_ k_ ∨ w.heap.size ≤ k_)) (.slice (some ⟨go5, 0, none⟩) x0_1.length co11) y251 := (by rw [hw, Ny251.out]; exact HP12.1); clear HP12; replace HB := Aside0.mk ((by rw [hw]; exact below_set (HB.out) GB5.out : Below w0.heap.size w0 w13)); replace HK := Aside0.mk (Kept.of_grown (S := (fun k_ => P0_ k_)) hg (by repeat (first | (with_reducible first | exact HK.out | apply Kept.alloc | apply Kept.drewN | apply Kept.drew) | exact HK.out)) (fun k_ e_ => (HO_0.out.1 k_ e_))); replace HO_0 := Aside0.mk (hp_); clear hg hw hp_; have p6 : 0 ≤ (x5_1 : Int) := of_decide_eq_true am; have q6 : (x5_1 : Int) < ((x0_1.length : Int) : Int) := of_decide_eq_true am; obtain ⟨ce6, hcl6, hM6, hcc6, hfr6⟩ := Kd.R_elem HO_0.out z83 (x5_1 : Int) p6 q6; obtain rfl := k83_openM hM6; have hx6_0 : w13.cell? ⟨go5, (x5_1 : Int).toNat * 5, none⟩ = some (.int .i64 ((rd_T83 y251 x5_1).f0)) := hcc6 0 _ rfl; have hx6_1 : w13.cell? ⟨go5, (x5_1 : Int).toNat * 5 + 1, none⟩ = some (.int .i64 ((rd_T83 y251 x5_1).f1)) := hcc6 1 _ rfl; have hx6_2 : w13.cell? ⟨go5, (x5_1 : Int).toNat * 5 + 2, none⟩ = some (.int .i64 ((rd_T83 y251 x5_1).f2)) := hcc6 2 _ rfl; have hx6_3 : w13.cell? ⟨go5, (x5_1 : Int).toNat * 5 + 3, none⟩ = some (.int .i64 ((rd_T83 y251 x5_1).f3)) := hcc6 3 _ rfl; have hx6_4 : w13.cell? ⟨go5, (x5_1 : Int).toNat * 5 + 4, none⟩ = some (.string ((rd_T83 y251 x5_1).f4)) := hcc6 4 _ rfl; have hf6_0 : w13.frozen? ⟨go5, (x5_1 : Int).toNat * 5, none⟩ = false := hfr6 0; have hf6_1 : w13.frozen? ⟨go5, (x5_1 : Int).toNat * 5 + 1, none⟩ = false := hfr6 1; have hf6_2 : w13.frozen? ⟨go5, (x5_1 : Int).toNat * 5 + 2, none⟩ = false := hfr6 2; have hf6_3 : w13.frozen? ⟨go5, (x5_1 : Int).toNat * 5 + 3, none⟩ = false := hfr6 3; have hf6_4 : w13.frozen? ⟨go5, (x5_1 : Int).toNat * 5 + 4, none⟩ = false := hfr6 4; clear hcl6 hcc6 hfr6 hM6; replace p6 := eq_true p6; replace q6 := eq_true q6; have HX14 := Aside0.mk (show Kd.R k83 83 w13 w0.heap.size (fun k_ => (P0_ k_ ∨ w.heap.size ≤ k_)) (.slice (some ⟨go5, 0, none⟩) x0_1.length co11) y251 from (by (with_reducible repeat (first | apply Kd.R_alloc | apply Kd.R_drewN | apply Kd.R_drew)); exact HO_0.out)); obtain ⟨ce14, hcl14, hM14, hcc14, hfr14⟩ := Kd.R_elem HX14.out z83 (x5_1 : Int) (of_decide_eq_true am) (by have h_ : (x5_1 : Int) < ((x0_1.length : Int) : Int) := of_decide_eq_true am; first | exact h_ | (have e_ := (Kd.R_reads' HO_0.out).1; omega) | simpa using h_); obtain rfl := k83_openM hM14; have HP14 := Kd.R_seg HX14.out (x5_1 : Int) (of_decide_eq_true am) (by have h_ : (x5_1 : Int) < ((x0_1.length : Int) : Int) := of_decide_eq_true am; first | exact h_ | (have e_ := (Kd.R_reads' HO_0.out).1; omega) | simpa using h_) (seg := [.int .i64 (wrap64 (x1_1 + 1))]) (j := 1) hcl14 hcc14 (show 2 ≤ 5 from by decide) (x' := (⟨(rd_T83 y251 x5_1).f0, wrap64 (x1_1 + 1), (rd_T83 y251 x5_1).f2, (rd_T83 y251 x5_1).f3, (rd_T83 y251 x5_1).f4⟩ : S83)) (k83_mkM _ _ _ (⟨(rd_T83 y251 x5_1).f0, wrap64 (x1_1 + 1), (rd_T83 y251 x5_1).f2, (rd_T83 y251 x5_1).f3, (rd_T83 y251 x5_1).f4⟩ : S83) ) (fun _ hk => hk); have hx14_1 := hcc14 1 _ rfl; (try simp only [show (k83).sz = 5 from rfl, Nat.mul_one, Nat.add_zero] at hx14_1); have hf14_1 := hfr14 1; (try simp only [show (k83).sz = 5 from rfl, Nat.mul_one, Nat.add_zero] at hf14_1); clear hcl14 hcc14 hfr14 hM14) | ((with_reducible refine gate_store (t := 3) (p := 23) rfl ?_); refine store_event (t := 3) (p := 23) (v := ?vo_w15) (w1 := (w13.setCell ⟨go5, (x5_1 : Int).toNat * 5 + 1, none⟩ (.int .i64 (wrap64 (x1_1 + 1))))) ?hg ?ho ?hn ?hr ?_; (case ho => rfl); (case hg => rfl); (case hn => rfl); (case hr => first | (go_simp; done) | (go_simp; rfl)); intro w15 hw; have hg : w13.grownBy w15 (some go5) := (by rw [hw]; exact HP14.2); have hp_ : Kd.R k83 83 w15 w0.heap.size (fun k_ => (P0_ k_ ∨ w.heap.size ≤ k_)) (.slice (some ⟨go5, 0, none⟩) x0_1.length co11) y252 := (by rw [hw, Ny252.out]; exact HP14.1); clear HP14; replace HB := Aside0.mk ((by rw [hw]; exact below_set (HB.out) GB5.out : Below w0.heap.size w0 w15)); replace HK := Aside0.mk (Kept.of_grown (S := (fun k_ => P0_ k_)) hg (by repeat (first | (with_reducible first | exact HK.out | apply Kept.alloc | apply Kept.drewN | apply Kept.drew) | exact HK.out)) (fun k_ e_ => (HO_0.out.1 k_ e_))); replace HO_0 := Aside0.mk (hp_); clear hg hw hp_; have p7 : 0 ≤ (x5_1 : Int) := of_decide_eq_true am; have q7 : (x5_1 : Int) < ((x0_1.length : Int) : Int) := of_decide_eq_true am; obtain ⟨ce7, hcl7, hM7, hcc7, hfr7⟩ := Kd.R_elem HO_0.out z83 (x5_1 : Int) p7 q7; obtain rfl := k83_openM hM7; have hx7_0 : w15.cell? ⟨go5, (x5_1 : Int).toNat * 5, none⟩ = some (.int .i64 ((rd_T83 y252 x5_1).f0)) := hcc7 0 _ rfl; have hx7_1 : w15.cell? ⟨go5, (x5_1 : Int).toNat * 5 + 1, none⟩ = some (.int .i64 ((rd_T83 y252 x5_1).f1)) := hcc7 1 _ rfl; have hx7_2 : w15.cell? ⟨go5, (x5_1 : Int).toNat * 5 + 2, none⟩ = some (.int .i64 ((rd_T83 y252 x5_1).f2)) := hcc7 2 _ rfl; have hx7_3 : w15.cell? ⟨go5, (x5_1 : Int).toNat * 5 + 3, none⟩ = some (.int .i64 ((rd_T83 y252 x5_1).f3)) := hcc7 3 _ rfl; have hx7_4 : w15.cell? ⟨go5, (x5_1 : Int).toNat * 5 + 4, none⟩ = some (.string ((rd_T83 y252 x5_1).f4)) := hcc7 4 _ rfl; have hf7_0 : w15.frozen? ⟨go5, (x5_1 : Int).toNat * 5, none⟩ = false := hfr7 0; have hf7_1 : w15.frozen? ⟨go5, (x5_1 : Int).toNat * 5 + 1, none⟩ = false := hfr7 1; have hf7_2 : w15.frozen? ⟨go5, (x5_1 : Int).toNat * 5 + 2, none⟩ = false := hfr7 2; have hf7_3 : w15.frozen? ⟨go5, (x5_1 : Int).toNat * 5 + 3, none⟩ = false := hfr7 3; have hf7_4 : w15.frozen? ⟨go5, (x5_1 : Int).toNat * 5 + 4, none⟩ = false := hfr7 4; clear hcl7 hcc7 hfr7 hM7; replace p7 := eq_true p7; replace q7 := eq_true q7; have HX16 := Aside0.mk (show Kd.R k83 83 w15 w0.heap.size (fun k_ => (P0_ k_ ∨ w.heap.size ≤ k_)) (.slice (some ⟨go5, 0, none⟩) x0_1.length co11) y252 from (by (with_reducible repeat (first | apply Kd.R_alloc | apply Kd.R_drewN | apply Kd.R_drew)); exact HO_0.out)); obtain ⟨ce16, hcl16, hM16, hcc16, hfr16⟩ := Kd.R_elem HX16.out z83 (x5_1 : Int) (of_decide_eq_true am) (by have h_ : (x5_1 : Int) < ((x0_1.length : Int) : Int) := of_decide_eq_true am; first | exact h_ | (have e_ := (Kd.R_reads' HO_0.out).1; omega) | simpa using h_); obtain rfl := k83_openM hM16; have HP16 := Kd.R_seg HX16.out (x5_1 : Int) (of_decide_eq_true am) (by have h_ : (x5_1 : Int) < ((x0_1.length : Int) : Int) := of_decide_eq_true am; first | exact h_ | (have e_ := (Kd.R_reads' HO_0.out).1; omega) | simpa using h_) (seg := [.int .i64 (wrap64 ((wrap64 (x1_1 + 1)) + 1))]) (j := 2) hcl16 hcc16 (show 3 ≤ 5 from by decide) (x' := (⟨(rd_T83 y252 x5_1).f0, (rd_T83 y252 x5_1).f1, wrap64 ((wrap64 (x1_1 + 1)) + 1), (rd_T83 y252 x5_1).f3, (rd_T83 y252 x5_1).f4⟩ : S83)) (k83_mkM _ _ _ (⟨(rd_T83 y252 x5_1).f0, (rd_T83 y252 x5_1).f1, wrap64 ((wrap64 (x1_1 + 1)) + 1), (rd_T83 y252 x5_1).f3, (rd_T83 y252 x5_1).f4⟩ : S83) ) (fun _ hk => hk); have hx16_2 := hcc16 2 _ rfl; (try simp only [show (k83).sz = 5 from rfl, Nat.mul_one, Nat.add_zero] at hx16_2); have hf16_2 := hfr16 2; (try simp only [show (k83).sz = 5 from rfl, Nat.mul_one, Nat.add_zero] at hf16_2); clear hcl16 hcc16 hfr16 hM16) | ((with_reducible refine gate_store (t := 3) (p := 30) rfl ?_); refine store_event (t := 3) (p := 30) (v := ?vo_w17) (w1 := (w15.setCell ⟨go5, (x5_1 : Int).toNat * 5 + 2, none⟩ (.int .i64 (wrap64 ((wrap64 (x1_1 + 1)) + 1))))) ?hg ?ho ?hn ?hr ?_; (case ho => rfl); (case hg => rfl); (case hn => rfl); (case hr => first | (go_simp; done) | (go_simp; rfl)); intro w17 hw; have hg : w15.grownBy w17 (some go5) := (by rw [hw]; exact HP16.2); have hp_ : Kd.R k83 83 w17 w0.heap.size (fun k_ => (P0_ k_ ∨ w.heap.size ≤ k_)) (.slice (some ⟨go5, 0, none⟩) x0_1.length co11) y253 := (by rw [hw, Ny253.out]; exact HP16.1); clear HP16; replace HB := Aside0.mk ((by rw [hw]; exact below_set (HB.out) GB5.out : Below w0.heap.size w0 w17)); replace HK := Aside0.mk (Kept.of_grown (S := (fun k_ => P0_ k_)) hg (by repeat (first | (with_reducible first | exact HK.out | apply Kept.alloc | apply Kept.drewN | apply Kept.drew) | exact HK.out)) (fun k_ e_ => (HO_0.out.1 k_ e_))); replace HO_0 := Aside0.mk (hp_); clear hg hw hp_; have p8 : 0 ≤ (x5_1 : Int) := of_decide_eq_true am; have q8 : (x5_1 : Int) < ((x0_1.length : Int) : Int) := of_decide_eq_true am; obtain ⟨ce8, hcl8, hM8, hcc8, hfr8⟩ := Kd.R_elem HO_0.out z83 (x5_1 : Int) p8 q8; obtain rfl := k83_openM hM8; have hx8_0 : w17.cell? ⟨go5, (x5_1 : Int).toNat * 5, none⟩ = some (.int .i64 ((rd_T83 y253 x5_1).f0)) := hcc8 0 _ rfl; have hx8_1 : w17.cell? ⟨go5, (x5_1 : Int).toNat * 5 + 1, none⟩ = some (.int .i64 ((rd_T83 y253 x5_1).f1)) := hcc8 1 _ rfl; have hx8_2 : w17.cell? ⟨go5, (x5_1 : Int).toNat * 5 + 2, none⟩ = some (.int .i64 ((rd_T83 y253 x5_1).f2)) := hcc8 2 _ rfl; have hx8_3 : w17.cell? ⟨go5, (x5_1 : Int).toNat * 5 + 3, none⟩ = some (.int .i64 ((rd_T83 y253 x5_1).f3)) := hcc8 3 _ rfl; have hx8_4 : w17.cell? ⟨go5, (x5_1 : Int).toNat * 5 + 4, none⟩ = some (.string ((rd_T83 y253 x5_1).f4)) := hcc8 4 _ rfl; have hf8_0 : w17.frozen? ⟨go5, (x5_1 : Int).toNat * 5, none⟩ = false := hfr8 0; have hf8_1 : w17.frozen? ⟨go5, (x5_1 : Int).toNat * 5 + 1, none⟩ = false := hfr8 1; have hf8_2 : w17.frozen? ⟨go5, (x5_1 : Int).toNat * 5 + 2, none⟩ = false := hfr8 2; have hf8_3 : w17.frozen? ⟨go5, (x5_1 : Int).toNat * 5 + 3, none⟩ = false := hfr8 3; have hf8_4 : w17.frozen? ⟨go5, (x5_1 : Int).toNat * 5 + 4, none⟩ = false := hfr8 4; clear hcl8 hcc8 hfr8 hM8; replace p8 := eq_true p8; replace q8 := eq_true q8; have HX18 := Aside0.mk (show Kd.R k83 83 w17 w0.heap.size (fun k_ => (P0_ k_ ∨ w.heap.size ≤ k_)) (.slice (some ⟨go5, 0, none⟩) x0_1.length co11) y253 from (by (with_reducible repeat (first | apply Kd.R_alloc | apply Kd.R_drewN | apply Kd.R_drew)); exact HO_0.out)); obtain ⟨ce18, hcl18, hM18, hcc18, hfr18⟩ := Kd.R_elem HX18.out z83 (x5_1 : Int) (of_decide_eq_true am) (by have h_ : (x5_1 : Int) < ((x0_1.length : Int) : Int) := of_decide_eq_true am; first | exact h_ | (have e_ := (Kd.R_reads' HO_0.out).1; omega) | simpa using h_); obtain rfl := k83_openM hM18; have HP18 := Kd.R_seg HX18.out (x5_1 : Int) (of_decide_eq_true am) (by have h_ : (x5_1 : Int) < ((x0_1.length : Int) : Int) := of_decide_eq_true am; first | exact h_ | (have e_ := (Kd.R_reads' HO_0.out).1; omega) | simpa using h_) (seg := [.int .i64 (wrap64 ((wrap64 ((wrap64 (x1_1 + 1)) + 1)) + 1))]) (j := 3) hcl18 hcc18 (show 4 ≤ 5 from by decide) (x' := (⟨(rd_T83 y253 x5_1).f0, (rd_T83 y253 x5_1).f1, (rd_T83 y253 x5_1).f2, wrap64 ((wrap64 ((wrap64 (x1_1 + 1)) + 1)) + 1), (rd_T83 y253 x5_1).f4⟩ : S83)) (k83_mkM _ _ _ (⟨(rd_T83 y253 x5_1).f0, (rd_T83 y253 x5_1).f1, (rd_T83 y253 x5_1).f2, wrap64 ((wrap64 ((wrap64 (x1_1 + 1)) + 1)) + 1), (rd_T83 y253 x5_1).f4⟩ : S83) ) (fun _ hk => hk); have hx18_3 := hcc18 3 _ rfl; (try simp only [show (k83).sz = 5 from rfl, Nat.mul_one, Nat.add_zero] at hx18_3); have hf18_3 := hfr18 3; (try simp only [show (k83).sz = 5 from rfl, Nat.mul_one, Nat.add_zero] at hf18_3); clear hcl18 hcc18 hfr18 hM18) | ((with_reducible refine gate_store (t := 3) (p := 37) rfl ?_); refine store_event (t := 3) (p := 37) (v := ?vo_w19) (w1 := (w17.setCell ⟨go5, (x5_1 : Int).toNat * 5 + 3, none⟩ (.int .i64 (wrap64 ((wrap64 ((wrap64 (x1_1 + 1)) + 1)) + 1))))) ?hg ?ho ?hn ?hr ?_; (case ho => rfl); (case hg => rfl); (case hn => rfl); (case hr => first | (go_simp; done) | (go_simp; rfl)); intro w19 hw; have hg : w17.grownBy w19 (some go5) := (by rw [hw]; exact HP18.2); have hp_ : Kd.R k83 83 w19 w0.heap.size (fun k_ => (P0_ k_ ∨ w.heap.size ≤ k_)) (.slice (some ⟨go5, 0, none⟩) x0_1.length co11) y254 := (by rw [hw, Ny254.out]; exact HP18.1); clear HP18; replace HB := Aside0.mk ((by rw [hw]; exact below_set (HB.out) GB5.out : Below w0.heap.size w0 w19)); replace HK := Aside0.mk (Kept.of_grown (S := (fun k_ => P0_ k_)) hg (by repeat (first | (with_reducible first | exact HK.out | apply Kept.alloc | apply Kept.drewN | apply Kept.drew) | exact HK.out)) (fun k_ e_ => (HO_0.out.1 k_ e_))); replace HO_0 := Aside0.mk (hp_); clear hg hw hp_) | ((with_reducible refine gC 116 rfl ?_); refine goesZ (some 43) rfl Try.func116 #[.int .i64 (wrap64 ((wrap64 ((wrap64 ((wrap64 (x1_1 + 1)) + 1)) + 1)) + 1))] ?_; (with_reducible refine (laws_markText.calls k1 (wrap64 ((wrap64 ((wrap64 ((wrap64 (x1_1 + 1)) + 1)) + 1)) + 1)) t255 _ A9.out).mono ?_); rintro e w20 ⟨rfl, hb⟩; refine ⟨_, rfl, ?_⟩; replace HO_0 := Aside0.mk (Kd.R_below (by (with_reducible repeat (first | apply Kd.R_alloc | apply Kd.R_drewN | apply Kd.R_drew)); exact HO_0.out) hb); replace HK := Aside0.mk (Kept.below (S := (fun k_ => P0_ k_)) (by repeat (first | (with_reducible first | exact HK.out | apply Kept.alloc | apply Kept.drewN | apply Kept.drew) | exact HK.out)) hb); replace HB := bs (w := w0) hb; (try clear hb); (try clear hb2); (try clear hk); (try clear hi); have p10 : 0 ≤ (x5_1 : Int) := of_decide_eq_true am; have q10 : (x5_1 : Int) < ((x0_1.length : Int) : Int) := of_decide_eq_true am; obtain ⟨ce10, hcl10, hM10, hcc10, hfr10⟩ := Kd.R_elem HO_0.out z83 (x5_1 : Int) p10 q10; obtain rfl := k83_openM hM10; have hx10_0 : w20.cell? ⟨go5, (x5_1 : Int).toNat * 5, none⟩ = some (.int .i64 ((rd_T83 y254 x5_1).f0)) := hcc10 0 _ rfl; have hx10_1 : w20.cell? ⟨go5, (x5_1 : Int).toNat * 5 + 1, none⟩ = some (.int .i64 ((rd_T83 y254 x5_1).f1)) := hcc10 1 _ rfl; have hx10_2 : w20.cell? ⟨go5, (x5_1 : Int).toNat * 5 + 2, none⟩ = some (.int .i64 ((rd_T83 y254 x5_1).f2)) := hcc10 2 _ rfl; have hx10_3 : w20.cell? ⟨go5, (x5_1 : Int).toNat * 5 + 3, none⟩ = some (.int .i64 ((rd_T83 y254 x5_1).f3)) := hcc10 3 _ rfl; have hx10_4 : w20.cell? ⟨go5, (x5_1 : Int).toNat * 5 + 4, none⟩ = some (.string ((rd_T83 y254 x5_1).f4)) := hcc10 4 _ rfl; have hf10_0 : w20.frozen? ⟨go5, (x5_1 : Int).toNat * 5, none⟩ = false := hfr10 0; have hf10_1 : w20.frozen? ⟨go5, (x5_1 : Int).toNat * 5 + 1, none⟩ = false := hfr10 1; have hf10_2 : w20.frozen? ⟨go5, (x5_1 : Int).toNat * 5 + 2, none⟩ = false := hfr10 2; have hf10_3 : w20.frozen? ⟨go5, (x5_1 : Int).toNat * 5 + 3, none⟩ = false := hfr10 3; have hf10_4 : w20.frozen? ⟨go5, (x5_1 : Int).toNat * 5 + 4, none⟩ = false := hfr10 4; clear hcl10 hcc10 hfr10 hM10; replace p10 := eq_true p10; replace q10 := eq_true q10; have HX21 := Aside0.mk (show Kd.R k83 83 w20 w0.heap.size (fun k_ => (P0_ k_ ∨ w.heap.size ≤ k_)) (.slice (some ⟨go5, 0, none⟩) x0_1.length co11) y254 from (by (with_reducible repeat (first | apply Kd.R_alloc | apply Kd.R_drewN | apply Kd.R_drew)); exact HO_0.out)); obtain ⟨ce21, hcl21, hM21, hcc21, hfr21⟩ := Kd.R_elem HX21.out z83 (x5_1 : Int) (of_decide_eq_true am) (by have h_ : (x5_1 : Int) < ((x0_1.length : Int) : Int) := of_decide_eq_true am; first | exact h_ | (have e_ := (Kd.R_reads' HO_0.out).1; omega) | simpa using h_); obtain rfl := k83_openM hM21; have HP21 := Kd.R_seg HX21.out (x5_1 : Int) (of_decide_eq_true am) (by have h_ : (x5_1 : Int) < ((x0_1.length : Int) : Int) := of_decide_eq_true am; first | exact h_ | (have e_ := (Kd.R_reads' HO_0.out).1; omega) | simpa using h_) (seg := [.string t255]) (j := 4) hcl21 hcc21 (show 5 ≤ 5 from by decide) (x' := (⟨(rd_T83 y254 x5_1).f0, (rd_T83 y254 x5_1).f1, (rd_T83 y254 x5_1).f2, (rd_T83 y254 x5_1).f3, t255⟩ : S83)) (k83_mkM _ _ _ (⟨(rd_T83 y254 x5_1).f0, (rd_T83 y254 x5_1).f1, (rd_T83 y254 x5_1).f2, (rd_T83 y254 x5_1).f3, t255⟩ : S83) ) (fun _ hk => hk); have hx21_4 := hcc21 4 _ rfl; (try simp only [show (k83).sz = 5 from rfl, Nat.mul_one, Nat.add_zero] at hx21_4); have hf21_4 := hfr21 4; (try simp only [show (k83).sz = 5 from rfl, Nat.mul_one, Nat.add_zero] at hf21_4); clear hcl21 hcc21 hfr21 hM21) | ((with_reducible refine gate_store (t := 9) (p := 45) rfl ?_); refine store_event (t := 9) (p := 45) (v := ?vo_w22) (w1 := (w20.setCell ⟨go5, (x5_1 : Int).toNat * 5 + 4, none⟩ (.string t255))) ?hg ?ho ?hn ?hr ?_; (case ho => rfl); (case hg => rfl); (case hn => rfl); (case hr => first | (go_simp; done) | (go_simp; rfl)); intro w22 hw; have hg : w20.grownBy w22 (some go5) := (by rw [hw]; exact HP21.2); have hp_ : Kd.R k83 83 w22 w0.heap.size (fun k_ => (P0_ k_ ∨ w.heap.size ≤ k_)) (.slice (some ⟨go5, 0, none⟩) x0_1.length co11) y256 := (by rw [hw, Ny256.out]; exact HP21.1); clear HP21; replace HB := Aside0.mk ((by rw [hw]; exact below_set (HB.out) GB5.out : Below w0.heap.size w0 w22)); replace HK := Aside0.mk (Kept.of_grown (S := (fun k_ => P0_ k_)) hg (by repeat (first | (with_reducible first | exact HK.out | apply Kept.alloc | apply Kept.drewN | apply Kept.drew) | exact HK.out)) (fun k_ e_ => (HO_0.out.1 k_ e_))); replace HO_0 := Aside0.mk (hp_); clear hg hw hp_))
     go_roundg k1
     case measure => have := HK1.out; omega
     case rel => exact ⟨(y256), (wrap64 ((wrap64 ((wrap64 ((wrap64 ((wrap64 (x1_1 + 1)) + 1)) + 1)) + 1)) + 1)), (wrap64 (x5_1 + 1)), fa, fa, H', ⟨by have := HK1.out; omega⟩, ⟨by (with_reducible repeat (first | apply Kd.R_alloc | apply Kd.R_drewN | apply Kd.R_drew)); exact HO_0.out⟩, ⟨by repeat (first | (with_reducible first | exact HK.out | apply Kept.alloc | apply Kept.drewN | apply Kept.drew) | exact HK.out)⟩, ⟨bl⟩⟩
    ·rw [if_neg c4] at H
     exact absurd H (by simp)
   ·rw [if_neg c3] at H
    have c3b0 : decide (x5_1 < (x0_1.length : Int)) = false := decide_eq_false c3
    clear c3
    simp only [Option.some.injEq, Prod.mk.injEq] at H
    obtain ⟨rfl, rfl⟩ := H
    obtain ⟨Ao23, co23, eo23⟩ := Kd.R_slice HO_0.out
    subst eo23
    go_wp2
    go_ret
    exact ⟨fe, by (with_reducible repeat (first | apply Kd.R_alloc | apply Kd.R_drewN | apply Kd.R_drew)); exact HO_0.out, bl, by repeat (first | (with_reducible first | exact HK.out | apply Kept.alloc | apply Kept.drewN | apply Kept.drew) | exact HK.out)⟩

/-! ### laws_heldRecS: function 65 -/
def laws_heldRecS.l0 : Nat → List (S83) → Int → Int → Option (Int)
 | 0, _, _, _ => none
 | k + 1, x0, x1, x5 => if x5 < (x0.length : Int) then (if 0 ≤ x5 then (if ((rd_T83 x0 x5).f0) = x1 then (if ((rd_T83 x0 x5).f1) = (wrap64 (x1 + 1)) then (if ((rd_T83 x0 x5).f2) = (wrap64 ((wrap64 (x1 + 1)) + 1)) then (if ((rd_T83 x0 x5).f3) = (wrap64 ((wrap64 ((wrap64 (x1 + 1)) + 1)) + 1)) then ((laws_markText.f k (wrap64 ((wrap64 ((wrap64 ((wrap64 (x1 + 1)) + 1)) + 1)) + 1))).bind fun t262 => (if ((rd_T83 x0 x5).f4).toList = t262.toList then (laws_heldRecS.l0 k x0 (wrap64 ((wrap64 ((wrap64 ((wrap64 ((wrap64 (x1 + 1)) + 1)) + 1)) + 1)) + 1)) (wrap64 (x5 + 1))) else (some (-1)))) else (some (-1))) else (some (-1))) else (some (-1))) else (some (-1))) else (none)) else (some x1)
def laws_heldRecS.f (k : Nat) (l0 : List (S83)) (a1 : Int) : Option (Int) := laws_heldRecS.l0 k l0 a1 0
theorem laws_heldRecS.mono_l : ∀ k, (∀ y0 y1 y2, LeO (laws_heldRecS.l0 k y0 y1 y2) (laws_heldRecS.l0 (k + 1) y0 y1 y2))
 | 0 => fun _ _ _ r h => by simp [laws_heldRecS.l0] at h
 | k + 1 => by
  have ih0 := laws_heldRecS.mono_l k
  ·intro y0 y1 y2
   unfold laws_heldRecS.l0
   repeat' first
   | (with_reducible exact ih0 _ _ _)
   | (with_reducible exact laws_markText.mono _ _)
   | (with_reducible exact LeO.refl _)
   | (with_reducible exact LeO.none _)
   | (with_reducible refine LeO.ite ?_ ?_)
   | (with_reducible refine LeO.bind ?_ (fun _ => ?_))
   | exact ih0 _ _ _
   | exact laws_markText.mono _ _
   | exact LeO.none _
   | refine LeO.ite ?_ ?_
   | refine LeO.bind ?_ (fun _ => ?_)
theorem laws_heldRecS.mono : ∀ a0 a1 k, LeO (laws_heldRecS.f k a0 a1) (laws_heldRecS.f (k + 1) a0 a1) := by
 intro a0 a1 k
 have ih0 := laws_heldRecS.mono_l k
 unfold laws_heldRecS.f
 repeat' first
  | (with_reducible exact ih0 _ _ _)
  | (with_reducible exact laws_markText.mono _ _)
  | (with_reducible exact LeO.refl _)
  | (with_reducible exact LeO.none _)
  | (with_reducible refine LeO.ite ?_ ?_)
  | (with_reducible refine LeO.bind ?_ (fun _ => ?_))
  | exact ih0 _ _ _
  | exact laws_markText.mono _ _
  | exact LeO.none _
  | refine LeO.ite ?_ ?_
  | refine LeO.bind ?_ (fun _ => ?_)
def laws_heldRecS.T16 : Bool × List (List Nat × List Nat) := (true, [([], []), ([], []), ([0, 1], [0, 1]), ([2], [2]), ([3], [3]), ([], []), ([5], [5]), ([4, 6], [4, 6])])
def laws_heldRecS.B16 : List Nat := [0, 0, 3, 7, 15, 0, 32, 127]
theorem laws_heldRecS.tab16 : rtab .any (opsOf Try.f65 16) = laws_heldRecS.T16 := by kernel_rfl
theorem laws_heldRecS.bits16 : waitsOk laws_heldRecS.T16.2 laws_heldRecS.B16 = true := by kernel_rfl
set_option maxHeartbeats 8000000 in
set_option maxRecDepth 100000 in
theorem laws_heldRecS.calls (k : Nat) (A0 : Option Addr) (c0 : Nat) (l0 : List (S83)) (a1 : Int) (r : Int) (w : World) (hr0 : Kd.C k83 w A0 l0.length l0) (hc0 : l0.length ≤ c0) (h : laws_heldRecS.f k l0 a1 = some r) :
 Calls Try.prog 65 #[.slice A0 l0.length c0, .int .i64 a1] w fun e w' => e = .returned (.int .i64 r) ∧ Below w.heap.size w w' := by
 have HR0 := Aside0.mk hr0
 have HC0 := Aside0.mk hc0
 clear hr0 hc0
 have HB := Aside0.mk (Below.refl w.heap.size w)
 have H : (laws_heldRecS.l0 k l0 a1 0) = some r := h
 clear h
 have H' := Aside0.mk H
 clear H
 go_enter Try.func65, Try.ntmps65
 go_wp2
 go_loopg [1, 5] k (fun kq v1 v5 w' => ∃ (x1_1 : Int) (x5_1 : Int), v1 = .int .i64 x1_1 ∧ v5 = .int .i64 x5_1 ∧ Aside0 (laws_heldRecS.l0 kq l0 x1_1 x5_1 = some r) ∧ Aside0 (kq ≤ k) ∧ Aside0 (Below w.heap.size w w'))
 case atStart => exact ⟨(a1), (0), fa, fa, H', ⟨Nat.le_refl _⟩, ⟨bl⟩⟩
 case round =>
  clear H'
  try clear p2
  obtain ⟨x1_1, x5_1, rfl, rfl, HA, HK1, HB⟩ := hrel
  cases gk with
  | zero => exact absurd HA.out (by simp [laws_heldRecS.l0])
  | succ k1 =>
   have H := HA.out
   clear HA
   simp only [laws_heldRecS.l0] at H
   by_cases c3 : x5_1 < (l0.length : Int)
   ·rw [if_pos c3] at H
    have c3b0 : decide (x5_1 < (l0.length : Int)) = true := decide_eq_true c3
    clear c3
    by_cases c4 : 0 ≤ x5_1
    ·rw [if_pos c4] at H
     have c4b0 : decide (0 ≤ x5_1) = true := decide_eq_true c4
     clear c4
     by_cases c5 : ((rd_T83 l0 x5_1).f0) = x1_1
     ·rw [if_pos c5] at H
      have c5b0 : (((rd_T83 l0 x5_1).f0) == x1_1) = true := beq_iff_eq.mpr c5
      have c5b1 : (((rd_T83 l0 x5_1).f0) != x1_1) = false := bne_eq_false_iff_eq.mpr c5
      clear c5
      by_cases c6 : ((rd_T83 l0 x5_1).f1) = (wrap64 (x1_1 + 1))
      ·rw [if_pos c6] at H
       have c6b0 : (((rd_T83 l0 x5_1).f1) == (wrap64 (x1_1 + 1))) = true := beq_iff_eq.mpr c6
       have c6b1 : (((rd_T83 l0 x5_1).f1) != (wrap64 (x1_1 + 1))) = false := bne_eq_false_iff_eq.mpr c6
       clear c6
       by_cases c7 : ((rd_T83 l0 x5_1).f2) = (wrap64 ((wrap64 (x1_1 + 1)) + 1))
       ·rw [if_pos c7] at H
        have c7b0 : (((rd_T83 l0 x5_1).f2) == (wrap64 ((wrap64 (x1_1 + 1)) + 1))) = true := beq_iff_eq.mpr c7
        have c7b1 : (((rd_T83 l0 x5_1).f2) != (wrap64 ((wrap64 (x1_1 + 1)) + 1))) = false := bne_eq_false_iff_eq.mpr c7
        clear c7
        by_cases c8 : ((rd_T83 l0 x5_1).f3) = (wrap64 ((wrap64 ((wrap64 (x1_1 + 1)) + 1)) + 1))
        ·rw [if_pos c8] at H
         have c8b0 : (((rd_T83 l0 x5_1).f3) == (wrap64 ((wrap64 ((wrap64 (x1_1 + 1)) + 1)) + 1))) = true := beq_iff_eq.mpr c8
         have c8b1 : (((rd_T83 l0 x5_1).f3) != (wrap64 ((wrap64 ((wrap64 (x1_1 + 1)) + 1)) + 1))) = false := bne_eq_false_iff_eq.mpr c8
         clear c8
         obtain ⟨t262, A9, H⟩ := bd H
         by_cases c10 : ((rd_T83 l0 x5_1).f4).toList = t262.toList
         ·rw [if_pos c10] at H
          have c10b0 : (((rd_T83 l0 x5_1).f4).toList == t262.toList) = true := beq_iff_eq.mpr c10
          have c10b1 : (((rd_T83 l0 x5_1).f4).toList != t262.toList) = false := bne_eq_false_iff_eq.mpr c10
          clear c10
          have H' := Aside0.mk H
          clear H
          have p257 : 0 ≤ (x5_1 : Int) := of_decide_eq_true am
          have q257 : x5_1 < (l0.length : Int) := of_decide_eq_true am
          obtain ⟨ad257, e257, hx257_0, hx257_1, hx257_2, hx257_3, hx257_4⟩ := at_T83 HR0.out x5_1 p257 q257
          cases e257
          replace hx257_0 := cz HB hx257_0
          replace hx257_1 := cz HB hx257_1
          replace hx257_2 := cz HB hx257_2
          replace hx257_3 := cz HB hx257_3
          replace hx257_4 := cz HB hx257_4
          replace p257 := eq_true p257
          replace q257 := eq_true q257
          have p258 : 0 ≤ (x5_1 : Int) := of_decide_eq_true am
          have q258 : x5_1 < (l0.length : Int) := of_decide_eq_true am
          obtain ⟨ad258, e258, hx258_0, hx258_1, hx258_2, hx258_3, hx258_4⟩ := at_T83 HR0.out x5_1 p258 q258
          obtain rfl : ad257 = ad258 := (by injection e258)
          replace hx258_0 := cz HB hx258_0
          replace hx258_1 := cz HB hx258_1
          replace hx258_2 := cz HB hx258_2
          replace hx258_3 := cz HB hx258_3
          replace hx258_4 := cz HB hx258_4
          replace p258 := eq_true p258
          replace q258 := eq_true q258
          have p259 : 0 ≤ (x5_1 : Int) := of_decide_eq_true am
          have q259 : x5_1 < (l0.length : Int) := of_decide_eq_true am
          obtain ⟨ad259, e259, hx259_0, hx259_1, hx259_2, hx259_3, hx259_4⟩ := at_T83 HR0.out x5_1 p259 q259
          obtain rfl : ad257 = ad259 := (by injection e259)
          replace hx259_0 := cz HB hx259_0
          replace hx259_1 := cz HB hx259_1
          replace hx259_2 := cz HB hx259_2
          replace hx259_3 := cz HB hx259_3
          replace hx259_4 := cz HB hx259_4
          replace p259 := eq_true p259
          replace q259 := eq_true q259
          have p260 : 0 ≤ (x5_1 : Int) := of_decide_eq_true am
          have q260 : x5_1 < (l0.length : Int) := of_decide_eq_true am
          obtain ⟨ad260, e260, hx260_0, hx260_1, hx260_2, hx260_3, hx260_4⟩ := at_T83 HR0.out x5_1 p260 q260
          obtain rfl : ad257 = ad260 := (by injection e260)
          replace hx260_0 := cz HB hx260_0
          replace hx260_1 := cz HB hx260_1
          replace hx260_2 := cz HB hx260_2
          replace hx260_3 := cz HB hx260_3
          replace hx260_4 := cz HB hx260_4
          replace p260 := eq_true p260
          replace q260 := eq_true q260
          try go_wp2
          have n0_ := Aside0.mk (below_drew1 HB.out)
          clear HB
          have HB := n0_
          clear n0_
          have p261 : 0 ≤ (x5_1 : Int) := of_decide_eq_true am
          have q261 : x5_1 < (l0.length : Int) := of_decide_eq_true am
          obtain ⟨ad261, e261, hx261_0, hx261_1, hx261_2, hx261_3, hx261_4⟩ := at_T83 HR0.out x5_1 p261 q261
          have hw261_4 := hx261_4
          have hw261_3 := hx261_3
          have hw261_2 := hx261_2
          have hw261_1 := hx261_1
          have hw261_0 := hx261_0
          obtain rfl : ad257 = ad261 := (by injection e261)
          replace hx261_0 := cz HB hx261_0
          replace hx261_1 := cz HB hx261_1
          replace hx261_2 := cz HB hx261_2
          replace hx261_3 := cz HB hx261_3
          replace hx261_4 := cz HB hx261_4
          replace p261 := eq_true p261
          replace q261 := eq_true q261
          refine start_ (n := 8) (S := fun w' => w'.cell? (ad257.add ((x5_1).toNat * 5)) = some (.int .i64 ((rd_T83 l0 x5_1).f0)) ∧ w'.cell? ⟨(ad257.add ((x5_1).toNat * 5)).block, (ad257.add ((x5_1).toNat * 5)).off + 1, none⟩ = some (.int .i64 ((rd_T83 l0 x5_1).f1)) ∧ w'.cell? ⟨(ad257.add ((x5_1).toNat * 5)).block, (ad257.add ((x5_1).toNat * 5)).off + 2, none⟩ = some (.int .i64 ((rd_T83 l0 x5_1).f2)) ∧ w'.cell? ⟨(ad257.add ((x5_1).toNat * 5)).block, (ad257.add ((x5_1).toNat * 5)).off + 3, none⟩ = some (.int .i64 ((rd_T83 l0 x5_1).f3)) ∧ w'.cell? ⟨(ad257.add ((x5_1).toNat * 5)).block, (ad257.add ((x5_1).toNat * 5)).off + 4, none⟩ = some (.string ((rd_T83 l0 x5_1).f4))) (ds := []) (bo 8 0) (by kernel_rfl) rfl rfl ⟨((HB.out.cell (World.block_lt_of_cell? w _ hw261_0)).trans hw261_0), ((HB.out.cell (World.block_lt_of_cell? w _ hw261_1)).trans hw261_1), ((HB.out.cell (World.block_lt_of_cell? w _ hw261_2)).trans hw261_2), ((HB.out.cell (World.block_lt_of_cell? w _ hw261_3)).trans hw261_3), ((HB.out.cell (World.block_lt_of_cell? w _ hw261_4)).trans hw261_4)⟩ (fun hHeld => ?_); refine with_tabW laws_heldRecS.tab16 laws_heldRecS.bits16 (fun HT_ HW_ => ?_)
          generalize wr.drew = w11 at HB hx261_0 hx261_1 hx261_2 hx261_3 hx261_4 hHeld ⊢
          refine pure_ (i := 0) (N := some 48) (v := ?_) (a' := ?_) (bo 8 1) rfl rfl (any_of HT_.out (by kernel_rfl)) (fun _ _ _ h => h) (Or.inl ⟨by rfl, ?_⟩) ?_ ?_
          rotate_left
          ·intro w'
           go_simp
           with_reducible rfl
          rotate_left
          ·simp only [Act.put, List.setIfInBounds_toArray, List.set_cons_zero, List.set_cons_succ, i64_w, i32_w]
           rfl
          refine pure_ (i := 1) (N := some 49) (v := ?_) (a' := ?_) (bo 8 3) rfl rfl (any_of HT_.out (by kernel_rfl)) (fun _ _ _ h => h) (Or.inl ⟨by rfl, ?_⟩) ?_ ?_
          rotate_left
          ·intro w'
           go_simp
           with_reducible rfl
          rotate_left
          ·simp only [Act.put, List.setIfInBounds_toArray, List.set_cons_zero, List.set_cons_succ, i64_w, i32_w]
           rfl
          refine pure_ (i := 2) (N := some 50) (v := ?_) (a' := ?_) (bo 8 7) rfl rfl (any_of HT_.out (by kernel_rfl)) (fun _ _ _ h => h) (Or.inl ⟨by rfl, ?_⟩) ?_ ?_
          rotate_left
          ·intro w'
           go_simp
           with_reducible rfl
          rotate_left
          ·simp only [Act.put, List.setIfInBounds_toArray, List.set_cons_zero, List.set_cons_succ, i64_w, i32_w]
           rfl
          refine pure_ (i := 3) (N := some 51) (v := ?_) (a' := ?_) (bo 8 15) rfl rfl (any_of HT_.out (by kernel_rfl)) (fun _ _ _ h => h) (Or.inl ⟨by rfl, ?_⟩) ?_ ?_
          rotate_left
          ·intro w'
           go_simp
           with_reducible rfl
          rotate_left
          ·simp only [Act.put, List.setIfInBounds_toArray, List.set_cons_zero, List.set_cons_succ, i64_w, i32_w]
           rfl
          refine pure_ (i := 5) (N := some 53) (v := ?_) (a' := ?_) (bo 8 47) rfl rfl (any_of HT_.out (by kernel_rfl)) (fun _ _ _ h => h) (Or.inl ⟨by rfl, ?_⟩) ?_ ?_
          rotate_left
          ·intro w'
           go_simp
           with_reducible rfl
          rotate_left
          ·simp only [Act.put, List.setIfInBounds_toArray, List.set_cons_zero, List.set_cons_succ, i64_w, i32_w]
           rfl
          refine take_ (i := 4) (N := some 52) (v := ?_) (a' := ?_) (bo 8 63) rfl rfl (take_ofW HT_.out HW_.out (by kernel_rfl)) (fun _ _ _ h => h) (Or.inl ⟨by rfl, ?_⟩) hHeld ?_ ?_
          rotate_left
          ·rintro w' ⟨s0, s1, s2, s3, s4⟩
           go_simp
           with_reducible rfl
          rotate_left
          ·simp only [Act.put, List.setIfInBounds_toArray, List.set_cons_zero, List.set_cons_succ, i64_w, i32_w]
           rfl
          refine one_ (i := 6) (N := some 54) (bo 8 127) rfl rfl (one_of HT_.out (by kernel_rfl)) (by decide) (fun K hK => ?_)
          refine goes_ Try.func116 (by kernel_rfl) rfl #[.int .i64 (wrap64 ((wrap64 ((wrap64 ((wrap64 (x1_1 + 1)) + 1)) + 1)) + 1))] (by rfl) rfl rfl sa ?_
          with_reducible refine (laws_markText.calls k1 (wrap64 ((wrap64 ((wrap64 ((wrap64 (x1_1 + 1)) + 1)) + 1)) + 1)) t262 _ A9.out).mono ?_
          rintro e w12 ⟨rfl, hb⟩
          refine ⟨_, rfl, ?_⟩
          have n0_ := bs (w := w) hb
          clear HB
          have HB := n0_
          clear n0_
          (try clear hb)
          (try clear hb2)
          (try clear hk)
          (try clear hi)
          refine hK.out _ _ ⟨((HB.out.cell (World.block_lt_of_cell? w _ hw261_0)).trans hw261_0), ((HB.out.cell (World.block_lt_of_cell? w _ hw261_1)).trans hw261_1), ((HB.out.cell (World.block_lt_of_cell? w _ hw261_2)).trans hw261_2), ((HB.out.cell (World.block_lt_of_cell? w _ hw261_3)).trans hw261_3), ((HB.out.cell (World.block_lt_of_cell? w _ hw261_4)).trans hw261_4)⟩ (fun hHeld => ?_)
          clear hK K
          refine norm_ (a' := ?_) ?_ ?_
          rotate_left
          ·show Act.put _ (some 54) _ = _
           simp only [Act.put, List.setIfInBounds_toArray, List.set_cons_zero, List.set_cons_succ, i64_w, i32_w]
           rfl
          refine pure_ (i := 7) (N := some 55) (v := ?_) (a' := ?_) (bo 8 255) rfl rfl (any_of HT_.out (by kernel_rfl)) (fun _ _ _ h => h) (Or.inl ⟨by rfl, ?_⟩) ?_ ?_
          rotate_left
          ·intro w'
           go_simp
           with_reducible rfl
          rotate_left
          ·simp only [Act.put, List.setIfInBounds_toArray, List.set_cons_zero, List.set_cons_succ, i64_w, i32_w]
           rfl
          refine done_ (done_of HT_.out (by kernel_rfl)) ?_
          try go_wp2
          go_roundg k1
          case measure => have := HK1.out; omega
          case rel => exact ⟨(wrap64 ((wrap64 ((wrap64 ((wrap64 ((wrap64 (x1_1 + 1)) + 1)) + 1)) + 1)) + 1)), (wrap64 (x5_1 + 1)), fa, fa, H', ⟨by have := HK1.out; omega⟩, ⟨bl⟩⟩
         ·rw [if_neg c10] at H
          have c10b0 : (((rd_T83 l0 x5_1).f4).toList == t262.toList) = false := beq_eq_false_iff_ne.mpr c10
          have c10b1 : (((rd_T83 l0 x5_1).f4).toList != t262.toList) = true := bne_iff_ne.mpr c10
          obtain rfl := Option.some.inj H
          have p257 : 0 ≤ (x5_1 : Int) := of_decide_eq_true am
          have q257 : x5_1 < (l0.length : Int) := of_decide_eq_true am
          obtain ⟨ad257, e257, hx257_0, hx257_1, hx257_2, hx257_3, hx257_4⟩ := at_T83 HR0.out x5_1 p257 q257
          cases e257
          replace hx257_0 := cz HB hx257_0
          replace hx257_1 := cz HB hx257_1
          replace hx257_2 := cz HB hx257_2
          replace hx257_3 := cz HB hx257_3
          replace hx257_4 := cz HB hx257_4
          replace p257 := eq_true p257
          replace q257 := eq_true q257
          have p258 : 0 ≤ (x5_1 : Int) := of_decide_eq_true am
          have q258 : x5_1 < (l0.length : Int) := of_decide_eq_true am
          obtain ⟨ad258, e258, hx258_0, hx258_1, hx258_2, hx258_3, hx258_4⟩ := at_T83 HR0.out x5_1 p258 q258
          obtain rfl : ad257 = ad258 := (by injection e258)
          replace hx258_0 := cz HB hx258_0
          replace hx258_1 := cz HB hx258_1
          replace hx258_2 := cz HB hx258_2
          replace hx258_3 := cz HB hx258_3
          replace hx258_4 := cz HB hx258_4
          replace p258 := eq_true p258
          replace q258 := eq_true q258
          have p259 : 0 ≤ (x5_1 : Int) := of_decide_eq_true am
          have q259 : x5_1 < (l0.length : Int) := of_decide_eq_true am
          obtain ⟨ad259, e259, hx259_0, hx259_1, hx259_2, hx259_3, hx259_4⟩ := at_T83 HR0.out x5_1 p259 q259
          obtain rfl : ad257 = ad259 := (by injection e259)
          replace hx259_0 := cz HB hx259_0
          replace hx259_1 := cz HB hx259_1
          replace hx259_2 := cz HB hx259_2
          replace hx259_3 := cz HB hx259_3
          replace hx259_4 := cz HB hx259_4
          replace p259 := eq_true p259
          replace q259 := eq_true q259
          have p260 : 0 ≤ (x5_1 : Int) := of_decide_eq_true am
          have q260 : x5_1 < (l0.length : Int) := of_decide_eq_true am
          obtain ⟨ad260, e260, hx260_0, hx260_1, hx260_2, hx260_3, hx260_4⟩ := at_T83 HR0.out x5_1 p260 q260
          obtain rfl : ad257 = ad260 := (by injection e260)
          replace hx260_0 := cz HB hx260_0
          replace hx260_1 := cz HB hx260_1
          replace hx260_2 := cz HB hx260_2
          replace hx260_3 := cz HB hx260_3
          replace hx260_4 := cz HB hx260_4
          replace p260 := eq_true p260
          replace q260 := eq_true q260
          try go_wp2
          have n0_ := Aside0.mk (below_drew1 HB.out)
          clear HB
          have HB := n0_
          clear n0_
          have p261 : 0 ≤ (x5_1 : Int) := of_decide_eq_true am
          have q261 : x5_1 < (l0.length : Int) := of_decide_eq_true am
          obtain ⟨ad261, e261, hx261_0, hx261_1, hx261_2, hx261_3, hx261_4⟩ := at_T83 HR0.out x5_1 p261 q261
          have hw261_4 := hx261_4
          have hw261_3 := hx261_3
          have hw261_2 := hx261_2
          have hw261_1 := hx261_1
          have hw261_0 := hx261_0
          obtain rfl : ad257 = ad261 := (by injection e261)
          replace hx261_0 := cz HB hx261_0
          replace hx261_1 := cz HB hx261_1
          replace hx261_2 := cz HB hx261_2
          replace hx261_3 := cz HB hx261_3
          replace hx261_4 := cz HB hx261_4
          replace p261 := eq_true p261
          replace q261 := eq_true q261
          refine start_ (n := 8) (S := fun w' => w'.cell? (ad257.add ((x5_1).toNat * 5)) = some (.int .i64 ((rd_T83 l0 x5_1).f0)) ∧ w'.cell? ⟨(ad257.add ((x5_1).toNat * 5)).block, (ad257.add ((x5_1).toNat * 5)).off + 1, none⟩ = some (.int .i64 ((rd_T83 l0 x5_1).f1)) ∧ w'.cell? ⟨(ad257.add ((x5_1).toNat * 5)).block, (ad257.add ((x5_1).toNat * 5)).off + 2, none⟩ = some (.int .i64 ((rd_T83 l0 x5_1).f2)) ∧ w'.cell? ⟨(ad257.add ((x5_1).toNat * 5)).block, (ad257.add ((x5_1).toNat * 5)).off + 3, none⟩ = some (.int .i64 ((rd_T83 l0 x5_1).f3)) ∧ w'.cell? ⟨(ad257.add ((x5_1).toNat * 5)).block, (ad257.add ((x5_1).toNat * 5)).off + 4, none⟩ = some (.string ((rd_T83 l0 x5_1).f4))) (ds := []) (bo 8 0) (by kernel_rfl) rfl rfl ⟨((HB.out.cell (World.block_lt_of_cell? w _ hw261_0)).trans hw261_0), ((HB.out.cell (World.block_lt_of_cell? w _ hw261_1)).trans hw261_1), ((HB.out.cell (World.block_lt_of_cell? w _ hw261_2)).trans hw261_2), ((HB.out.cell (World.block_lt_of_cell? w _ hw261_3)).trans hw261_3), ((HB.out.cell (World.block_lt_of_cell? w _ hw261_4)).trans hw261_4)⟩ (fun hHeld => ?_); refine with_tabW laws_heldRecS.tab16 laws_heldRecS.bits16 (fun HT_ HW_ => ?_)
          generalize wr.drew = w13 at HB hx261_0 hx261_1 hx261_2 hx261_3 hx261_4 hHeld ⊢
          refine pure_ (i := 0) (N := some 48) (v := ?_) (a' := ?_) (bo 8 1) rfl rfl (any_of HT_.out (by kernel_rfl)) (fun _ _ _ h => h) (Or.inl ⟨by rfl, ?_⟩) ?_ ?_
          rotate_left
          ·intro w'
           go_simp
           with_reducible rfl
          rotate_left
          ·simp only [Act.put, List.setIfInBounds_toArray, List.set_cons_zero, List.set_cons_succ, i64_w, i32_w]
           rfl
          refine pure_ (i := 1) (N := some 49) (v := ?_) (a' := ?_) (bo 8 3) rfl rfl (any_of HT_.out (by kernel_rfl)) (fun _ _ _ h => h) (Or.inl ⟨by rfl, ?_⟩) ?_ ?_
          rotate_left
          ·intro w'
           go_simp
           with_reducible rfl
          rotate_left
          ·simp only [Act.put, List.setIfInBounds_toArray, List.set_cons_zero, List.set_cons_succ, i64_w, i32_w]
           rfl
          refine pure_ (i := 2) (N := some 50) (v := ?_) (a' := ?_) (bo 8 7) rfl rfl (any_of HT_.out (by kernel_rfl)) (fun _ _ _ h => h) (Or.inl ⟨by rfl, ?_⟩) ?_ ?_
          rotate_left
          ·intro w'
           go_simp
           with_reducible rfl
          rotate_left
          ·simp only [Act.put, List.setIfInBounds_toArray, List.set_cons_zero, List.set_cons_succ, i64_w, i32_w]
           rfl
          refine pure_ (i := 3) (N := some 51) (v := ?_) (a' := ?_) (bo 8 15) rfl rfl (any_of HT_.out (by kernel_rfl)) (fun _ _ _ h => h) (Or.inl ⟨by rfl, ?_⟩) ?_ ?_
          rotate_left
          ·intro w'
           go_simp
           with_reducible rfl
          rotate_left
          ·simp only [Act.put, List.setIfInBounds_toArray, List.set_cons_zero, List.set_cons_succ, i64_w, i32_w]
           rfl
          refine pure_ (i := 5) (N := some 53) (v := ?_) (a' := ?_) (bo 8 47) rfl rfl (any_of HT_.out (by kernel_rfl)) (fun _ _ _ h => h) (Or.inl ⟨by rfl, ?_⟩) ?_ ?_
          rotate_left
          ·intro w'
           go_simp
           with_reducible rfl
          rotate_left
          ·simp only [Act.put, List.setIfInBounds_toArray, List.set_cons_zero, List.set_cons_succ, i64_w, i32_w]
           rfl
          refine take_ (i := 4) (N := some 52) (v := ?_) (a' := ?_) (bo 8 63) rfl rfl (take_ofW HT_.out HW_.out (by kernel_rfl)) (fun _ _ _ h => h) (Or.inl ⟨by rfl, ?_⟩) hHeld ?_ ?_
          rotate_left
          ·rintro w' ⟨s0, s1, s2, s3, s4⟩
           go_simp
           with_reducible rfl
          rotate_left
          ·simp only [Act.put, List.setIfInBounds_toArray, List.set_cons_zero, List.set_cons_succ, i64_w, i32_w]
           rfl
          refine one_ (i := 6) (N := some 54) (bo 8 127) rfl rfl (one_of HT_.out (by kernel_rfl)) (by decide) (fun K hK => ?_)
          refine goes_ Try.func116 (by kernel_rfl) rfl #[.int .i64 (wrap64 ((wrap64 ((wrap64 ((wrap64 (x1_1 + 1)) + 1)) + 1)) + 1))] (by rfl) rfl rfl sa ?_
          with_reducible refine (laws_markText.calls k1 (wrap64 ((wrap64 ((wrap64 ((wrap64 (x1_1 + 1)) + 1)) + 1)) + 1)) t262 _ A9.out).mono ?_
          rintro e w14 ⟨rfl, hb⟩
          refine ⟨_, rfl, ?_⟩
          have n0_ := bs (w := w) hb
          clear HB
          have HB := n0_
          clear n0_
          (try clear hb)
          (try clear hb2)
          (try clear hk)
          (try clear hi)
          refine hK.out _ _ ⟨((HB.out.cell (World.block_lt_of_cell? w _ hw261_0)).trans hw261_0), ((HB.out.cell (World.block_lt_of_cell? w _ hw261_1)).trans hw261_1), ((HB.out.cell (World.block_lt_of_cell? w _ hw261_2)).trans hw261_2), ((HB.out.cell (World.block_lt_of_cell? w _ hw261_3)).trans hw261_3), ((HB.out.cell (World.block_lt_of_cell? w _ hw261_4)).trans hw261_4)⟩ (fun hHeld => ?_)
          clear hK K
          refine norm_ (a' := ?_) ?_ ?_
          rotate_left
          ·show Act.put _ (some 54) _ = _
           simp only [Act.put, List.setIfInBounds_toArray, List.set_cons_zero, List.set_cons_succ, i64_w, i32_w]
           rfl
          refine pure_ (i := 7) (N := some 55) (v := ?_) (a' := ?_) (bo 8 255) rfl rfl (any_of HT_.out (by kernel_rfl)) (fun _ _ _ h => h) (Or.inl ⟨by rfl, ?_⟩) ?_ ?_
          rotate_left
          ·intro w'
           go_simp
           with_reducible rfl
          rotate_left
          ·simp only [Act.put, List.setIfInBounds_toArray, List.set_cons_zero, List.set_cons_succ, i64_w, i32_w]
           rfl
          refine done_ (done_of HT_.out (by kernel_rfl)) ?_
          try go_wp2
          go_ret
          exact ⟨fe, bl⟩
        ·rw [if_neg c8] at H
         have c8b0 : (((rd_T83 l0 x5_1).f3) == (wrap64 ((wrap64 ((wrap64 (x1_1 + 1)) + 1)) + 1))) = false := beq_eq_false_iff_ne.mpr c8
         have c8b1 : (((rd_T83 l0 x5_1).f3) != (wrap64 ((wrap64 ((wrap64 (x1_1 + 1)) + 1)) + 1))) = true := bne_iff_ne.mpr c8
         obtain rfl := Option.some.inj H
         have p257 : 0 ≤ (x5_1 : Int) := of_decide_eq_true am
         have q257 : x5_1 < (l0.length : Int) := of_decide_eq_true am
         obtain ⟨ad257, e257, hx257_0, hx257_1, hx257_2, hx257_3, hx257_4⟩ := at_T83 HR0.out x5_1 p257 q257
         cases e257
         replace hx257_0 := cz HB hx257_0
         replace hx257_1 := cz HB hx257_1
         replace hx257_2 := cz HB hx257_2
         replace hx257_3 := cz HB hx257_3
         replace hx257_4 := cz HB hx257_4
         replace p257 := eq_true p257
         replace q257 := eq_true q257
         have p258 : 0 ≤ (x5_1 : Int) := of_decide_eq_true am
         have q258 : x5_1 < (l0.length : Int) := of_decide_eq_true am
         obtain ⟨ad258, e258, hx258_0, hx258_1, hx258_2, hx258_3, hx258_4⟩ := at_T83 HR0.out x5_1 p258 q258
         obtain rfl : ad257 = ad258 := (by injection e258)
         replace hx258_0 := cz HB hx258_0
         replace hx258_1 := cz HB hx258_1
         replace hx258_2 := cz HB hx258_2
         replace hx258_3 := cz HB hx258_3
         replace hx258_4 := cz HB hx258_4
         replace p258 := eq_true p258
         replace q258 := eq_true q258
         have p259 : 0 ≤ (x5_1 : Int) := of_decide_eq_true am
         have q259 : x5_1 < (l0.length : Int) := of_decide_eq_true am
         obtain ⟨ad259, e259, hx259_0, hx259_1, hx259_2, hx259_3, hx259_4⟩ := at_T83 HR0.out x5_1 p259 q259
         obtain rfl : ad257 = ad259 := (by injection e259)
         replace hx259_0 := cz HB hx259_0
         replace hx259_1 := cz HB hx259_1
         replace hx259_2 := cz HB hx259_2
         replace hx259_3 := cz HB hx259_3
         replace hx259_4 := cz HB hx259_4
         replace p259 := eq_true p259
         replace q259 := eq_true q259
         have p260 : 0 ≤ (x5_1 : Int) := of_decide_eq_true am
         have q260 : x5_1 < (l0.length : Int) := of_decide_eq_true am
         obtain ⟨ad260, e260, hx260_0, hx260_1, hx260_2, hx260_3, hx260_4⟩ := at_T83 HR0.out x5_1 p260 q260
         obtain rfl : ad257 = ad260 := (by injection e260)
         replace hx260_0 := cz HB hx260_0
         replace hx260_1 := cz HB hx260_1
         replace hx260_2 := cz HB hx260_2
         replace hx260_3 := cz HB hx260_3
         replace hx260_4 := cz HB hx260_4
         replace p260 := eq_true p260
         replace q260 := eq_true q260
         go_wp2
         go_ret
         exact ⟨fe, bl⟩
       ·rw [if_neg c7] at H
        have c7b0 : (((rd_T83 l0 x5_1).f2) == (wrap64 ((wrap64 (x1_1 + 1)) + 1))) = false := beq_eq_false_iff_ne.mpr c7
        have c7b1 : (((rd_T83 l0 x5_1).f2) != (wrap64 ((wrap64 (x1_1 + 1)) + 1))) = true := bne_iff_ne.mpr c7
        obtain rfl := Option.some.inj H
        have p257 : 0 ≤ (x5_1 : Int) := of_decide_eq_true am
        have q257 : x5_1 < (l0.length : Int) := of_decide_eq_true am
        obtain ⟨ad257, e257, hx257_0, hx257_1, hx257_2, hx257_3, hx257_4⟩ := at_T83 HR0.out x5_1 p257 q257
        cases e257
        replace hx257_0 := cz HB hx257_0
        replace hx257_1 := cz HB hx257_1
        replace hx257_2 := cz HB hx257_2
        replace hx257_3 := cz HB hx257_3
        replace hx257_4 := cz HB hx257_4
        replace p257 := eq_true p257
        replace q257 := eq_true q257
        have p258 : 0 ≤ (x5_1 : Int) := of_decide_eq_true am
        have q258 : x5_1 < (l0.length : Int) := of_decide_eq_true am
        obtain ⟨ad258, e258, hx258_0, hx258_1, hx258_2, hx258_3, hx258_4⟩ := at_T83 HR0.out x5_1 p258 q258
        obtain rfl : ad257 = ad258 := (by injection e258)
        replace hx258_0 := cz HB hx258_0
        replace hx258_1 := cz HB hx258_1
        replace hx258_2 := cz HB hx258_2
        replace hx258_3 := cz HB hx258_3
        replace hx258_4 := cz HB hx258_4
        replace p258 := eq_true p258
        replace q258 := eq_true q258
        have p259 : 0 ≤ (x5_1 : Int) := of_decide_eq_true am
        have q259 : x5_1 < (l0.length : Int) := of_decide_eq_true am
        obtain ⟨ad259, e259, hx259_0, hx259_1, hx259_2, hx259_3, hx259_4⟩ := at_T83 HR0.out x5_1 p259 q259
        obtain rfl : ad257 = ad259 := (by injection e259)
        replace hx259_0 := cz HB hx259_0
        replace hx259_1 := cz HB hx259_1
        replace hx259_2 := cz HB hx259_2
        replace hx259_3 := cz HB hx259_3
        replace hx259_4 := cz HB hx259_4
        replace p259 := eq_true p259
        replace q259 := eq_true q259
        go_wp2
        go_ret
        exact ⟨fe, bl⟩
      ·rw [if_neg c6] at H
       have c6b0 : (((rd_T83 l0 x5_1).f1) == (wrap64 (x1_1 + 1))) = false := beq_eq_false_iff_ne.mpr c6
       have c6b1 : (((rd_T83 l0 x5_1).f1) != (wrap64 (x1_1 + 1))) = true := bne_iff_ne.mpr c6
       obtain rfl := Option.some.inj H
       have p257 : 0 ≤ (x5_1 : Int) := of_decide_eq_true am
       have q257 : x5_1 < (l0.length : Int) := of_decide_eq_true am
       obtain ⟨ad257, e257, hx257_0, hx257_1, hx257_2, hx257_3, hx257_4⟩ := at_T83 HR0.out x5_1 p257 q257
       cases e257
       replace hx257_0 := cz HB hx257_0
       replace hx257_1 := cz HB hx257_1
       replace hx257_2 := cz HB hx257_2
       replace hx257_3 := cz HB hx257_3
       replace hx257_4 := cz HB hx257_4
       replace p257 := eq_true p257
       replace q257 := eq_true q257
       have p258 : 0 ≤ (x5_1 : Int) := of_decide_eq_true am
       have q258 : x5_1 < (l0.length : Int) := of_decide_eq_true am
       obtain ⟨ad258, e258, hx258_0, hx258_1, hx258_2, hx258_3, hx258_4⟩ := at_T83 HR0.out x5_1 p258 q258
       obtain rfl : ad257 = ad258 := (by injection e258)
       replace hx258_0 := cz HB hx258_0
       replace hx258_1 := cz HB hx258_1
       replace hx258_2 := cz HB hx258_2
       replace hx258_3 := cz HB hx258_3
       replace hx258_4 := cz HB hx258_4
       replace p258 := eq_true p258
       replace q258 := eq_true q258
       go_wp2
       go_ret
       exact ⟨fe, bl⟩
     ·rw [if_neg c5] at H
      have c5b0 : (((rd_T83 l0 x5_1).f0) == x1_1) = false := beq_eq_false_iff_ne.mpr c5
      have c5b1 : (((rd_T83 l0 x5_1).f0) != x1_1) = true := bne_iff_ne.mpr c5
      obtain rfl := Option.some.inj H
      have p257 : 0 ≤ (x5_1 : Int) := of_decide_eq_true am
      have q257 : x5_1 < (l0.length : Int) := of_decide_eq_true am
      obtain ⟨ad257, e257, hx257_0, hx257_1, hx257_2, hx257_3, hx257_4⟩ := at_T83 HR0.out x5_1 p257 q257
      cases e257
      replace hx257_0 := cz HB hx257_0
      replace hx257_1 := cz HB hx257_1
      replace hx257_2 := cz HB hx257_2
      replace hx257_3 := cz HB hx257_3
      replace hx257_4 := cz HB hx257_4
      replace p257 := eq_true p257
      replace q257 := eq_true q257
      go_wp2
      go_ret
      exact ⟨fe, bl⟩
    ·rw [if_neg c4] at H
     exact absurd H (by simp)
   ·rw [if_neg c3] at H
    have c3b0 : decide (x5_1 < (l0.length : Int)) = false := decide_eq_false c3
    clear c3
    obtain rfl := Option.some.inj H
    go_wp2
    go_ret
    exact ⟨fe, bl⟩

end Go.Proofs.Ytfmddjbekophnaa.PFnExactChanges
