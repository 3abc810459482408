/- Functions of the program, each with its contract, written by a program out of the translation. -/
import Derived.Test.YtjcmcamijaelbaaPDiskx0
import Derived.Test.YtjcmcamijaelbaaPDiskx3
import Derived.Test.YtjcmcamijaelbaaZip
namespace Go.Proofs.Ytjcmcamijaelbaa.PDisk
open Go.RowKit Go.Proofs.YtjcmcamijaelbaaW.PrintWords Go.Proofs.YtjcmcamijaelbaaW.PrintLast Go.Proofs.YtjcmcamijaelbaaW.PrintMore Go.Proofs.Ytjcmcamijaelbaa.Zip
attribute [local go_sem] max2_int min2_int max_two min_two max_three min_three max_four min_four   -- for this text's walks alone
set_option linter.unusedVariables false
set_option linter.unusedSimpArgs false
/-! ### spec_l4Apply: function 81 -/
mutual
def spec_l4Apply.j0 : Nat → List (S93) → Int → Bool → Int → ByteArray → ByteArray → Int → Option ((List (S93)) × Bool)
 | 0, _, _, _, _, _, _, _ => none
 | k + 1, x0, x6, x17, x178000, x178001, x178002, x178003 => if x17 = true then ((spec_l4With.f k x0 x178001 x178003).bind fun t180 => (some (t180, true))) else (if x178000 = 2 then (if x178003 = 0 then (if x6 ≥ 0 then ((spec_l4Name.f k x178002).bind fun t183 => (if t183 = true then (spec_l4Apply.j1 k x0 x6 (x178002.toList != x178001.toList) x178000 x178001 x178002 x178003) else (spec_l4Apply.j1 k x0 x6 false x178000 x178001 x178002 x178003))) else (spec_l4Apply.j1 k x0 x6 false x178000 x178001 x178002 x178003)) else (spec_l4Apply.j1 k x0 x6 false x178000 x178001 x178002 x178003)) else (spec_l4Apply.j1 k x0 x6 false x178000 x178001 x178002 x178003))
def spec_l4Apply.j1 : Nat → List (S93) → Int → Bool → Int → ByteArray → ByteArray → Int → Option ((List (S93)) × Bool)
 | 0, _, _, _, _, _, _, _ => none
 | k + 1, x0, x6, x37, x178000, x178001, x178002, x178003 => if x37 = true then ((spec_l4Without.f k x0 x178001).bind fun t184 => (if 0 ≤ x6 then (if x6 < (x0.length : Int) then ((spec_l4With.f k t184 x178002 ((rd_T93 x0 x6).f1)).bind fun t188 => (some (t188, true))) else (none)) else (none))) else (if x178000 = 3 then (if x178003 = 0 then (if x178002.toList = ([] : List UInt8) then (if x6 ≥ 0 then ((spec_l4Without.f k x0 x178001).bind fun t191 => (some (t191, true))) else (some (x0, false))) else (some (x0, false))) else (some (x0, false))) else (some (x0, false)))
end
def spec_l4Apply.f (k : Nat) (l0 : List (S93)) (a1_0 : Int) (a1_1 : ByteArray) (a1_2 : ByteArray) (a1_3 : Int) : Option ((List (S93)) × Bool) := (spec_l4At.f k l0 a1_1).bind fun t178 => ((spec_l4Name.f k a1_1).bind fun t179 => (if t179 = true then (if a1_0 = 1 then (if a1_2.toList = ([] : List UInt8) then (spec_l4Apply.j0 k l0 t178 (decide (t178 < 0)) a1_0 a1_1 a1_2 a1_3) else (spec_l4Apply.j0 k l0 t178 false a1_0 a1_1 a1_2 a1_3)) else (spec_l4Apply.j0 k l0 t178 false a1_0 a1_1 a1_2 a1_3)) else (some (l0, false))))
theorem spec_l4Apply.mono_l : ∀ k, (∀ y0 y1 y2 y3 y4 y5 y6, LeO (spec_l4Apply.j0 k y0 y1 y2 y3 y4 y5 y6) (spec_l4Apply.j0 (k + 1) y0 y1 y2 y3 y4 y5 y6)) ∧ (∀ y0 y1 y2 y3 y4 y5 y6, LeO (spec_l4Apply.j1 k y0 y1 y2 y3 y4 y5 y6) (spec_l4Apply.j1 (k + 1) y0 y1 y2 y3 y4 y5 y6))
 | 0 => ⟨fun _ _ _ _ _ _ _ r h => by simp [spec_l4Apply.j0] at h, fun _ _ _ _ _ _ _ r h => by simp [spec_l4Apply.j1] at h⟩
 | k + 1 => by
  obtain ⟨ih0, ih1⟩ := spec_l4Apply.mono_l k
  refine ⟨?_, ?_⟩
  ·intro y0 y1 y2 y3 y4 y5 y6
   unfold spec_l4Apply.j0
   repeat' first
   | (with_reducible exact ih0 _ _ _ _ _ _ _)
   | (with_reducible exact ih1 _ _ _ _ _ _ _)
   | (with_reducible exact spec_l4At.mono _ _ _)
   | (with_reducible exact spec_l4Name.mono _ _)
   | (with_reducible exact spec_l4With.mono _ _ _ _)
   | (with_reducible exact spec_l4Without.mono _ _ _)
   | (with_reducible exact LeO.refl _)
   | (with_reducible exact LeO.none _)
   | (with_reducible refine LeO.ite ?_ ?_)
   | (with_reducible refine LeO.bind ?_ (fun _ => ?_))
   | exact ih0 _ _ _ _ _ _ _
   | exact ih1 _ _ _ _ _ _ _
   | exact spec_l4At.mono _ _ _
   | exact spec_l4Name.mono _ _
   | exact spec_l4With.mono _ _ _ _
   | exact spec_l4Without.mono _ _ _
   | exact LeO.none _
   | refine LeO.ite ?_ ?_
   | refine LeO.bind ?_ (fun _ => ?_)
  ·intro y0 y1 y2 y3 y4 y5 y6
   unfold spec_l4Apply.j1
   repeat' first
   | (with_reducible exact ih0 _ _ _ _ _ _ _)
   | (with_reducible exact ih1 _ _ _ _ _ _ _)
   | (with_reducible exact spec_l4At.mono _ _ _)
   | (with_reducible exact spec_l4Name.mono _ _)
   | (with_reducible exact spec_l4With.mono _ _ _ _)
   | (with_reducible exact spec_l4Without.mono _ _ _)
   | (with_reducible exact LeO.refl _)
   | (with_reducible exact LeO.none _)
   | (with_reducible refine LeO.ite ?_ ?_)
   | (with_reducible refine LeO.bind ?_ (fun _ => ?_))
   | exact ih0 _ _ _ _ _ _ _
   | exact ih1 _ _ _ _ _ _ _
   | exact spec_l4At.mono _ _ _
   | exact spec_l4Name.mono _ _
   | exact spec_l4With.mono _ _ _ _
   | exact spec_l4Without.mono _ _ _
   | exact LeO.none _
   | refine LeO.ite ?_ ?_
   | refine LeO.bind ?_ (fun _ => ?_)
theorem spec_l4Apply.mono : ∀ a0 a1 a2 a3 a4 k, LeO (spec_l4Apply.f k a0 a1 a2 a3 a4) (spec_l4Apply.f (k + 1) a0 a1 a2 a3 a4) := by
 intro a0 a1 a2 a3 a4 k
 obtain ⟨ih0, ih1⟩ := spec_l4Apply.mono_l k
 unfold spec_l4Apply.f
 repeat' first
  | (with_reducible exact ih0 _ _ _ _ _ _ _)
  | (with_reducible exact ih1 _ _ _ _ _ _ _)
  | (with_reducible exact spec_l4At.mono _ _ _)
  | (with_reducible exact spec_l4Name.mono _ _)
  | (with_reducible exact spec_l4With.mono _ _ _ _)
  | (with_reducible exact spec_l4Without.mono _ _ _)
  | (with_reducible exact LeO.refl _)
  | (with_reducible exact LeO.none _)
  | (with_reducible refine LeO.ite ?_ ?_)
  | (with_reducible refine LeO.bind ?_ (fun _ => ?_))
  | exact ih0 _ _ _ _ _ _ _
  | exact ih1 _ _ _ _ _ _ _
  | exact spec_l4At.mono _ _ _
  | exact spec_l4Name.mono _ _
  | exact spec_l4With.mono _ _ _ _
  | exact spec_l4Without.mono _ _ _
  | exact LeO.none _
  | refine LeO.ite ?_ ?_
  | refine LeO.bind ?_ (fun _ => ?_)
def spec_l4Apply.T7 : Bool × List (List Nat × List Nat) := (true, [([], []), ([], []), ([1], [1]), ([0, 2], [0, 2]), ([], []), ([4], [4]), ([], []), ([], []), ([6, 7], [6, 7]), ([8], [8]), ([9], [9]), ([5, 10], [5, 10]), ([3, 11, 3], [3, 11]), ([12, 12, 0, 1, 2, 3, 4, 5, 6, 7, 8, 9, 10, 11, 12], [12]), ([13, 0, 1, 2, 3, 4, 5, 6, 7, 8, 9, 10, 11, 12, 13], [])])
def spec_l4Apply.B7 : List Nat := [0, 0, 2, 7, 0, 16, 0, 0, 192, 448, 960, 2032, 4095, 8191, 16383]
theorem spec_l4Apply.tab7 : rtab .any (opsOf Try.f81 7) = spec_l4Apply.T7 := by kernel_rfl
theorem spec_l4Apply.bits7 : waitsOk spec_l4Apply.T7.2 spec_l4Apply.B7 = true := by kernel_rfl
set_option maxHeartbeats 8000000 in
set_option maxRecDepth 100000 in
theorem spec_l4Apply.calls (k : Nat) (P0_ : Nat → Prop) (u9000_ : Value) (l0 : List (S93)) (a1_0 : Int) (a1_1 : ByteArray) (a1_2 : ByteArray) (a1_3 : Int) (r1 : List (S93)) (r2 : Bool) (w0 w : World) (hB : Below w0.heap.size w0 w) (ho0 : Kd.R k93 93 w w0.heap.size P0_ u9000_ l0) (h : spec_l4Apply.f k l0 a1_0 a1_1 a1_2 a1_3 = some (r1, r2)) :
 Calls Try.prog 81 #[u9000_, .agg #[.int .i64 a1_0, .string a1_1, .string a1_2, .int .i64 a1_3]] w fun e w' => ∃ v0_ : Value, e = .returned (.tuple #[v0_, .bool r2]) ∧ Kd.R k93 93 w' w0.heap.size (fun k_ => (P0_ k_ ∨ w.heap.size ≤ k_)) v0_ r1 ∧ Below w0.heap.size w0 w' ∧ Kept w w' (fun k_ => P0_ k_) := by
 have hu95 := Try.underlying95
 have hu93 := Try.underlying93
 have HO0 := Aside0.mk (show Kd.R k93 93 w w0.heap.size (fun k_ => (P0_ k_ ∨ w.heap.size ≤ k_)) u9000_ l0 from Kd.R_mono ho0 (fun k_ hk => (.inl hk)))
 have HK := Aside0.mk (Kept.refl w (fun k_ => P0_ k_))
 have HW0 := Aside0.mk hB.size
 have HB := Aside0.mk hB
 clear hB
 have H : ((spec_l4At.f k l0 a1_1).bind fun t178 => ((spec_l4Name.f k a1_1).bind fun t179 => (if t179 = true then (if a1_0 = 1 then (if a1_2.toList = ([] : List UInt8) then (spec_l4Apply.j0 k l0 t178 (decide (t178 < 0)) a1_0 a1_1 a1_2 a1_3) else (spec_l4Apply.j0 k l0 t178 false a1_0 a1_1 a1_2 a1_3)) else (spec_l4Apply.j0 k l0 t178 false a1_0 a1_1 a1_2 a1_3)) else (some (l0, false))))) = some (r1, r2) := h
 clear h
 obtain ⟨t178, A3, H⟩ := bd H
 obtain ⟨t179, A4, H⟩ := bd H
 by_cases c5 : t179 = true
 ·subst c5
  replace H := iT H
  have HC6 := Aside0.mk H
  clear H
  go_enter Try.func81, Try.ntmps81
  go_upto_region 4 with (first | ((with_reducible refine gD 3 rfl ?_); refine boxZ 3 #[.int .i64 a1_0, .string a1_1, .string a1_2, .int .i64 a1_3] 95 ?_; intro gb177 hg w7 hbox hb; replace HO0 := Aside0.mk (Kd.R_below (rpR HO0.out) hb); have BK177 := Aside0.mk hbox; have GW177 := Aside0.mk ((by rw [hg]; exact (by first | exact HK.out.1 | exact (show Kept w _ (fun k_ => P0_ k_) from by repeat (first | (with_reducible first | exact HK.out | apply Kept.alloc | apply Kept.drewN | apply Kept.drew) | exact HK.out)).1) : w.heap.size ≤ gb177)); replace HK := Aside0.mk (Kept.below (S := (fun k_ => P0_ k_)) (by repeat (first | (with_reducible first | exact HK.out | apply Kept.alloc | apply Kept.drewN | apply Kept.drew) | exact HK.out)) hb); have GE177 := gw (w := w0) hg; replace HB := bs (w := w0) hb; clear hb hbox hg; obtain ⟨Z8_0, Z8_1, Z8_2, Z8_3, Y8_0, Y8_1, Y8_2, Y8_3⟩ := cf4 BK177; obtain ⟨Ao9, co9, rfl⟩ := Kd.R_slice HO0.out) | ((with_reducible refine gC 126 rfl ?_); refine goesZ (some 10) rfl Try.func126 #[.slice Ao9 l0.length co9, .string a1_1] ?_; (with_reducible refine (spec_l4At.calls k _ _ l0 a1_1 t178 _ ?side1 ?side2 A3.out).mono ?_); (case side1 => exact ca ((Kd.R_reads' HO0.out).2.2)); (case side2 => exact (Kd.R_reads' HO0.out).2.1); rintro e w' ⟨rfl, ⟨nd, rfl⟩⟩; refine ⟨_, rfl, ?_⟩) | ((with_reducible refine gC 79 rfl ?_); refine goesZ (some 14) rfl Try.func79 #[.string a1_1] ?_; (with_reducible refine (spec_l4Name.calls k a1_1 true _ A4.out).mono ?_); rintro e w' ⟨rfl, ⟨nd, rfl⟩⟩; refine ⟨_, rfl, ?_⟩))
  (try simp only [Act.put, List.setIfInBounds_toArray, List.set_cons_zero, List.set_cons_succ])
  go_cut [17] (fun v17 wc => ∃ (kq : Nat) (x17_5 : Bool), v17 = .bool x17_5 ∧ Aside0 (spec_l4Apply.j0 kq l0 t178 x17_5 a1_0 a1_1 a1_2 a1_3 = some (r1, r2)) ∧ Aside0 (kq ≤ k) ∧ Aside0 (Kd.R k93 93 wc w0.heap.size (fun k_ => (P0_ k_ ∨ w.heap.size ≤ k_)) (.slice Ao9 l0.length co9) l0) ∧ Aside0 (wc.heap[gb177]? = some (.cells #[.int .i64 a1_0, .string a1_1, .string a1_2, .int .i64 a1_3] 95 (0, 0))) ∧ Aside0 (Kept w wc (fun k_ => P0_ k_)) ∧ Aside0 (Below w0.heap.size w0 wc))
  case first =>
   have H := HC6.out
   clear HC6
   by_cases c10 : a1_0 = 1
   ·rw [if_pos c10] at H
    have c10b0 : (a1_0 == 1) = true := beq_iff_eq.mpr c10
    have c10b1 : (a1_0 != 1) = false := bne_eq_false_iff_eq.mpr c10
    clear c10
    (first | rw [c10b0] | (simp only [i64_w, i32_w]; rw [c10b0]) | skip)
    by_cases c11 : a1_2.toList = ([] : List UInt8)
    ·rw [if_pos c11] at H
     have c11b0 : (a1_2.toList == ([] : List UInt8)) = true := beq_iff_eq.mpr c11
     have c11bE := c11b0; simp only [show ∀ l_ : List UInt8, (l_ == []) = l_.isEmpty from fun l_ => by cases l_ <;> rfl] at c11bE
     have c11b1 : (a1_2.toList != ([] : List UInt8)) = false := bne_eq_false_iff_eq.mpr c11
     clear c11
     have H' := Aside0.mk H
     clear H
     obtain ⟨Z12_0, Z12_1, Z12_2, Z12_3, Y12_0, Y12_1, Y12_2, Y12_3⟩ := cf4 BK177
     go_wp2
     go_meet
     case rel => exact ⟨_, (decide (t178 < 0)), fa, H', ⟨by first | omega | exact Nat.le_refl _⟩, ⟨rpR HO0.out⟩, ⟨by (with_reducible repeat (first | refine blk_drewN ?_ _ | refine blk_drew ?_ | refine blk_alloc ?_ _)); exact BK177.out⟩, ⟨by repeat (first | (with_reducible first | exact HK.out | apply Kept.alloc | apply Kept.drewN | apply Kept.drew | refine Kept.setCell ?_ (.inr GW177.out) _) | exact HK.out)⟩, ⟨bl⟩⟩
    ·rw [if_neg c11] at H
     have c11b0 : (a1_2.toList == ([] : List UInt8)) = false := beq_eq_false_iff_ne.mpr c11
     have c11bE := c11b0; simp only [show ∀ l_ : List UInt8, (l_ == []) = l_.isEmpty from fun l_ => by cases l_ <;> rfl] at c11bE
     have c11b1 : (a1_2.toList != ([] : List UInt8)) = true := bne_iff_ne.mpr c11
     have H' := Aside0.mk H
     clear H
     obtain ⟨Z13_0, Z13_1, Z13_2, Z13_3, Y13_0, Y13_1, Y13_2, Y13_3⟩ := cf4 BK177
     go_wp2
     go_meet
     case rel => exact ⟨_, (false), fa, H', ⟨by first | omega | exact Nat.le_refl _⟩, ⟨rpR HO0.out⟩, ⟨by (with_reducible repeat (first | refine blk_drewN ?_ _ | refine blk_drew ?_ | refine blk_alloc ?_ _)); exact BK177.out⟩, ⟨by repeat (first | (with_reducible first | exact HK.out | apply Kept.alloc | apply Kept.drewN | apply Kept.drew | refine Kept.setCell ?_ (.inr GW177.out) _) | exact HK.out)⟩, ⟨bl⟩⟩
   ·rw [if_neg c10] at H
    have c10b0 : (a1_0 == 1) = false := beq_eq_false_iff_ne.mpr c10
    have c10b1 : (a1_0 != 1) = true := bne_iff_ne.mpr c10
    (first | rw [c10b0] | (simp only [i64_w, i32_w]; rw [c10b0]) | skip)
    have H' := Aside0.mk H
    clear H
    obtain ⟨Z14_0, Z14_1, Z14_2, Z14_3, Y14_0, Y14_1, Y14_2, Y14_3⟩ := cf4 BK177
    go_wp2
    go_meet
    case rel => exact ⟨_, (false), fa, H', ⟨by first | omega | exact Nat.le_refl _⟩, ⟨rpR HO0.out⟩, ⟨by (with_reducible repeat (first | refine blk_drewN ?_ _ | refine blk_drew ?_ | refine blk_alloc ?_ _)); exact BK177.out⟩, ⟨by repeat (first | (with_reducible first | exact HK.out | apply Kept.alloc | apply Kept.drewN | apply Kept.drew | refine Kept.setCell ?_ (.inr GW177.out) _) | exact HK.out)⟩, ⟨bl⟩⟩
  case rest =>
   clear HC6
   try clear c1
   try clear p2
   try clear c5
   try clear c7
   try clear c8
   try clear c10
   try clear c10b0
   try clear c10b1
   try clear c11
   try clear c11b0
   try clear c11b1
   try clear c12
   try clear Z12_0 Z12_1 Z12_2 Z12_3
   try clear Z13_0 Z13_1 Z13_2 Z13_3
   try clear Z14_0 Z14_1 Z14_2 Z14_3
   try clear Z8_0 Z8_1 Z8_2 Z8_3
   try clear Y12_0 Y12_1 Y12_2 Y12_3
   try clear Y13_0 Y13_1 Y13_2 Y13_3
   try clear Y14_0 Y14_1 Y14_2 Y14_3
   try clear Y8_0 Y8_1 Y8_2 Y8_3
   obtain ⟨kq, x17_5, rfl, HA, HJ5, HO_0, BK177, HK, HB⟩ := hcut
   cases kq with
   | zero => exact absurd HA.out (by simp [spec_l4Apply.j0])
   | succ kj5 =>
    have H := HA.out
    clear HA
    simp only [spec_l4Apply.j0] at H
    by_cases c15 : x17_5 = true
    ·subst c15
     replace H := iT H
     obtain ⟨t180, A16, H⟩ := bd H
     simp only [Option.some.injEq, Prod.mk.injEq] at H
     obtain ⟨rfl, rfl⟩ := H
     obtain ⟨Z17_0, Z17_1, Z17_2, Z17_3, Y17_0, Y17_1, Y17_2, Y17_3⟩ := cf4 BK177
     go_wp2_with (first | ((with_reducible refine gC 127 rfl ?_); refine goesZ (some 36) rfl Try.func127 #[.slice Ao9 l0.length co9, .agg #[.string a1_1, .int .i64 a1_3]] ?_; (with_reducible refine (spec_l4With.calls kj5 _ _ l0 a1_1 a1_3 t180 _ ?side1 ?side2 A16.out).mono ?_); (case side1 => exact ca ((Kd.R_reads' HO_0.out).2.2)); (case side2 => exact (Kd.R_reads' HO_0.out).2.1); rintro e w18 ⟨v181, rfl, ho0, hb⟩; refine ⟨_, rfl, ?_⟩; have HO182 := Aside0.mk (Kd.R_lower (Kd.R_new' (Kd.R_newM (M := fun k_ => (P0_ k_ ∨ w.heap.size ≤ k_)) ho0 (by first | exact HK.out.1 | exact (show Kept w _ (fun k_ => P0_ k_) from by repeat (first | (with_reducible first | exact HK.out | apply Kept.alloc | apply Kept.drewN | apply Kept.drew | refine Kept.setCell ?_ (.inr GW177.out) _) | exact HK.out)).1) (fun k_ h_ => .inr h_)) (Kd.R_lt (rpR HO_0.out))) (below_size bl)); replace HO_0 := Aside0.mk (Kd.R_elder' (rpR HO_0.out) (Kd.R_base ho0) hb); replace BK177 := bv BK177 hb; replace HK := Aside0.mk (Kept.below (S := (fun k_ => P0_ k_)) (by repeat (first | (with_reducible first | exact HK.out | apply Kept.alloc | apply Kept.drewN | apply Kept.drew | refine Kept.setCell ?_ (.inr GW177.out) _) | exact HK.out)) hb); replace HB := bs (w := w0) hb; (try clear hb ho0)))
     go_ret2
     exact ⟨_, fe, rpR (Kd.R_mono HO182.out (fun _ hk => hk.1.1)), bl, by repeat (first | (with_reducible first | exact HK.out | apply Kept.alloc | apply Kept.drewN | apply Kept.drew | refine Kept.setCell ?_ (.inr GW177.out) _) | exact HK.out)⟩
    ·replace c15 := Bool.eq_false_iff.mpr c15
     subst c15
     replace H := iF H
     have HC19 := Aside0.mk H
     clear H
     go_upto_region 6 with (fail)
     go_cut [37] (fun v37 wc => ∃ (kq : Nat) (x37_18 : Bool), v37 = .bool x37_18 ∧ Aside0 (spec_l4Apply.j1 kq l0 t178 x37_18 a1_0 a1_1 a1_2 a1_3 = some (r1, r2)) ∧ Aside0 (kq ≤ kj5) ∧ Aside0 (Kd.R k93 93 wc w0.heap.size (fun k_ => (P0_ k_ ∨ w.heap.size ≤ k_)) (.slice Ao9 l0.length co9) l0) ∧ Aside0 (wc.heap[gb177]? = some (.cells #[.int .i64 a1_0, .string a1_1, .string a1_2, .int .i64 a1_3] 95 (0, 0))) ∧ Aside0 (Kept w wc (fun k_ => P0_ k_)) ∧ Aside0 (Below w0.heap.size w0 wc))
     case first =>
      have H := HC19.out
      clear HC19
      by_cases c20 : a1_0 = 2
      ·rw [if_pos c20] at H
       have c20b0 : (a1_0 == 2) = true := beq_iff_eq.mpr c20
       have c20b1 : (a1_0 != 2) = false := bne_eq_false_iff_eq.mpr c20
       clear c20
       (first | rw [c20b0] | (simp only [i64_w, i32_w]; rw [c20b0]) | skip)
       by_cases c21 : a1_3 = 0
       ·rw [if_pos c21] at H
        have c21b0 : (a1_3 == 0) = true := beq_iff_eq.mpr c21
        have c21b1 : (a1_3 != 0) = false := bne_eq_false_iff_eq.mpr c21
        clear c21
        by_cases c22 : t178 ≥ 0
        ·rw [if_pos c22] at H
         have c22b0 : decide (0 ≤ t178) = true := decide_eq_true c22
         clear c22
         obtain ⟨t183, A23, H⟩ := bd H
         by_cases c24 : t183 = true
         ·subst c24
          replace H := iT H
          have H' := Aside0.mk H
          clear H
          obtain ⟨Z25_0, Z25_1, Z25_2, Z25_3, Y25_0, Y25_1, Y25_2, Y25_3⟩ := cf4 BK177
          go_wp2_with (first | (go_at_call 79; (with_reducible refine (spec_l4Name.calls kj5 a1_2 true _ A23.out).mono ?_); rintro e w' ⟨rfl, ⟨nd, rfl⟩⟩))
          go_meet
          case rel => exact ⟨_, ((a1_2.toList != a1_1.toList)), fa, H', ⟨by have := HJ5.out; first | omega | exact Nat.le_refl _⟩, ⟨rpR HO_0.out⟩, ⟨by (with_reducible repeat (first | refine blk_drewN ?_ _ | refine blk_drew ?_ | refine blk_alloc ?_ _)); exact BK177.out⟩, ⟨by repeat (first | (with_reducible first | exact HK.out | apply Kept.alloc | apply Kept.drewN | apply Kept.drew | refine Kept.setCell ?_ (.inr GW177.out) _) | exact HK.out)⟩, ⟨bl⟩⟩
         ·replace c24 := Bool.eq_false_iff.mpr c24
          subst c24
          replace H := iF H
          have H' := Aside0.mk H
          clear H
          obtain ⟨Z26_0, Z26_1, Z26_2, Z26_3, Y26_0, Y26_1, Y26_2, Y26_3⟩ := cf4 BK177
          go_wp2_with (first | (go_at_call 79; (with_reducible refine (spec_l4Name.calls kj5 a1_2 false _ A23.out).mono ?_); rintro e w' ⟨rfl, ⟨nd, rfl⟩⟩))
          go_meet
          case rel => exact ⟨_, (false), fa, H', ⟨by have := HJ5.out; first | omega | exact Nat.le_refl _⟩, ⟨rpR HO_0.out⟩, ⟨by (with_reducible repeat (first | refine blk_drewN ?_ _ | refine blk_drew ?_ | refine blk_alloc ?_ _)); exact BK177.out⟩, ⟨by repeat (first | (with_reducible first | exact HK.out | apply Kept.alloc | apply Kept.drewN | apply Kept.drew | refine Kept.setCell ?_ (.inr GW177.out) _) | exact HK.out)⟩, ⟨bl⟩⟩
        ·rw [if_neg c22] at H
         have c22b0 : decide (0 ≤ t178) = false := decide_eq_false c22
         clear c22
         have H' := Aside0.mk H
         clear H
         obtain ⟨Z27_0, Z27_1, Z27_2, Z27_3, Y27_0, Y27_1, Y27_2, Y27_3⟩ := cf4 BK177
         go_wp2
         go_meet
         case rel => exact ⟨_, (false), fa, H', ⟨by have := HJ5.out; first | omega | exact Nat.le_refl _⟩, ⟨rpR HO_0.out⟩, ⟨by (with_reducible repeat (first | refine blk_drewN ?_ _ | refine blk_drew ?_ | refine blk_alloc ?_ _)); exact BK177.out⟩, ⟨by repeat (first | (with_reducible first | exact HK.out | apply Kept.alloc | apply Kept.drewN | apply Kept.drew | refine Kept.setCell ?_ (.inr GW177.out) _) | exact HK.out)⟩, ⟨bl⟩⟩
       ·rw [if_neg c21] at H
        have c21b0 : (a1_3 == 0) = false := beq_eq_false_iff_ne.mpr c21
        have c21b1 : (a1_3 != 0) = true := bne_iff_ne.mpr c21
        have H' := Aside0.mk H
        clear H
        obtain ⟨Z28_0, Z28_1, Z28_2, Z28_3, Y28_0, Y28_1, Y28_2, Y28_3⟩ := cf4 BK177
        go_wp2
        go_meet
        case rel => exact ⟨_, (false), fa, H', ⟨by have := HJ5.out; first | omega | exact Nat.le_refl _⟩, ⟨rpR HO_0.out⟩, ⟨by (with_reducible repeat (first | refine blk_drewN ?_ _ | refine blk_drew ?_ | refine blk_alloc ?_ _)); exact BK177.out⟩, ⟨by repeat (first | (with_reducible first | exact HK.out | apply Kept.alloc | apply Kept.drewN | apply Kept.drew | refine Kept.setCell ?_ (.inr GW177.out) _) | exact HK.out)⟩, ⟨bl⟩⟩
      ·rw [if_neg c20] at H
       have c20b0 : (a1_0 == 2) = false := beq_eq_false_iff_ne.mpr c20
       have c20b1 : (a1_0 != 2) = true := bne_iff_ne.mpr c20
       (first | rw [c20b0] | (simp only [i64_w, i32_w]; rw [c20b0]) | skip)
       have H' := Aside0.mk H
       clear H
       obtain ⟨Z29_0, Z29_1, Z29_2, Z29_3, Y29_0, Y29_1, Y29_2, Y29_3⟩ := cf4 BK177
       go_wp2
       go_meet
       case rel => exact ⟨_, (false), fa, H', ⟨by have := HJ5.out; first | omega | exact Nat.le_refl _⟩, ⟨rpR HO_0.out⟩, ⟨by (with_reducible repeat (first | refine blk_drewN ?_ _ | refine blk_drew ?_ | refine blk_alloc ?_ _)); exact BK177.out⟩, ⟨by repeat (first | (with_reducible first | exact HK.out | apply Kept.alloc | apply Kept.drewN | apply Kept.drew | refine Kept.setCell ?_ (.inr GW177.out) _) | exact HK.out)⟩, ⟨bl⟩⟩
     case rest =>
      clear HC19
      try clear c1
      try clear c2
      try clear p2
      try clear c5
      try clear c7
      try clear c8
      try clear c10
      try clear c10b0
      try clear c10b1
      try clear c11
      try clear c11b0
      try clear c11b1
      try clear c12
      try clear c15
      try clear c20
      try clear c20b0
      try clear c20b1
      try clear c21
      try clear c21b0
      try clear c21b1
      try clear c22
      try clear c22b0
      try clear c24
      try clear Z12_0 Z12_1 Z12_2 Z12_3
      try clear Z13_0 Z13_1 Z13_2 Z13_3
      try clear Z14_0 Z14_1 Z14_2 Z14_3
      try clear Z17_0 Z17_1 Z17_2 Z17_3
      try clear Z25_0 Z25_1 Z25_2 Z25_3
      try clear Z26_0 Z26_1 Z26_2 Z26_3
      try clear Z27_0 Z27_1 Z27_2 Z27_3
      try clear Z28_0 Z28_1 Z28_2 Z28_3
      try clear Z29_0 Z29_1 Z29_2 Z29_3
      try clear Z8_0 Z8_1 Z8_2 Z8_3
      try clear Y12_0 Y12_1 Y12_2 Y12_3
      try clear Y13_0 Y13_1 Y13_2 Y13_3
      try clear Y14_0 Y14_1 Y14_2 Y14_3
      try clear Y17_0 Y17_1 Y17_2 Y17_3
      try clear Y25_0 Y25_1 Y25_2 Y25_3
      try clear Y26_0 Y26_1 Y26_2 Y26_3
      try clear Y27_0 Y27_1 Y27_2 Y27_3
      try clear Y28_0 Y28_1 Y28_2 Y28_3
      try clear Y29_0 Y29_1 Y29_2 Y29_3
      try clear Y8_0 Y8_1 Y8_2 Y8_3
      try clear p2
      obtain ⟨kq, x37_18, rfl, HA, HJ18, HO_0, BK177, HK, HB⟩ := hcut
      cases kq with
      | zero => exact absurd HA.out (by simp [spec_l4Apply.j1])
      | succ kj18 =>
       have H := HA.out
       clear HA
       simp only [spec_l4Apply.j1] at H
       by_cases c30 : x37_18 = true
       ·subst c30
        replace H := iT H
        obtain ⟨t184, A31, H⟩ := bd H
        by_cases c32 : 0 ≤ t178
        ·rw [if_pos c32] at H
         have c32b0 : decide (0 ≤ t178) = true := decide_eq_true c32
         clear c32
         by_cases c33 : t178 < (l0.length : Int)
         ·rw [if_pos c33] at H
          have c33b0 : decide (t178 < (l0.length : Int)) = true := decide_eq_true c33
          clear c33
          obtain ⟨t188, A34, H⟩ := bd H
          simp only [Option.some.injEq, Prod.mk.injEq] at H
          obtain ⟨rfl, rfl⟩ := H
          try go_wp2
          replace HO_0 := Aside0.mk (Kd.R_drew HO_0.out); replace BK177 := Aside0.mk (blk_drew BK177.out); replace HK := Aside0.mk (Kept.drew HK.out); replace HB := Aside0.mk (below_drew1 HB.out)
          have p187 : 0 ≤ (t178 : Int) := of_decide_eq_true am
          have q187 : t178 < (l0.length : Int) := of_decide_eq_true am
          obtain ⟨ad187, e187, hx187_0, hx187_1⟩ := at_T93 (Kd.R_reads' HO_0.out).2.2 t178 p187 q187
          cases e187
          replace p187 := eq_true p187
          replace q187 := eq_true q187
          refine start_ (n := 15) (S := fun w' => w'.cell? ⟨gb177, 0, none⟩ = some (.int .i64 a1_0) ∧ w'.cell? ⟨gb177, 1, none⟩ = some (.string a1_1) ∧ w'.cell? ⟨gb177, 2, none⟩ = some (.string a1_2) ∧ w'.cell? ⟨gb177, 3, none⟩ = some (.int .i64 a1_3) ∧ w'.cell? (ad187.add ((t178).toNat * 2)) = some (.string ((rd_T93 l0 t178).f0)) ∧ w'.cell? ⟨(ad187.add ((t178).toNat * 2)).block, (ad187.add ((t178).toNat * 2)).off + 1, none⟩ = some (.int .i64 ((rd_T93 l0 t178).f1))) (ds := []) (bo 15 0) (by kernel_rfl) rfl rfl ⟨cb 0 BK177, cb 1 BK177, cb 2 BK177, cb 3 BK177, hx187_0, hx187_1⟩ (fun hHeld => ?_); refine with_tabW spec_l4Apply.tab7 spec_l4Apply.bits7 (fun HT_ HW_ => ?_)
          generalize wc.drew = w35 at HO_0 BK177 HK HB hx187_0 hx187_1 hHeld ⊢
          refine pV 0 62 (bo 15 1) ?_
          refine pV 1 63 (bo 15 3) ?_
          refine pV 4 66 (bo 15 19) ?_
          refine pV 6 68 (bo 15 83) ?_
          refine pV 7 69 (bo 15 211) ?_
          refine pV 8 70 (bo 15 467) ?_
          refine pV 9 71 (bo 15 979) ?_
          refine tV 2 64 (bo 15 983) ?_
          refine tV 5 67 (bo 15 1015) ?_
          refine tV 10 72 (bo 15 2039) ?_
          refine pV 11 73 (bo 15 4087) ?_
          refine one_ (i := 3) (N := some 65) (bo 15 4095) rfl rfl (one_of HT_.out (by kernel_rfl)) (by decide) (fun K hK => ?_)
          refine goes_ Try.func128 (by kernel_rfl) rfl #[.slice (some ad187) l0.length co9, .string a1_1] (by rfl) rfl rfl sa ?_
          with_reducible refine (spec_l4Without.calls kj18 _ _ l0 a1_1 t184 _ ?side1 ?side2 A31.out).mono ?_
          (case side1 => exact ca ((Kd.R_reads' HO_0.out).2.2))
          (case side2 => exact (Kd.R_reads' HO_0.out).2.1)
          rintro e w36 ⟨v185, rfl, ho0, hb⟩
          have HS4_ := (hb.cell (World.block_lt_of_cell? _ _ (hHeld.2.2.2.2.1))).trans (hHeld.2.2.2.2.1)
          have HS5_ := (hb.cell (World.block_lt_of_cell? _ _ (hHeld.2.2.2.2.2))).trans (hHeld.2.2.2.2.2)
          refine ⟨_, rfl, ?_⟩
          have HO186 := Aside0.mk (Kd.R_lower (Kd.R_new' (Kd.R_newM (M := fun k_ => (P0_ k_ ∨ w.heap.size ≤ k_)) ho0 (by first | exact HK.out.1 | exact (show Kept w _ (fun k_ => P0_ k_) from by repeat (first | (with_reducible first | exact HK.out | apply Kept.alloc | apply Kept.drewN | apply Kept.drew | refine Kept.setCell ?_ (.inr GW177.out) _) | exact HK.out)).1) (fun k_ h_ => .inr h_)) (Kd.R_lt (rpR HO_0.out))) (below_size bl)); replace HO_0 := Aside0.mk (Kd.R_elder' (rpR HO_0.out) (Kd.R_base ho0) hb); replace BK177 := bv BK177 hb; replace HK := Aside0.mk (Kept.below (S := (fun k_ => P0_ k_)) (by repeat (first | (with_reducible first | exact HK.out | apply Kept.alloc | apply Kept.drewN | apply Kept.drew | refine Kept.setCell ?_ (.inr GW177.out) _) | exact HK.out)) hb); replace HB := bs (w := w0) hb; (try clear hb hb2 hk hi ho0)
          obtain ⟨Ao37, co37, eo37⟩ := Kd.R_slice HO186.out
          (first | subst eo37 | (injection eo37 with f1_ f2_ f3_; have f4_ := f1_.symm; have f5_ := f3_.symm; clear f1_ f2_ f3_; subst f4_; subst f5_))
          refine hK.out _ _ ⟨cb 0 BK177, cb 1 BK177, cb 2 BK177, cb 3 BK177, HS4_, HS5_⟩ (fun hHeld => ?_)
          clear hK K
          refine norm_ (a' := ?_) ?_ ?_
          rotate_left
          ·show Act.put _ (some 65) _ = _
           simp only [Act.put, List.setIfInBounds_toArray, List.set_cons_zero, List.set_cons_succ, i64_w, i32_w]
           rfl
          refine one_ (i := 12) (N := some 74) (bo 15 8191) rfl rfl (one_of HT_.out (by kernel_rfl)) (by decide) (fun K hK => ?_)
          refine goes_ Try.func127 (by kernel_rfl) rfl #[.slice Ao37 t184.length co37, .agg #[.string a1_2, .int .i64 ((rd_T93 l0 t178).f1)]] (by rfl) rfl rfl sa ?_
          with_reducible refine (spec_l4With.calls kj18 _ _ t184 a1_2 ((rd_T93 l0 t178).f1) t188 _ ?side1 ?side2 A34.out).mono ?_
          (case side1 => exact ca ((Kd.R_reads' HO186.out).2.2))
          (case side2 => exact (Kd.R_reads' HO186.out).2.1)
          rintro e w38 ⟨v189, rfl, ho0, hb⟩
          have HS4_ := (hb.cell (World.block_lt_of_cell? _ _ (hHeld.2.2.2.2.1))).trans (hHeld.2.2.2.2.1)
          have HS5_ := (hb.cell (World.block_lt_of_cell? _ _ (hHeld.2.2.2.2.2))).trans (hHeld.2.2.2.2.2)
          refine ⟨_, rfl, ?_⟩
          have HO190 := Aside0.mk (Kd.R_lower (Kd.R_new' (Kd.R_new' (Kd.R_newM (M := fun k_ => (P0_ k_ ∨ w.heap.size ≤ k_)) ho0 (by first | exact HK.out.1 | exact (show Kept w _ (fun k_ => P0_ k_) from by repeat (first | (with_reducible first | exact HK.out | apply Kept.alloc | apply Kept.drewN | apply Kept.drew | refine Kept.setCell ?_ (.inr GW177.out) _) | exact HK.out)).1) (fun k_ h_ => .inr h_)) (Kd.R_lt (rpR HO_0.out))) (Kd.R_lt (rpR HO186.out))) (below_size bl)); replace HO_0 := Aside0.mk (Kd.R_elder' (rpR HO_0.out) (Kd.R_base ho0) hb); replace HO186 := Aside0.mk (Kd.R_elder' (rpR HO186.out) (Kd.R_base ho0) hb); replace BK177 := bv BK177 hb; replace HK := Aside0.mk (Kept.below (S := (fun k_ => P0_ k_)) (by repeat (first | (with_reducible first | exact HK.out | apply Kept.alloc | apply Kept.drewN | apply Kept.drew | refine Kept.setCell ?_ (.inr GW177.out) _) | exact HK.out)) hb); replace HB := bs (w := w0) hb; (try clear hb hb2 hk hi ho0)
          refine hK.out _ _ ⟨cb 0 BK177, cb 1 BK177, cb 2 BK177, cb 3 BK177, HS4_, HS5_⟩ (fun hHeld => ?_)
          clear hK K
          refine norm_ (a' := ?_) ?_ ?_
          rotate_left
          ·show Act.put _ (some 74) _ = _
           simp only [Act.put, List.setIfInBounds_toArray, List.set_cons_zero, List.set_cons_succ, i64_w, i32_w]
           rfl
          refine pV 13 4 (bo 15 16383) ?_
          refine pV 14 5 (bo 15 32767) ?_
          refine done_ (done_of HT_.out (by kernel_rfl)) ?_
          try go_wp2
          go_ret2
          exact ⟨_, fe, rpR (Kd.R_mono HO190.out (fun _ hk => hk.1.1.1)), bl, by repeat (first | (with_reducible first | exact HK.out | apply Kept.alloc | apply Kept.drewN | apply Kept.drew | refine Kept.setCell ?_ (.inr GW177.out) _) | exact HK.out)⟩
         ·rw [if_neg c33] at H
          exact absurd H (by simp)
        ·rw [if_neg c32] at H
         exact absurd H (by simp)
       ·replace c30 := Bool.eq_false_iff.mpr c30
        subst c30
        replace H := iF H
        by_cases c39 : a1_0 = 3
        ·rw [if_pos c39] at H
         have c39b0 : (a1_0 == 3) = true := beq_iff_eq.mpr c39
         have c39b1 : (a1_0 != 3) = false := bne_eq_false_iff_eq.mpr c39
         clear c39
         by_cases c40 : a1_3 = 0
         ·rw [if_pos c40] at H
          have c40b0 : (a1_3 == 0) = true := beq_iff_eq.mpr c40
          have c40b1 : (a1_3 != 0) = false := bne_eq_false_iff_eq.mpr c40
          clear c40
          by_cases c41 : a1_2.toList = ([] : List UInt8)
          ·rw [if_pos c41] at H
           have c41b0 : (a1_2.toList == ([] : List UInt8)) = true := beq_iff_eq.mpr c41
           have c41bE := c41b0; simp only [show ∀ l_ : List UInt8, (l_ == []) = l_.isEmpty from fun l_ => by cases l_ <;> rfl] at c41bE
           have c41b1 : (a1_2.toList != ([] : List UInt8)) = false := bne_eq_false_iff_eq.mpr c41
           clear c41
           by_cases c42 : t178 ≥ 0
           ·rw [if_pos c42] at H
            have c42b0 : decide (0 ≤ t178) = true := decide_eq_true c42
            clear c42
            obtain ⟨t191, A43, H⟩ := bd H
            simp only [Option.some.injEq, Prod.mk.injEq] at H
            obtain ⟨rfl, rfl⟩ := H
            obtain ⟨Z44_0, Z44_1, Z44_2, Z44_3, Y44_0, Y44_1, Y44_2, Y44_3⟩ := cf4 BK177
            go_wp2_with (first | ((with_reducible refine gC 128 rfl ?_); refine goesZ (some 96) rfl Try.func128 #[.slice Ao9 l0.length co9, .string a1_1] ?_; (with_reducible refine (spec_l4Without.calls kj18 _ _ l0 a1_1 t191 _ ?side1 ?side2 A43.out).mono ?_); (case side1 => exact ca ((Kd.R_reads' HO_0.out).2.2)); (case side2 => exact (Kd.R_reads' HO_0.out).2.1); rintro e w45 ⟨v192, rfl, ho0, hb⟩; refine ⟨_, rfl, ?_⟩; have HO193 := Aside0.mk (Kd.R_lower (Kd.R_new' (Kd.R_newM (M := fun k_ => (P0_ k_ ∨ w.heap.size ≤ k_)) ho0 (by first | exact HK.out.1 | exact (show Kept w _ (fun k_ => P0_ k_) from by repeat (first | (with_reducible first | exact HK.out | apply Kept.alloc | apply Kept.drewN | apply Kept.drew | refine Kept.setCell ?_ (.inr GW177.out) _) | exact HK.out)).1) (fun k_ h_ => .inr h_)) (Kd.R_lt (rpR HO_0.out))) (below_size bl)); replace HO_0 := Aside0.mk (Kd.R_elder' (rpR HO_0.out) (Kd.R_base ho0) hb); replace BK177 := bv BK177 hb; replace HK := Aside0.mk (Kept.below (S := (fun k_ => P0_ k_)) (by repeat (first | (with_reducible first | exact HK.out | apply Kept.alloc | apply Kept.drewN | apply Kept.drew | refine Kept.setCell ?_ (.inr GW177.out) _) | exact HK.out)) hb); replace HB := bs (w := w0) hb; (try clear hb ho0)))
            go_ret2
            exact ⟨_, fe, rpR (Kd.R_mono HO193.out (fun _ hk => hk.1.1)), bl, by repeat (first | (with_reducible first | exact HK.out | apply Kept.alloc | apply Kept.drewN | apply Kept.drew | refine Kept.setCell ?_ (.inr GW177.out) _) | exact HK.out)⟩
           ·rw [if_neg c42] at H
            have c42b0 : decide (0 ≤ t178) = false := decide_eq_false c42
            clear c42
            simp only [Option.some.injEq, Prod.mk.injEq] at H
            obtain ⟨rfl, rfl⟩ := H
            obtain ⟨Z46_0, Z46_1, Z46_2, Z46_3, Y46_0, Y46_1, Y46_2, Y46_3⟩ := cf4 BK177
            go_wp2
            go_ret2
            exact ⟨_, fe, rpR HO_0.out, bl, by repeat (first | (with_reducible first | exact HK.out | apply Kept.alloc | apply Kept.drewN | apply Kept.drew | refine Kept.setCell ?_ (.inr GW177.out) _) | exact HK.out)⟩
          ·rw [if_neg c41] at H
           have c41b0 : (a1_2.toList == ([] : List UInt8)) = false := beq_eq_false_iff_ne.mpr c41
           have c41bE := c41b0; simp only [show ∀ l_ : List UInt8, (l_ == []) = l_.isEmpty from fun l_ => by cases l_ <;> rfl] at c41bE
           have c41b1 : (a1_2.toList != ([] : List UInt8)) = true := bne_iff_ne.mpr c41
           simp only [Option.some.injEq, Prod.mk.injEq] at H
           obtain ⟨rfl, rfl⟩ := H
           obtain ⟨Z47_0, Z47_1, Z47_2, Z47_3, Y47_0, Y47_1, Y47_2, Y47_3⟩ := cf4 BK177
           go_wp2
           go_ret2
           exact ⟨_, fe, rpR HO_0.out, bl, by repeat (first | (with_reducible first | exact HK.out | apply Kept.alloc | apply Kept.drewN | apply Kept.drew | refine Kept.setCell ?_ (.inr GW177.out) _) | exact HK.out)⟩
         ·rw [if_neg c40] at H
          have c40b0 : (a1_3 == 0) = false := beq_eq_false_iff_ne.mpr c40
          have c40b1 : (a1_3 != 0) = true := bne_iff_ne.mpr c40
          simp only [Option.some.injEq, Prod.mk.injEq] at H
          obtain ⟨rfl, rfl⟩ := H
          obtain ⟨Z48_0, Z48_1, Z48_2, Z48_3, Y48_0, Y48_1, Y48_2, Y48_3⟩ := cf4 BK177
          go_wp2
          go_ret2
          exact ⟨_, fe, rpR HO_0.out, bl, by repeat (first | (with_reducible first | exact HK.out | apply Kept.alloc | apply Kept.drewN | apply Kept.drew | refine Kept.setCell ?_ (.inr GW177.out) _) | exact HK.out)⟩
        ·rw [if_neg c39] at H
         have c39b0 : (a1_0 == 3) = false := beq_eq_false_iff_ne.mpr c39
         have c39b1 : (a1_0 != 3) = true := bne_iff_ne.mpr c39
         simp only [Option.some.injEq, Prod.mk.injEq] at H
         obtain ⟨rfl, rfl⟩ := H
         obtain ⟨Z49_0, Z49_1, Z49_2, Z49_3, Y49_0, Y49_1, Y49_2, Y49_3⟩ := cf4 BK177
         go_wp2
         go_ret2
         exact ⟨_, fe, rpR HO_0.out, bl, by repeat (first | (with_reducible first | exact HK.out | apply Kept.alloc | apply Kept.drewN | apply Kept.drew | refine Kept.setCell ?_ (.inr GW177.out) _) | exact HK.out)⟩
 ·replace c5 := Bool.eq_false_iff.mpr c5
  subst c5
  replace H := iF H
  simp only [Option.some.injEq, Prod.mk.injEq] at H
  obtain ⟨rfl, rfl⟩ := H
  go_enter Try.func81, Try.ntmps81
  go_wp2_with (first | ((with_reducible refine gD 3 rfl ?_); refine boxZ 3 #[.int .i64 a1_0, .string a1_1, .string a1_2, .int .i64 a1_3] 95 ?_; intro gb177 hg w50 hbox hb; replace HO0 := Aside0.mk (Kd.R_below (rpR HO0.out) hb); have BK177 := Aside0.mk hbox; have GW177 := Aside0.mk ((by rw [hg]; exact (by first | exact HK.out.1 | exact (show Kept w _ (fun k_ => P0_ k_) from by repeat (first | (with_reducible first | exact HK.out | apply Kept.alloc | apply Kept.drewN | apply Kept.drew) | exact HK.out)).1) : w.heap.size ≤ gb177)); replace HK := Aside0.mk (Kept.below (S := (fun k_ => P0_ k_)) (by repeat (first | (with_reducible first | exact HK.out | apply Kept.alloc | apply Kept.drewN | apply Kept.drew) | exact HK.out)) hb); have GE177 := gw (w := w0) hg; replace HB := bs (w := w0) hb; clear hb hbox hg; obtain ⟨Z51_0, Z51_1, Z51_2, Z51_3, Y51_0, Y51_1, Y51_2, Y51_3⟩ := cf4 BK177; obtain ⟨Ao52, co52, rfl⟩ := Kd.R_slice HO0.out) | ((with_reducible refine gC 126 rfl ?_); refine goesZ (some 10) rfl Try.func126 #[.slice Ao52 l0.length co52, .string a1_1] ?_; (with_reducible refine (spec_l4At.calls k _ _ l0 a1_1 t178 _ ?side1 ?side2 A3.out).mono ?_); (case side1 => exact ca ((Kd.R_reads' HO0.out).2.2)); (case side2 => exact (Kd.R_reads' HO0.out).2.1); rintro e w' ⟨rfl, ⟨nd, rfl⟩⟩; refine ⟨_, rfl, ?_⟩) | ((with_reducible refine gC 79 rfl ?_); refine goesZ (some 14) rfl Try.func79 #[.string a1_1] ?_; (with_reducible refine (spec_l4Name.calls k a1_1 false _ A4.out).mono ?_); rintro e w' ⟨rfl, ⟨nd, rfl⟩⟩; refine ⟨_, rfl, ?_⟩))
  go_ret2
  exact ⟨_, fe, rpR HO0.out, bl, by repeat (first | (with_reducible first | exact HK.out | apply Kept.alloc | apply Kept.drewN | apply Kept.drew | refine Kept.setCell ?_ (.inr GW177.out) _) | exact HK.out)⟩
end Go.Proofs.Ytjcmcamijaelbaa.PDisk
