/- Functions of the program, each with its contract, written by a program out of the translation. -/
import Derived.Test.YtjcmcamijaelbaaPDiskx0
import Derived.Test.YtjcmcamijaelbaaPDiskx5
import Derived.Test.YtjcmcamijaelbaaPDiskx14
import Derived.Test.YtjcmcamijaelbaaZip
namespace Go.Proofs.Ytjcmcamijaelbaa.PDisk
open Go.RowKit Go.Proofs.YtjcmcamijaelbaaW.PrintWords Go.Proofs.YtjcmcamijaelbaaW.PrintLast Go.Proofs.YtjcmcamijaelbaaW.PrintMore Go.Proofs.Ytjcmcamijaelbaa.Zip
attribute [local go_sem] max2_int min2_int max_two min_two max_three min_three max_four min_four   -- for this text's walks alone
set_option linter.unusedVariables false
set_option linter.unusedSimpArgs false
/-! ### spec_List: function 31 -/
def spec_List.l0 : Nat → List ByteArray → List (S93) → Int → Option (List ByteArray)
 | 0, _, _, _ => none
 | k + 1, x3, x4, x5 => if x5 < (x4.length : Int) then (if 0 ≤ x5 then (if x3.length < 8796093022208 then (spec_List.l0 k (x3 ++ [(rd_T93 x4 x5).f0]) x4 (wrap64 (x5 + 1))) else (none)) else (none)) else (some x3)
def spec_List.f (k : Nat) (a0_0 : Int) (a0_1 : Int) (l0_2 : List (S89)) (l0_3 : List (S93)) (l0_4 : List (S95)) : Option (List ByteArray) := (some (([] : List ByteArray) : List ByteArray)).bind fun y323 => ((spec_DiskOk.f k a0_0 a0_1 l0_2 l0_3 l0_4).bind fun t326 => (if t326 = true then ((spec_l4Names.f k a0_0 a0_1 l0_2 l0_3 l0_4 (l0_4.length : Int)).bind fun t327 => (spec_List.l0 k y323 t327 0)) else (some y323)))
theorem spec_List.mono_l : ∀ k, (∀ y0 y1 y2, LeO (spec_List.l0 k y0 y1 y2) (spec_List.l0 (k + 1) y0 y1 y2))
 | 0 => fun _ _ _ r h => by simp [spec_List.l0] at h
 | k + 1 => by
  have ih0 := spec_List.mono_l k
  ·intro y0 y1 y2
   unfold spec_List.l0
   repeat' first
   | (with_reducible exact ih0 _ _ _)
   | (with_reducible exact spec_DiskOk.mono _ _ _ _ _ _)
   | (with_reducible exact spec_l4Names.mono _ _ _ _ _ _ _)
   | (with_reducible exact LeO.refl _)
   | (with_reducible exact LeO.none _)
   | (with_reducible refine LeO.ite ?_ ?_)
   | (with_reducible refine LeO.bind ?_ (fun _ => ?_))
theorem spec_List.mono : ∀ a0 a1 a2 a3 a4 k, LeO (spec_List.f k a0 a1 a2 a3 a4) (spec_List.f (k + 1) a0 a1 a2 a3 a4) := by
 intro a0 a1 a2 a3 a4 k; have ih0 := spec_List.mono_l k; unfold spec_List.f
 repeat' first
  | (with_reducible exact ih0 _ _ _)
  | (with_reducible exact spec_DiskOk.mono _ _ _ _ _ _)
  | (with_reducible exact spec_l4Names.mono _ _ _ _ _ _ _)
  | (with_reducible exact LeO.refl _)
  | (with_reducible exact LeO.none _)
  | (with_reducible refine LeO.ite ?_ ?_)
  | (with_reducible refine LeO.bind ?_ (fun _ => ?_))
set_option maxHeartbeats 8000000 in
set_option maxRecDepth 100000 in
theorem spec_List.calls (k : Nat) (a0_0 : Int) (a0_1 : Int) (A0_2 : Option Addr) (c0_2 : Nat) (l0_2 : List (S89)) (A0_3 : Option Addr) (c0_3 : Nat) (l0_3 : List (S93)) (A0_4 : Option Addr) (c0_4 : Nat) (l0_4 : List (S95)) (r : List ByteArray) (w : World) (hr0_2 : Kd.C k89 w A0_2 l0_2.length l0_2) (hc0_2 : l0_2.length ≤ c0_2) (hr0_3 : Kd.C k93 w A0_3 l0_3.length l0_3) (hc0_3 : l0_3.length ≤ c0_3) (hr0_4 : Kd.C k95 w A0_4 l0_4.length l0_4) (hc0_4 : l0_4.length ≤ c0_4) (h : spec_List.f k a0_0 a0_1 l0_2 l0_3 l0_4 = some r) :
 Calls Try.prog 31 #[.agg #[.int .i64 a0_0, .int .i64 a0_1, .slice A0_2 l0_2.length c0_2, .slice A0_3 l0_3.length c0_3, .slice A0_4 l0_4.length c0_4]] w fun e w' => ∃ v0_ : Value, e = .returned (v0_) ∧ Kd.R Kd.string 9 w' w.heap.size (fun _ => True) v0_ r ∧ Below w.heap.size w w' := by
 have hu26 := Try.underlying26; have HR0_2 := Aside0.mk hr0_2; have HC0_2 := Aside0.mk hc0_2; clear hr0_2 hc0_2; have HR0_3 := Aside0.mk hr0_3; have HC0_3 := Aside0.mk hc0_3; clear hr0_3 hc0_3; have HR0_4 := Aside0.mk hr0_4; have HC0_4 := Aside0.mk hc0_4; clear hr0_4 hc0_4; have HB := Aside0.mk (Below.refl w.heap.size w); have H : ((some (([] : List ByteArray) : List ByteArray)).bind fun y323 => ((spec_DiskOk.f k a0_0 a0_1 l0_2 l0_3 l0_4).bind fun t326 => (if t326 = true then ((spec_l4Names.f k a0_0 a0_1 l0_2 l0_3 l0_4 (l0_4.length : Int)).bind fun t327 => (spec_List.l0 k y323 t327 0)) else (some y323)))) = some r := h; clear h
 obtain ⟨y323, hy323⟩ : ∃ y_ : List ByteArray, y_ = (([] : List ByteArray)) := ⟨_, rfl⟩
 replace H : ((spec_DiskOk.f k a0_0 a0_1 l0_2 l0_3 l0_4).bind fun t326 => (if t326 = true then ((spec_l4Names.f k a0_0 a0_1 l0_2 l0_3 l0_4 (l0_4.length : Int)).bind fun t327 => (spec_List.l0 k y323 t327 0)) else (some y323))) = some r := by first | (rw [hy323]; with_reducible exact H) | (have H2_ := (Option.bind_some _ _).symm.trans H; rw [hy323]; with_reducible exact H2_) | (have H2_ := (Option.bind_some _ _).symm.trans H; with_reducible exact H2_) | with_reducible exact H | (rw [hy323]; exact H) | exact H
 have Ny323 := Aside0.mk hy323; clear hy323; obtain ⟨t326, A2, H⟩ := bd H; by_cases c3 : t326 = true
 ·subst c3; replace H := iT H; obtain ⟨t327, A4, H⟩ := bd H; have H' := Aside0.mk H; clear H
  go_enter Try.func31, Try.ntmps31
  go_wp2_with (first | ((with_reducible refine gD 1 rfl ?_); refine boxZ 1 #[.int .i64 a0_0, .int .i64 a0_1, .slice A0_2 l0_2.length c0_2, .slice A0_3 l0_3.length c0_3, .slice A0_4 l0_4.length c0_4] 26 ?_; intro gb322 hg w5 hbox hb; have BK322 := Aside0.mk hbox; have GW322 := gw (w := w) hg; have GE322 := gw (w := w) hg; replace HB := bs (w := w) hb; clear hb hbox hg) | ((with_reducible refine gD 6 rfl ?_); refine Kd.R_lit Kd.string _ 9 ?hg (N := 6) ?hd (xs := ([] : List ByteArray)) (inner := []) (ok := fun _ => True) (okp := fun _ => True) ?hr ?hp (fun _ hk => hk) trivial (Below.refl _ _) (Nat.le_refl _) (by simp) ?_; (case hd => rfl); (case hg => rfl); (case hr => first | (go_simp; done) | (go_simp; rfl)); (case hp => exact (Reps.none _ _)); intro v324 w6 ho7 hb hg_ hnew_; clear hg_ hnew_; (first | rw [← Ny323.out] at ho7 | (simp only [Int.reduceToNat] at ho7; rw [← Ny323.out] at ho7)); have HO325 := Aside0.mk (Kd.R_lower ho7 (below_size bl)); replace BK322 := bv BK322 hb; replace HB := bs (w := w) hb; clear hb ho7; obtain ⟨Z8_0, Z8_1, Z8_2, Z8_3, Z8_4, Y8_0, Y8_1, Y8_2, Y8_3, Y8_4⟩ := cf5 BK322) | ((with_reducible refine gC 26 rfl ?_); refine goesZ (some 8) rfl Try.func26 #[.agg #[.int .i64 a0_0, .int .i64 a0_1, .slice A0_2 l0_2.length c0_2, .slice A0_3 l0_3.length c0_3, .slice A0_4 l0_4.length c0_4]] ?_; (with_reducible refine (spec_DiskOk.calls k a0_0 a0_1 _ _ l0_2 _ _ l0_3 _ _ l0_4 true _ ?side1 ?side2 ?side3 ?side4 ?side5 ?side6 A2.out).mono ?_); (case side1 => exact ca (Kd.C_below HR0_2.out HB.out)); (case side2 => exact HC0_2.out); (case side3 => exact ca (Kd.C_below HR0_3.out HB.out)); (case side4 => exact HC0_3.out); (case side5 => exact ca (Kd.C_below HR0_4.out HB.out)); (case side6 => exact HC0_4.out); rintro e w9 ⟨rfl, hb⟩; refine ⟨_, rfl, ?_⟩; replace HO325 := Aside0.mk (Kd.R_below (rpR HO325.out) hb); replace BK322 := bv BK322 hb; replace HB := bs (w := w) hb; (try clear hb); obtain ⟨Z10_0, Z10_1, Z10_2, Z10_3, Z10_4, Y10_0, Y10_1, Y10_2, Y10_3, Y10_4⟩ := cf5 BK322) | ((with_reducible refine gC 92 rfl ?_); refine goesZ (some 15) rfl Try.func92 #[.agg #[.int .i64 a0_0, .int .i64 a0_1, .slice A0_2 l0_2.length c0_2, .slice A0_3 l0_3.length c0_3, .slice A0_4 l0_4.length c0_4], .int .i64 (l0_4.length : Int)] ?_; (with_reducible refine (spec_l4Names.calls k a0_0 a0_1 _ _ l0_2 _ _ l0_3 _ _ l0_4 (l0_4.length : Int) t327 _ ?side1 ?side2 ?side3 ?side4 ?side5 ?side6 A4.out).mono ?_); (case side1 => exact ca (Kd.C_below HR0_2.out HB.out)); (case side2 => exact HC0_2.out); (case side3 => exact ca (Kd.C_below HR0_3.out HB.out)); (case side4 => exact HC0_3.out); (case side5 => exact ca (Kd.C_below HR0_4.out HB.out)); (case side6 => exact HC0_4.out); rintro e w11 ⟨v328, rfl, ho0, hb⟩; refine ⟨_, rfl, ?_⟩; replace HO325 := Aside0.mk (Kd.R_below (rpR HO325.out) hb); have HO329 := Aside0.mk (Kd.R_lower ho0 (below_size bl)); replace BK322 := bv BK322 hb; replace HB := bs (w := w) hb; (try clear hb ho0)))
  go_loopg [3, 5] k (fun kq v3 v5 w' => ∃ (x3_1 : List ByteArray) (x5_1 : Int), v5 = .int .i64 x5_1 ∧ Aside0 (spec_List.l0 kq x3_1 t327 x5_1 = some r) ∧ Aside0 (kq ≤ k) ∧ Aside0 (Kd.R Kd.string 9 w' w.heap.size (fun _ => True) v3 x3_1) ∧ Aside0 (Kd.R k93 93 w' w.heap.size (fun _ => True) v328 t327) ∧ Aside0 (w'.heap[gb322]? = some (.cells #[.int .i64 a0_0, .int .i64 a0_1, (.slice A0_2 l0_2.length c0_2), (.slice A0_3 l0_3.length c0_3), (.slice A0_4 l0_4.length c0_4)] 26 (0, 0))) ∧ Aside0 (Below w.heap.size w w'))
  case atStart => exact ⟨(y323), (0), fa, H', ⟨Nat.le_refl _⟩, ⟨rpR HO325.out⟩, ⟨rpR HO329.out⟩, ⟨by (with_reducible repeat (first | refine blk_drewN ?_ _ | refine blk_drew ?_ | refine blk_alloc ?_ _)); exact BK322.out⟩, ⟨bl⟩⟩
  case round =>
   clear H'; (try clear c2); (try clear p2); (try clear c3); (try clear c9); (try clear Z10_0 Z10_1 Z10_2 Z10_3 Z10_4); (try clear Z8_0 Z8_1 Z8_2 Z8_3 Z8_4); (try clear Y10_0 Y10_1 Y10_2 Y10_3 Y10_4); (try clear Y8_0 Y8_1 Y8_2 Y8_3 Y8_4); obtain ⟨x3_1, x5_1, rfl, HA, HK1, HO_3, HO_4, BK322, HB⟩ := hrel
   cases gk with
   | zero => exact absurd HA.out (by simp [spec_List.l0])
   | succ k1 =>
    have H := HA.out; clear HA; simp only [spec_List.l0] at H; by_cases c12 : x5_1 < (t327.length : Int)
    ·rw [if_pos c12] at H; have c12b0 : decide (x5_1 < (t327.length : Int)) = true := decide_eq_true c12; clear c12; by_cases c13 : 0 ≤ x5_1
     ·rw [if_pos c13] at H; have c13b0 : decide (0 ≤ x5_1) = true := decide_eq_true c13; clear c13; by_cases c14 : x3_1.length < 8796093022208
      ·rw [if_pos c14] at H; have LMc14 := Aside0.mk c14; clear c14
       obtain ⟨y331, hy331⟩ : ∃ y_ : List ByteArray, y_ = (x3_1 ++ [(rd_T93 t327 x5_1).f0]) := ⟨_, rfl⟩
       replace H : (spec_List.l0 k1 y331 t327 (wrap64 (x5_1 + 1))) = some r := by first | (rw [hy331]; with_reducible exact H) | (have H2_ := (Option.bind_some _ _).symm.trans H; rw [hy331]; with_reducible exact H2_) | (have H2_ := (Option.bind_some _ _).symm.trans H; with_reducible exact H2_) | with_reducible exact H | (rw [hy331]; exact H) | exact H
       have Ny331 := Aside0.mk hy331; clear hy331; have H' := Aside0.mk H; clear H; obtain ⟨Ao15, co15, eo15⟩ := Kd.R_slice HO_4.out; subst eo15; have p330 : 0 ≤ (x5_1 : Int) := of_decide_eq_true am; have q330 : x5_1 < (t327.length : Int) := of_decide_eq_true am; obtain ⟨ad330, e330, hx330_0, hx330_1⟩ := at_T93 (Kd.R_reads' HO_4.out).2.2 x5_1 p330 q330
       cases e330
       replace p330 := eq_true p330; replace q330 := eq_true q330
       go_wp2_with (first | ((with_reducible refine gate_builtin (b := .append) (xs := #[.tmp 22, .tmp 28]) rfl ?_); at_builtin; refine Kd.R_append Kd.string (w0 := w) w.heap.size rfl (.tmp 22) (.tmp 28) 52 9 (.string ⟨#[]⟩) 16 rfl Try.underlying52 info9 rfl (by decide) (by omega) u3 x3_1 ((rd_T93 t327 x5_1).f0) [.string ((rd_T93 t327 x5_1).f0)] (fun _ => True) (fun _ => False) rfl rfl ?aP (fun _ hk => hk.elim) ?aF ?aO ?aB ?aS ?aL ?_; (case aP => exact rfl); (case aB => exact bl); (case aF => exact (fun _ _ => trivial)); (case aO => exact (rpR HO_3.out)); (case aS => exact (below_size bl)); (case aL => have := LMc14.out; omega); intro v332 w16 ho hb hg hat; rw [← Ny331.out] at ho; replace HO_4 := Aside0.mk (Kd.R_over' (rpR HO_4.out) (Kd.R_typed (rpR HO_3.out)) (by decide) hg); replace BK322 := Aside0.mk (blk_grown (g := gb322) (o := .cells #[.int .i64 a0_0, .int .i64 a0_1, .slice A0_2 l0_2.length c0_2, .slice A0_3 l0_3.length c0_3, .slice A0_4 l0_4.length c0_4] 26 (0, 0)) bk hg (Kd.R_ne HO_3.out BK322.out (by decide))); replace HB := Aside0.mk (hb); have HO333 := Aside0.mk (ho); clear HO_3; clear ho hb hg hat))
       go_roundg k1
       case measure => have := HK1.out; omega
       case rel => exact ⟨(y331), (wrap64 (x5_1 + 1)), fa, H', ⟨by have := HK1.out; omega⟩, ⟨rpR HO333.out⟩, ⟨rpR HO_4.out⟩, ⟨by (with_reducible repeat (first | refine blk_drewN ?_ _ | refine blk_drew ?_ | refine blk_alloc ?_ _)); exact BK322.out⟩, ⟨bl⟩⟩
      ·rw [if_neg c14] at H
       exact absurd H (by simp)
     ·rw [if_neg c13] at H
      exact absurd H (by simp)
    ·rw [if_neg c12] at H; have c12b0 : decide (x5_1 < (t327.length : Int)) = false := decide_eq_false c12; clear c12; obtain rfl := Option.some.inj H; obtain ⟨Ao17, co17, eo17⟩ := Kd.R_slice HO_4.out; subst eo17
     go_wp2
     go_ret
     exact ⟨_, fe, rpR HO_3.out, bl⟩
 ·replace c3 := Bool.eq_false_iff.mpr c3; subst c3; replace H := iF H; obtain rfl := Option.some.inj H
  go_enter Try.func31, Try.ntmps31
  go_wp2_with (first | ((with_reducible refine gD 1 rfl ?_); refine boxZ 1 #[.int .i64 a0_0, .int .i64 a0_1, .slice A0_2 l0_2.length c0_2, .slice A0_3 l0_3.length c0_3, .slice A0_4 l0_4.length c0_4] 26 ?_; intro gb322 hg w18 hbox hb; have BK322 := Aside0.mk hbox; have GW322 := gw (w := w) hg; have GE322 := gw (w := w) hg; replace HB := bs (w := w) hb; clear hb hbox hg) | ((with_reducible refine gD 6 rfl ?_); refine Kd.R_lit Kd.string _ 9 ?hg (N := 6) ?hd (xs := ([] : List ByteArray)) (inner := []) (ok := fun _ => True) (okp := fun _ => True) ?hr ?hp (fun _ hk => hk) trivial (Below.refl _ _) (Nat.le_refl _) (by simp) ?_; (case hd => rfl); (case hg => rfl); (case hr => first | (go_simp; done) | (go_simp; rfl)); (case hp => exact (Reps.none _ _)); intro v324 w19 ho20 hb hg_ hnew_; clear hg_ hnew_; (first | rw [← Ny323.out] at ho20 | (simp only [Int.reduceToNat] at ho20; rw [← Ny323.out] at ho20)); have HO325 := Aside0.mk (Kd.R_lower ho20 (below_size bl)); replace BK322 := bv BK322 hb; replace HB := bs (w := w) hb; clear hb ho20; obtain ⟨Z21_0, Z21_1, Z21_2, Z21_3, Z21_4, Y21_0, Y21_1, Y21_2, Y21_3, Y21_4⟩ := cf5 BK322) | ((with_reducible refine gC 26 rfl ?_); refine goesZ (some 8) rfl Try.func26 #[.agg #[.int .i64 a0_0, .int .i64 a0_1, .slice A0_2 l0_2.length c0_2, .slice A0_3 l0_3.length c0_3, .slice A0_4 l0_4.length c0_4]] ?_; (with_reducible refine (spec_DiskOk.calls k a0_0 a0_1 _ _ l0_2 _ _ l0_3 _ _ l0_4 false _ ?side1 ?side2 ?side3 ?side4 ?side5 ?side6 A2.out).mono ?_); (case side1 => exact ca (Kd.C_below HR0_2.out HB.out)); (case side2 => exact HC0_2.out); (case side3 => exact ca (Kd.C_below HR0_3.out HB.out)); (case side4 => exact HC0_3.out); (case side5 => exact ca (Kd.C_below HR0_4.out HB.out)); (case side6 => exact HC0_4.out); rintro e w22 ⟨rfl, hb⟩; refine ⟨_, rfl, ?_⟩; replace HO325 := Aside0.mk (Kd.R_below (rpR HO325.out) hb); replace BK322 := bv BK322 hb; replace HB := bs (w := w) hb; (try clear hb)))
  go_ret
  exact ⟨_, fe, rpR HO325.out, bl⟩
end Go.Proofs.Ytjcmcamijaelbaa.PDisk
