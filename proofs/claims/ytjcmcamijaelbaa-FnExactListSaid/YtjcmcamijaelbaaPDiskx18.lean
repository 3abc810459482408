/- Functions of the program, each with its contract, written by a program out of the translation. -/
import Derived.Test.YtjcmcamijaelbaaPDiskx0
import Derived.Test.YtjcmcamijaelbaaPDiskx13
import Derived.Test.YtjcmcamijaelbaaPDiskx15
import Derived.Test.YtjcmcamijaelbaaZip
namespace Go.Proofs.Ytjcmcamijaelbaa.PDisk
open Go.RowKit Go.Proofs.YtjcmcamijaelbaaW.PrintWords Go.Proofs.YtjcmcamijaelbaaW.PrintLast Go.Proofs.YtjcmcamijaelbaaW.PrintMore Go.Proofs.Ytjcmcamijaelbaa.Zip
attribute [local go_sem] max2_int min2_int max_two min_two max_three min_three max_four min_four   -- for this text's walks alone
set_option linter.unusedVariables false
set_option linter.unusedSimpArgs false
/-! ### impl_List: function 32 -/
def impl_List.l0 : Nat → List ByteArray → List (S93) → Int → Int → Option (List ByteArray)
 | 0, _, _, _, _ => none
 | k + 1, x3, x15, x16, x17 => if x17 < x16 then (if 0 ≤ x17 then (if x17 < (x15.length : Int) then (if x3.length < 8796093022208 then (impl_List.l0 k (x3 ++ [(rd_T93 x15 x17).f0]) x15 x16 (wrap64 (x17 + 1))) else (none)) else (none)) else (none)) else (some x3)
def impl_List.f (k : Nat) (a0_0 : Int) (a0_1 : Int) (l0_2 : List (S89)) (l0_3 : List (S93)) (l0_4 : List (S95)) : Option (List ByteArray) := (some (([] : List ByteArray) : List ByteArray)).bind fun y419 => ((impl_DiskOk.f k a0_0 a0_1 l0_2 l0_3 l0_4).bind fun t422 => (if t422 = true then ((impl_names.f k l0_3 l0_4).bind fun t423 => (impl_List.l0 k y419 t423 (t423.length : Int) 0)) else (some y419)))
theorem impl_List.mono_l : ∀ k, (∀ y0 y1 y2 y3, LeO (impl_List.l0 k y0 y1 y2 y3) (impl_List.l0 (k + 1) y0 y1 y2 y3))
 | 0 => fun _ _ _ _ r h => by simp [impl_List.l0] at h
 | k + 1 => by
  have ih0 := impl_List.mono_l k
  ·intro y0 y1 y2 y3
   unfold impl_List.l0
   repeat' first
   | (with_reducible exact ih0 _ _ _ _)
   | (with_reducible exact impl_DiskOk.mono _ _ _ _ _ _)
   | (with_reducible exact impl_names.mono _ _ _)
   | (with_reducible exact LeO.refl _)
   | (with_reducible exact LeO.none _)
   | (with_reducible refine LeO.ite ?_ ?_)
   | (with_reducible refine LeO.bind ?_ (fun _ => ?_))
theorem impl_List.mono : ∀ a0 a1 a2 a3 a4 k, LeO (impl_List.f k a0 a1 a2 a3 a4) (impl_List.f (k + 1) a0 a1 a2 a3 a4) := by
 intro a0 a1 a2 a3 a4 k; have ih0 := impl_List.mono_l k; unfold impl_List.f
 repeat' first
  | (with_reducible exact ih0 _ _ _ _)
  | (with_reducible exact impl_DiskOk.mono _ _ _ _ _ _)
  | (with_reducible exact impl_names.mono _ _ _)
  | (with_reducible exact LeO.refl _)
  | (with_reducible exact LeO.none _)
  | (with_reducible refine LeO.ite ?_ ?_)
  | (with_reducible refine LeO.bind ?_ (fun _ => ?_))
set_option maxHeartbeats 8000000 in
set_option maxRecDepth 100000 in
theorem impl_List.calls (k : Nat) (a0_0 : Int) (a0_1 : Int) (A0_2 : Option Addr) (c0_2 : Nat) (l0_2 : List (S89)) (A0_3 : Option Addr) (c0_3 : Nat) (l0_3 : List (S93)) (A0_4 : Option Addr) (c0_4 : Nat) (l0_4 : List (S95)) (r : List ByteArray) (w : World) (hr0_2 : Kd.C k89 w A0_2 l0_2.length l0_2) (hc0_2 : l0_2.length ≤ c0_2) (hr0_3 : Kd.C k93 w A0_3 l0_3.length l0_3) (hc0_3 : l0_3.length ≤ c0_3) (hr0_4 : Kd.C k95 w A0_4 l0_4.length l0_4) (hc0_4 : l0_4.length ≤ c0_4) (h : impl_List.f k a0_0 a0_1 l0_2 l0_3 l0_4 = some r) :
 Calls Try.prog 32 #[.agg #[.int .i64 a0_0, .int .i64 a0_1, .slice A0_2 l0_2.length c0_2, .slice A0_3 l0_3.length c0_3, .slice A0_4 l0_4.length c0_4]] w fun e w' => ∃ v0_ : Value, e = .returned (v0_) ∧ Kd.R Kd.string 9 w' w.heap.size (fun _ => True) v0_ r ∧ Below w.heap.size w w' := by
 have hu26 := Try.underlying26; have hu93 := Try.underlying93; have HR0_2 := Aside0.mk hr0_2; have HC0_2 := Aside0.mk hc0_2; clear hr0_2 hc0_2; have HR0_3 := Aside0.mk hr0_3; have HC0_3 := Aside0.mk hc0_3; clear hr0_3 hc0_3; have HR0_4 := Aside0.mk hr0_4; have HC0_4 := Aside0.mk hc0_4; clear hr0_4 hc0_4; have HB := Aside0.mk (Below.refl w.heap.size w); have H : ((some (([] : List ByteArray) : List ByteArray)).bind fun y419 => ((impl_DiskOk.f k a0_0 a0_1 l0_2 l0_3 l0_4).bind fun t422 => (if t422 = true then ((impl_names.f k l0_3 l0_4).bind fun t423 => (impl_List.l0 k y419 t423 (t423.length : Int) 0)) else (some y419)))) = some r := h; clear h
 obtain ⟨y419, hy419⟩ : ∃ y_ : List ByteArray, y_ = (([] : List ByteArray)) := ⟨_, rfl⟩
 replace H : ((impl_DiskOk.f k a0_0 a0_1 l0_2 l0_3 l0_4).bind fun t422 => (if t422 = true then ((impl_names.f k l0_3 l0_4).bind fun t423 => (impl_List.l0 k y419 t423 (t423.length : Int) 0)) else (some y419))) = some r := by first | (rw [hy419]; with_reducible exact H) | (have H2_ := (Option.bind_some _ _).symm.trans H; rw [hy419]; with_reducible exact H2_) | (have H2_ := (Option.bind_some _ _).symm.trans H; with_reducible exact H2_) | with_reducible exact H | (rw [hy419]; exact H) | exact H
 have Ny419 := Aside0.mk hy419; clear hy419; obtain ⟨t422, A2, H⟩ := bd H; by_cases c3 : t422 = true
 ·subst c3; replace H := iT H; obtain ⟨t423, A4, H⟩ := bd H; have H' := Aside0.mk H; clear H
  go_enter Try.func32, Try.ntmps32
  go_wp2_with (first | ((with_reducible refine gD 1 rfl ?_); refine boxZ 1 #[.int .i64 a0_0, .int .i64 a0_1, .slice A0_2 l0_2.length c0_2, .slice A0_3 l0_3.length c0_3, .slice A0_4 l0_4.length c0_4] 26 ?_; intro gb418 hg w5 hbox hb; have BK418 := Aside0.mk hbox; have GW418 := gw (w := w) hg; have GE418 := gw (w := w) hg; replace HB := bs (w := w) hb; clear hb hbox hg) | ((with_reducible refine gD 6 rfl ?_); refine Kd.R_lit Kd.string _ 9 ?hg (N := 6) ?hd (xs := ([] : List ByteArray)) (inner := []) (ok := fun _ => True) (okp := fun _ => True) ?hr ?hp (fun _ hk => hk) trivial (Below.refl _ _) (Nat.le_refl _) (by simp) ?_; (case hd => rfl); (case hg => rfl); (case hr => first | (go_simp; done) | (go_simp; rfl)); (case hp => exact (Reps.none _ _)); intro v420 w6 ho7 hb hg_ hnew_; clear hg_ hnew_; (first | rw [← Ny419.out] at ho7 | (simp only [Int.reduceToNat] at ho7; rw [← Ny419.out] at ho7)); have HO421 := Aside0.mk (Kd.R_lower ho7 (below_size bl)); replace BK418 := bv BK418 hb; replace HB := bs (w := w) hb; clear hb ho7; obtain ⟨Z8_0, Z8_1, Z8_2, Z8_3, Z8_4, Y8_0, Y8_1, Y8_2, Y8_3, Y8_4⟩ := cf5 BK418) | ((with_reducible refine gC 28 rfl ?_); refine goesZ (some 8) rfl Try.func28 #[.agg #[.int .i64 a0_0, .int .i64 a0_1, .slice A0_2 l0_2.length c0_2, .slice A0_3 l0_3.length c0_3, .slice A0_4 l0_4.length c0_4]] ?_; (with_reducible refine (impl_DiskOk.calls k a0_0 a0_1 _ _ l0_2 (fun k_ => k_ < w.heap.size) _ _ l0_3 _ _ l0_4 true _ ?side1 ?side2 ?side3 ?side4 ?side5 A2.out).mono ?_); (case side1 => exact ca (Kd.C_below HR0_2.out HB.out)); (case side2 => exact HC0_2.out); (case side3 => exact Kd.V_mk HC0_3.out (Kd.F_below (Kd.C_F k93_heap HR0_3.out) bl)); (case side4 => exact ca (Kd.C_below HR0_4.out HB.out)); (case side5 => exact HC0_4.out); rintro e w9 ⟨rfl, hb⟩; refine ⟨_, rfl, ?_⟩; replace HO421 := Aside0.mk (Kd.R_below (rpR HO421.out) hb); replace BK418 := bv BK418 hb; replace HB := bs (w := w) hb; (try clear hb); obtain ⟨Z10_0, Z10_1, Z10_2, Z10_3, Z10_4, Y10_0, Y10_1, Y10_2, Y10_3, Y10_4⟩ := cf5 BK418) | ((with_reducible refine gC 93 rfl ?_); refine goesZ (some 15) rfl Try.func93 #[.slice A0_3 l0_3.length c0_3, .slice A0_4 l0_4.length c0_4] ?_; (with_reducible refine (impl_names.calls k _ _ l0_3 _ _ l0_4 t423 _ ?side1 ?side2 ?side3 ?side4 A4.out).mono ?_); (case side1 => exact ca (Kd.C_below HR0_3.out HB.out)); (case side2 => exact HC0_3.out); (case side3 => exact ca (Kd.C_below HR0_4.out HB.out)); (case side4 => exact HC0_4.out); rintro e w11 ⟨v424, rfl, ho0, hb⟩; refine ⟨_, rfl, ?_⟩; replace HO421 := Aside0.mk (Kd.R_below (rpR HO421.out) hb); have HO425 := Aside0.mk (Kd.R_lower ho0 (below_size bl)); replace BK418 := bv BK418 hb; replace HB := bs (w := w) hb; (try clear hb ho0); obtain ⟨Ao12, co12, rfl⟩ := Kd.R_slice HO425.out))
  go_loopg [3, 17] k (fun kq v3 v17 w' => ∃ (x3_1 : List ByteArray) (x17_1 : Int), v17 = .int .i64 x17_1 ∧ Aside0 (impl_List.l0 kq x3_1 t423 (t423.length : Int) x17_1 = some r) ∧ Aside0 (kq ≤ k) ∧ Aside0 (Kd.R Kd.string 9 w' w.heap.size (fun _ => True) v3 x3_1) ∧ Aside0 (Kd.R k93 93 w' w.heap.size (fun _ => True) (.slice Ao12 t423.length co12) t423) ∧ Aside0 (w'.heap[gb418]? = some (.cells #[.int .i64 a0_0, .int .i64 a0_1, (.slice A0_2 l0_2.length c0_2), (.slice A0_3 l0_3.length c0_3), (.slice A0_4 l0_4.length c0_4)] 26 (0, 0))) ∧ Aside0 (Below w.heap.size w w'))
  case atStart => exact ⟨(y419), (0), fa, H', ⟨Nat.le_refl _⟩, ⟨rpR HO421.out⟩, ⟨rpR HO425.out⟩, ⟨by (with_reducible repeat (first | refine blk_drewN ?_ _ | refine blk_drew ?_ | refine blk_alloc ?_ _)); exact BK418.out⟩, ⟨bl⟩⟩
  case round =>
   clear H'; (try clear c2); (try clear p2); (try clear c3); (try clear c9); (try clear Z10_0 Z10_1 Z10_2 Z10_3 Z10_4); (try clear Z8_0 Z8_1 Z8_2 Z8_3 Z8_4); (try clear Y10_0 Y10_1 Y10_2 Y10_3 Y10_4); (try clear Y8_0 Y8_1 Y8_2 Y8_3 Y8_4); obtain ⟨x3_1, x17_1, rfl, HA, HK1, HO_3, HO_15, BK418, HB⟩ := hrel
   cases gk with
   | zero => exact absurd HA.out (by simp [impl_List.l0])
   | succ k1 =>
    have H := HA.out; clear HA; simp only [impl_List.l0] at H; by_cases c13 : x17_1 < (t423.length : Int)
    ·rw [if_pos c13] at H; have c13b0 : decide (x17_1 < (t423.length : Int)) = true := decide_eq_true c13; clear c13; by_cases c14 : 0 ≤ x17_1
     ·rw [if_pos c14] at H; have c14b0 : decide (0 ≤ x17_1) = true := decide_eq_true c14; clear c14; by_cases c15 : x17_1 < (t423.length : Int)
      ·rw [if_pos c15] at H; have c15b0 : decide (x17_1 < (t423.length : Int)) = true := decide_eq_true c15; clear c15; by_cases c16 : x3_1.length < 8796093022208
       ·rw [if_pos c16] at H; have LMc16 := Aside0.mk c16; clear c16
        obtain ⟨y428, hy428⟩ : ∃ y_ : List ByteArray, y_ = (x3_1 ++ [(rd_T93 t423 x17_1).f0]) := ⟨_, rfl⟩
        replace H : (impl_List.l0 k1 y428 t423 (t423.length : Int) (wrap64 (x17_1 + 1))) = some r := by first | (rw [hy428]; with_reducible exact H) | (have H2_ := (Option.bind_some _ _).symm.trans H; rw [hy428]; with_reducible exact H2_) | (have H2_ := (Option.bind_some _ _).symm.trans H; with_reducible exact H2_) | with_reducible exact H | (rw [hy428]; exact H) | exact H
        have Ny428 := Aside0.mk hy428; clear hy428; have H' := Aside0.mk H; clear H; have p426 : 0 ≤ (x17_1 : Int) := of_decide_eq_true am; have q426 : x17_1 < (t423.length : Int) := of_decide_eq_true am; obtain ⟨ad426, e426, hx426_0, hx426_1⟩ := at_T93 (Kd.R_reads' HO_15.out).2.2 x17_1 p426 q426
        cases e426
        replace p426 := eq_true p426; replace q426 := eq_true q426
        go_wp2_with (first | ((with_reducible refine gD 5 rfl ?_); refine boxZ 5 #[.string (⟨#[]⟩ : ByteArray), .int .i64 0] 93 ?_; intro gb427 hg w17 hbox hb; replace HO_3 := Aside0.mk (Kd.R_below (rpR HO_3.out) hb); replace HO_15 := Aside0.mk (Kd.R_below (Kd.R_elderB (rpR HO_15.out) gb427 (Nat.le_of_eq hg.symm)) hb); have BK427 := Aside0.mk hbox; have GW427 := gw (w := w) hg; have GE427 := gw (w := w) hg; replace HB := bs (w := w) hb; have NB418_427 := nl BK418 hg; have NB427_418 := nr BK418 hg; replace BK418 := bv BK418 hb; clear hb hbox hg; have hnb18 := NB427_418.out; have hnc18 := NB418_427.out; obtain ⟨Z19_0, Z19_1, Y19_0, Y19_1⟩ := cf2 BK427) | ((with_reducible refine gate_builtin (b := .append) (xs := #[.tmp 21, .tmp 24]) rfl ?_); at_builtin; refine Kd.R_append Kd.string (w0 := w) w.heap.size rfl (.tmp 21) (.tmp 24) 52 9 (.string ⟨#[]⟩) 16 rfl Try.underlying52 info9 rfl (by decide) (by omega) u3 x3_1 ((rd_T93 t423 x17_1).f0) [.string ((rd_T93 t423 x17_1).f0)] (fun _ => True) (fun _ => False) rfl (by first | (go_simp; done) | (go_simp; rfl)) ?aP (fun _ hk => hk.elim) ?aF ?aO ?aB ?aS ?aL ?_; (case aP => exact rfl); (case aB => exact bl); (case aF => exact (fun _ _ => trivial)); (case aO => exact (rpR (Kd.R_mono (Kd.R_far (p := ⟨gb427, 1, none⟩) (Kd.R_far (p := ⟨gb427, 0, none⟩) (Kd.R_types HO_3.out BK427.out (by decide)) (fun _ hk => hk.2) (.string ((rd_T93 t423 x17_1).f0))) (fun _ hk => hk.2) (.int .i64 ((rd_T93 t423 x17_1).f1))) (fun _ hk => trivial)))); (case aS => exact (below_size bl)); (case aL => have := LMc16.out; omega); intro v429 w20 ho hb hg hat; rw [← Ny428.out] at ho; replace HO_15 := Aside0.mk (Kd.R_over' (rpR (Kd.R_mono (Kd.R_far (p := ⟨gb427, 1, none⟩) (Kd.R_far (p := ⟨gb427, 0, none⟩) (Kd.R_mono HO_15.out (fun k_ hk => (⟨hk, hk.2⟩ : _ ∧ k_ ≠ gb427))) (fun _ hk => hk.2) (.string ((rd_T93 t423 x17_1).f0))) (fun _ hk => hk.2) (.int .i64 ((rd_T93 t423 x17_1).f1))) (fun _ h_ => h_.1))) (Kd.R_typed (rpR (Kd.R_mono (Kd.R_far (p := ⟨gb427, 1, none⟩) (Kd.R_far (p := ⟨gb427, 0, none⟩) (Kd.R_types HO_3.out BK427.out (by decide)) (fun _ hk => hk.2) (.string ((rd_T93 t423 x17_1).f0))) (fun _ hk => hk.2) (.int .i64 ((rd_T93 t423 x17_1).f1))) (fun _ h_ => h_.1)))) (by decide) hg); replace BK418 := Aside0.mk (blk_grown (g := gb418) (o := .cells #[.int .i64 a0_0, .int .i64 a0_1, .slice A0_2 l0_2.length c0_2, .slice A0_3 l0_3.length c0_3, .slice A0_4 l0_4.length c0_4] 26 (0, 0)) bkk hg (Kd.R_ne HO_3.out BK418.out (by decide))); replace BK427 := Aside0.mk (blk_grown (g := gb427) (o := .cells #[.string ((rd_T93 t423 x17_1).f0), .int .i64 ((rd_T93 t423 x17_1).f1)] 93 (0, 0)) bkk hg (Kd.R_ne HO_3.out BK427.out (by decide))); replace HB := Aside0.mk (hb); have HO430 := Aside0.mk (ho); clear HO_3; clear ho hb hg hat))
        go_roundg k1
        case measure => have := HK1.out; omega
        case rel => exact ⟨(y428), (wrap64 (x17_1 + 1)), fa, H', ⟨by have := HK1.out; omega⟩, ⟨rpR HO430.out⟩, ⟨rpR (Kd.R_mono HO_15.out (fun _ hk => trivial))⟩, ⟨by (with_reducible repeat (first | refine blk_drewN ?_ _ | refine blk_drew ?_ | refine blk_alloc ?_ _)); exact BK418.out⟩, ⟨bl⟩⟩
       ·rw [if_neg c16] at H
        exact absurd H (by simp)
      ·rw [if_neg c15] at H
       exact absurd H (by simp)
     ·rw [if_neg c14] at H
      exact absurd H (by simp)
    ·rw [if_neg c13] at H; have c13b0 : decide (x17_1 < (t423.length : Int)) = false := decide_eq_false c13; clear c13; obtain rfl := Option.some.inj H
     go_wp2
     go_ret
     exact ⟨_, fe, rpR HO_3.out, bl⟩
 ·replace c3 := Bool.eq_false_iff.mpr c3; subst c3; replace H := iF H; obtain rfl := Option.some.inj H
  go_enter Try.func32, Try.ntmps32
  go_wp2_with (first | ((with_reducible refine gD 1 rfl ?_); refine boxZ 1 #[.int .i64 a0_0, .int .i64 a0_1, .slice A0_2 l0_2.length c0_2, .slice A0_3 l0_3.length c0_3, .slice A0_4 l0_4.length c0_4] 26 ?_; intro gb418 hg w21 hbox hb; have BK418 := Aside0.mk hbox; have GW418 := gw (w := w) hg; have GE418 := gw (w := w) hg; replace HB := bs (w := w) hb; clear hb hbox hg) | ((with_reducible refine gD 6 rfl ?_); refine Kd.R_lit Kd.string _ 9 ?hg (N := 6) ?hd (xs := ([] : List ByteArray)) (inner := []) (ok := fun _ => True) (okp := fun _ => True) ?hr ?hp (fun _ hk => hk) trivial (Below.refl _ _) (Nat.le_refl _) (by simp) ?_; (case hd => rfl); (case hg => rfl); (case hr => first | (go_simp; done) | (go_simp; rfl)); (case hp => exact (Reps.none _ _)); intro v420 w22 ho23 hb hg_ hnew_; clear hg_ hnew_; (first | rw [← Ny419.out] at ho23 | (simp only [Int.reduceToNat] at ho23; rw [← Ny419.out] at ho23)); have HO421 := Aside0.mk (Kd.R_lower ho23 (below_size bl)); replace BK418 := bv BK418 hb; replace HB := bs (w := w) hb; clear hb ho23; obtain ⟨Z24_0, Z24_1, Z24_2, Z24_3, Z24_4, Y24_0, Y24_1, Y24_2, Y24_3, Y24_4⟩ := cf5 BK418) | ((with_reducible refine gC 28 rfl ?_); refine goesZ (some 8) rfl Try.func28 #[.agg #[.int .i64 a0_0, .int .i64 a0_1, .slice A0_2 l0_2.length c0_2, .slice A0_3 l0_3.length c0_3, .slice A0_4 l0_4.length c0_4]] ?_; (with_reducible refine (impl_DiskOk.calls k a0_0 a0_1 _ _ l0_2 (fun k_ => k_ < w.heap.size) _ _ l0_3 _ _ l0_4 false _ ?side1 ?side2 ?side3 ?side4 ?side5 A2.out).mono ?_); (case side1 => exact ca (Kd.C_below HR0_2.out HB.out)); (case side2 => exact HC0_2.out); (case side3 => exact Kd.V_mk HC0_3.out (Kd.F_below (Kd.C_F k93_heap HR0_3.out) bl)); (case side4 => exact ca (Kd.C_below HR0_4.out HB.out)); (case side5 => exact HC0_4.out); rintro e w25 ⟨rfl, hb⟩; refine ⟨_, rfl, ?_⟩; replace HO421 := Aside0.mk (Kd.R_below (rpR HO421.out) hb); replace BK418 := bv BK418 hb; replace HB := bs (w := w) hb; (try clear hb)))
  go_ret
  exact ⟨_, fe, rpR HO421.out, bl⟩
end Go.Proofs.Ytjcmcamijaelbaa.PDisk
