/- Functions of the program, each with its contract, written by a program out of the translation. -/
import Derived.Test.YtjcmcamijaelbaaPDiskx0
import Derived.Test.YtjcmcamijaelbaaPDiskx3
import Derived.Test.YtjcmcamijaelbaaPDiskx4
import Derived.Test.YtjcmcamijaelbaaPDiskx5
import Derived.Test.YtjcmcamijaelbaaZip
namespace Go.Proofs.Ytjcmcamijaelbaa.PDisk
open Go.RowKit Go.Proofs.YtjcmcamijaelbaaW.PrintWords Go.Proofs.YtjcmcamijaelbaaW.PrintLast Go.Proofs.YtjcmcamijaelbaaW.PrintMore Go.Proofs.Ytjcmcamijaelbaa.Zip
attribute [local go_sem] max2_int min2_int max_two min_two max_three min_three max_four min_four   -- for this text's walks alone
set_option linter.unusedVariables false
set_option linter.unusedSimpArgs false
/-! ### spec_l4Names: function 92 -/
def spec_l4Names.l0 : Nat → Int → List (S93) → Int → Int → Int → List (S89) → List (S93) → List (S95) → Option ((List (S93)))
 | 0, _, _, _, _, _, _, _, _ => none
 | k + 1, x1, x5, x6, x288000, x288001, x288002, x288003, x288004 => if x6 < x1 then (if x6 < (x288004.length : Int) then (if 0 ≤ x6 then ((spec_l4Apply.f k x5 ((rd_T95 x288004 x6).f0) ((rd_T95 x288004 x6).f1) ((rd_T95 x288004 x6).f2) ((rd_T95 x288004 x6).f3)).bind fun bt295 => (spec_l4Names.l0 k x1 bt295.1 (wrap64 (x6 + 1)) x288000 x288001 x288002 x288003 x288004)) else (none)) else (some x5)) else (some x5)
def spec_l4Names.f (k : Nat) (a0_0 : Int) (a0_1 : Int) (l0_2 : List (S89)) (l0_3 : List (S93)) (l0_4 : List (S95)) (a1 : Int) : Option ((List (S93))) := (some (([] : List (S93)) : List (S93))).bind fun y288 => (if y288.length + l0_3.length < 5864062014805 then (spec_l4Names.l0 k a1 (y288 ++ l0_3) 0 a0_0 a0_1 l0_2 l0_3 l0_4) else (none))
theorem spec_l4Names.mono_l : ∀ k, (∀ y0 y1 y2 y3 y4 y5 y6 y7, LeO (spec_l4Names.l0 k y0 y1 y2 y3 y4 y5 y6 y7) (spec_l4Names.l0 (k + 1) y0 y1 y2 y3 y4 y5 y6 y7))
 | 0 => fun _ _ _ _ _ _ _ _ r h => by simp [spec_l4Names.l0] at h
 | k + 1 => by
  have ih0 := spec_l4Names.mono_l k
  ·intro y0 y1 y2 y3 y4 y5 y6 y7
   unfold spec_l4Names.l0
   repeat' first
   | (with_reducible exact ih0 _ _ _ _ _ _ _ _)
   | (with_reducible exact spec_l4Apply.mono _ _ _ _ _ _)
   | (with_reducible exact LeO.refl _)
   | (with_reducible exact LeO.none _)
   | (with_reducible refine LeO.ite ?_ ?_)
   | (with_reducible refine LeO.bind ?_ (fun _ => ?_))
   | exact ih0 _ _ _ _ _ _ _ _
   | exact spec_l4Apply.mono _ _ _ _ _ _
   | exact LeO.none _
   | refine LeO.ite ?_ ?_
   | refine LeO.bind ?_ (fun _ => ?_)
theorem spec_l4Names.mono : ∀ a0 a1 a2 a3 a4 a5 k, LeO (spec_l4Names.f k a0 a1 a2 a3 a4 a5) (spec_l4Names.f (k + 1) a0 a1 a2 a3 a4 a5) := by
 intro a0 a1 a2 a3 a4 a5 k
 have ih0 := spec_l4Names.mono_l k
 unfold spec_l4Names.f
 repeat' first
  | (with_reducible exact ih0 _ _ _ _ _ _ _ _)
  | (with_reducible exact spec_l4Apply.mono _ _ _ _ _ _)
  | (with_reducible exact LeO.refl _)
  | (with_reducible exact LeO.none _)
  | (with_reducible refine LeO.ite ?_ ?_)
  | (with_reducible refine LeO.bind ?_ (fun _ => ?_))
  | exact ih0 _ _ _ _ _ _ _ _
  | exact spec_l4Apply.mono _ _ _ _ _ _
  | exact LeO.none _
  | refine LeO.ite ?_ ?_
  | refine LeO.bind ?_ (fun _ => ?_)
set_option maxHeartbeats 8000000 in
set_option maxRecDepth 100000 in
theorem spec_l4Names.calls (k : Nat) (a0_0 : Int) (a0_1 : Int) (A0_2 : Option Addr) (c0_2 : Nat) (l0_2 : List (S89)) (A0_3 : Option Addr) (c0_3 : Nat) (l0_3 : List (S93)) (A0_4 : Option Addr) (c0_4 : Nat) (l0_4 : List (S95)) (a1 : Int) (r : List (S93)) (w : World) (hr0_2 : Kd.C k89 w A0_2 l0_2.length l0_2) (hc0_2 : l0_2.length ≤ c0_2) (hr0_3 : Kd.C k93 w A0_3 l0_3.length l0_3) (hc0_3 : l0_3.length ≤ c0_3) (hr0_4 : Kd.C k95 w A0_4 l0_4.length l0_4) (hc0_4 : l0_4.length ≤ c0_4) (h : spec_l4Names.f k a0_0 a0_1 l0_2 l0_3 l0_4 a1 = some r) :
 Calls Try.prog 92 #[.agg #[.int .i64 a0_0, .int .i64 a0_1, .slice A0_2 l0_2.length c0_2, .slice A0_3 l0_3.length c0_3, .slice A0_4 l0_4.length c0_4], .int .i64 a1] w fun e w' => ∃ v0_ : Value, e = .returned (v0_) ∧ Kd.R k93 93 w' w.heap.size (fun _ => True) v0_ r ∧ Below w.heap.size w w' := by
 have hu26 := Try.underlying26
 have hu95 := Try.underlying95
 have HR0_2 := Aside0.mk hr0_2
 have HC0_2 := Aside0.mk hc0_2
 clear hr0_2 hc0_2
 have HR0_3 := Aside0.mk hr0_3
 have HC0_3 := Aside0.mk hc0_3
 clear hr0_3 hc0_3
 have HR0_4 := Aside0.mk hr0_4
 have HC0_4 := Aside0.mk hc0_4
 clear hr0_4 hc0_4
 have HB := Aside0.mk (Below.refl w.heap.size w)
 have H : ((some (([] : List (S93)) : List (S93))).bind fun y288 => (if y288.length + l0_3.length < 5864062014805 then (spec_l4Names.l0 k a1 (y288 ++ l0_3) 0 a0_0 a0_1 l0_2 l0_3 l0_4) else (none))) = some r := h
 clear h
 obtain ⟨y288, hy288⟩ : ∃ y_ : List (S93), y_ = (([] : List (S93))) := ⟨_, rfl⟩
 replace H : (if y288.length + l0_3.length < 5864062014805 then (spec_l4Names.l0 k a1 (y288 ++ l0_3) 0 a0_0 a0_1 l0_2 l0_3 l0_4) else (none)) = some r := by first | (rw [hy288]; with_reducible exact H) | (have H2_ := (Option.bind_some _ _).symm.trans H; rw [hy288]; with_reducible exact H2_) | (have H2_ := (Option.bind_some _ _).symm.trans H; with_reducible exact H2_) | with_reducible exact H | (rw [hy288]; exact H) | exact H
 have Ny288 := Aside0.mk hy288
 clear hy288
 by_cases c3 : y288.length + l0_3.length < 5864062014805
 ·rw [if_pos c3] at H
  have LMc3 := Aside0.mk c3
  clear c3
  obtain ⟨y291, hy291⟩ : ∃ y_ : List (S93), y_ = (y288 ++ l0_3) := ⟨_, rfl⟩
  replace H : (spec_l4Names.l0 k a1 y291 0 a0_0 a0_1 l0_2 l0_3 l0_4) = some r := by first | (rw [hy291]; with_reducible exact H) | (have H2_ := (Option.bind_some _ _).symm.trans H; rw [hy291]; with_reducible exact H2_) | (have H2_ := (Option.bind_some _ _).symm.trans H; with_reducible exact H2_) | with_reducible exact H | (rw [hy291]; exact H) | exact H
  have Ny291 := Aside0.mk hy291
  clear hy291
  have H' := Aside0.mk H
  clear H
  go_enter Try.func92, Try.ntmps92
  go_wp2_with (first | ((with_reducible refine gD 2 rfl ?_); (try (refine gate_guard rfl ?_; dsimp only)); refine boxZ 2 #[.int .i64 a0_0, .int .i64 a0_1, .slice A0_2 l0_2.length c0_2, .slice A0_3 l0_3.length c0_3, .slice A0_4 l0_4.length c0_4] 26 ?_; intro gb287 hg w4 hbox hb; have BK287 := Aside0.mk hbox; have GW287 := gw (w := w) hg; have GE287 := gw (w := w) hg; replace HB := bs (w := w) hb; clear hb hbox hg) | ((with_reducible refine gD 7 rfl ?_); (try (refine gate_guard rfl ?_; dsimp only)); refine Kd.R_lit k93 _ 93 ?hg (N := 7) ?hd (xs := ([] : List (S93))) (inner := []) (ok := fun _ => True) (okp := fun _ => True) ?hr ?hp (fun _ hk => hk) trivial (Below.refl _ _) (Nat.le_refl _) (by simp) ?_; (case hd => rfl); (case hg => rfl); (case hr => first | (go_simp; done) | (go_simp; rfl)); (case hp => exact (Reps.none _ _)); intro v289 w5 ho6 hb hg_ hnew_; clear hg_ hnew_; (first | rw [← Ny288.out] at ho6 | (simp only [Int.reduceToNat] at ho6; rw [← Ny288.out] at ho6)); have HO290 := Aside0.mk (Kd.R_lower ho6 (below_size bl)); replace BK287 := bv BK287 hb; replace HB := bs (w := w) hb; clear hb ho6; obtain ⟨Z7_0, Z7_1, Z7_2, Z7_3, Z7_4, Y7_0, Y7_1, Y7_2, Y7_3, Y7_4⟩ := cf5 BK287) | ((with_reducible refine gate_builtin (b := .append) (xs := #[.tmp 7, .tmp 9]) rfl ?_); (try (refine gate_guard rfl ?_; dsimp only)); at_builtin; refine Kd.R_append_rows k93 (w0 := w) w.heap.size rfl (.tmp 7) (.tmp 9) 23 93 (.agg #[(.string ⟨#[]⟩), (.int .i64 0)]) 24 rfl Try.underlying23 info93 rfl (by decide) (by omega) v289 y288 l0_3 _ _ _ (fun _ => True) (fun _ => False) rfl rfl ?aO ?aR (fun _ _ h => h) (fun _ h => h.elim) ?aF ?aB ?aS ?aL ?_; (case aR => exact ca (Kd.C_below HR0_3.out HB.out)); (case aB => exact bl); (case aF => exact (fun _ _ => trivial)); (case aO => exact (rpR HO290.out)); (case aS => exact (below_size bl)); (case aL => have := LMc3.out; omega); intro v292 w8 ho hb hg hat; rw [← Ny291.out] at ho; replace BK287 := Aside0.mk (blk_grown (g := gb287) (o := .cells #[.int .i64 a0_0, .int .i64 a0_1, .slice A0_2 l0_2.length c0_2, .slice A0_3 l0_3.length c0_3, .slice A0_4 l0_4.length c0_4] 26 (0, 0)) bk hg (Kd.R_ne HO290.out BK287.out (by decide))); replace HB := Aside0.mk (hb); have HO293 := Aside0.mk (ho); clear HO290; clear ho hb hg hat))
  go_loopg [5, 6] k (fun kq v5 v6 w' => ∃ (x5_1 : List (S93)) (x6_1 : Int), v6 = .int .i64 x6_1 ∧ Aside0 (spec_l4Names.l0 kq a1 x5_1 x6_1 a0_0 a0_1 l0_2 l0_3 l0_4 = some r) ∧ Aside0 (kq ≤ k) ∧ Aside0 (Kd.R k93 93 w' w.heap.size (fun _ => True) v5 x5_1) ∧ Aside0 (w'.heap[gb287]? = some (.cells #[.int .i64 a0_0, .int .i64 a0_1, (.slice A0_2 l0_2.length c0_2), (.slice A0_3 l0_3.length c0_3), (.slice A0_4 l0_4.length c0_4)] 26 (0, 0))) ∧ Aside0 (Below w.heap.size w w'))
  case atStart => exact ⟨(y291), (0), fa, H', ⟨Nat.le_refl _⟩, ⟨rpR HO293.out⟩, ⟨by (with_reducible repeat (first | refine blk_drewN ?_ _ | refine blk_drew ?_ | refine blk_alloc ?_ _)); exact BK287.out⟩, ⟨bl⟩⟩
  case round =>
   clear H'
   try clear p2
   try clear c3
   try clear Z7_0 Z7_1 Z7_2 Z7_3 Z7_4 Y7_0 Y7_1 Y7_2 Y7_3 Y7_4
   obtain ⟨x5_1, x6_1, rfl, HA, HK1, HO_5, BK287, HB⟩ := hrel
   cases gk with
   | zero => exact absurd HA.out (by simp [spec_l4Names.l0])
   | succ k1 =>
    have H := HA.out
    clear HA
    simp only [spec_l4Names.l0] at H
    by_cases c9 : x6_1 < a1
    ·rw [if_pos c9] at H
     have c9b0 : decide (x6_1 < a1) = true := decide_eq_true c9
     clear c9
     by_cases c10 : x6_1 < (l0_4.length : Int)
     ·rw [if_pos c10] at H
      have c10b0 : decide (x6_1 < (l0_4.length : Int)) = true := decide_eq_true c10
      clear c10
      by_cases c11 : 0 ≤ x6_1
      ·rw [if_pos c11] at H
       have c11b0 : decide (0 ≤ x6_1) = true := decide_eq_true c11
       clear c11
       replace H := Option.bind_eq_some_iff.mp H
       obtain ⟨⟨t295, t298⟩, A120, H⟩ := H
       replace H : (spec_l4Names.l0 k1 a1 t295 (wrap64 (x6_1 + 1)) a0_0 a0_1 l0_2 l0_3 l0_4) = some r := H
       have A12 := Aside0.mk A120
       clear A120
       have H' := Aside0.mk H
       clear H
       obtain ⟨Z13_0, Z13_1, Z13_2, Z13_3, Z13_4, Y13_0, Y13_1, Y13_2, Y13_3, Y13_4⟩ := cf5 BK287
       have p294 : 0 ≤ (x6_1 : Int) := of_decide_eq_true am
       have q294 : x6_1 < (l0_4.length : Int) := of_decide_eq_true am
       obtain ⟨ad294, e294, hx294_0, hx294_1, hx294_2, hx294_3⟩ := at_T95 HR0_4.out x6_1 p294 q294
       cases e294
       replace hx294_0 := cz HB hx294_0
       replace hx294_1 := cz HB hx294_1
       replace hx294_2 := cz HB hx294_2
       replace hx294_3 := cz HB hx294_3
       replace p294 := eq_true p294
       replace q294 := eq_true q294
       obtain ⟨Ao14, co14, eo14⟩ := Kd.R_slice HO_5.out
       subst eo14
       go_wp2_with (first | ((with_reducible refine gC 81 rfl ?_); refine goesZ (some 30) rfl Try.func81 #[.slice Ao14 x5_1.length co14, .agg #[.int .i64 ((rd_T95 l0_4 x6_1).f0), .string ((rd_T95 l0_4 x6_1).f1), .string ((rd_T95 l0_4 x6_1).f2), .int .i64 ((rd_T95 l0_4 x6_1).f3)]] ?_; (with_reducible refine (spec_l4Apply.calls k1 (fun k_ => some k_ = (.slice Ao14 x5_1.length co14 : Value).ownBlock) (.slice Ao14 x5_1.length co14) x5_1 ((rd_T95 l0_4 x6_1).f0) ((rd_T95 l0_4 x6_1).f1) ((rd_T95 l0_4 x6_1).f2) ((rd_T95 l0_4 x6_1).f3) t295 t298 w _ ?side1 ?side2 A12.out).mono ?_); (case side1 => repeat (first | (with_reducible first | exact HB.out | apply below_alloc | apply pw_below_drewN | apply below_drew1 | refine below_set ?_ GE287.out) | exact HB.out)); (case side2 => exact Kd.R_tight rfl HO_5.out); rintro e w15 ⟨v296, rfl, ho0, hb, hkp⟩; refine ⟨_, rfl, ?_⟩; replace BK287 := Aside0.mk (blk_kept bk hkp (fun hs_ => (fun e_ => (Kd.R_ne HO_5.out BK287.out (by decide)) e_) hs_)); have HO297 := Aside0.mk (Kd.R_mono (ok' := fun k_ => True) ho0 (fun k_ hk_ => trivial)); replace HB := Aside0.mk (hb); clear HO_5; (try clear hb hkp ho0)))
       go_roundg k1
       case measure => have := HK1.out; omega
       case rel => exact ⟨(t295), (wrap64 (x6_1 + 1)), fa, H', ⟨by have := HK1.out; omega⟩, ⟨rpR HO297.out⟩, ⟨by (with_reducible repeat (first | refine blk_drewN ?_ _ | refine blk_drew ?_ | refine blk_alloc ?_ _)); exact BK287.out⟩, ⟨bl⟩⟩
      ·rw [if_neg c11] at H
       exact absurd H (by simp)
     ·rw [if_neg c10] at H
      have c10b0 : decide (x6_1 < (l0_4.length : Int)) = false := decide_eq_false c10
      clear c10
      obtain rfl := Option.some.inj H
      obtain ⟨Z16_0, Z16_1, Z16_2, Z16_3, Z16_4, Y16_0, Y16_1, Y16_2, Y16_3, Y16_4⟩ := cf5 BK287
      go_wp2
      go_ret
      exact ⟨_, fe, rpR HO_5.out, bl⟩
    ·rw [if_neg c9] at H
     have c9b0 : decide (x6_1 < a1) = false := decide_eq_false c9
     clear c9
     obtain rfl := Option.some.inj H
     go_wp2
     go_ret
     exact ⟨_, fe, rpR HO_5.out, bl⟩
 ·rw [if_neg c3] at H
  exact absurd H (by simp)
/-! ### spec_l4Find: function 90 -/
def spec_l4Find.f (k : Nat) (a0_0 : Int) (a0_1 : Int) (l0_2 : List (S89)) (l0_3 : List (S93)) (l0_4 : List (S95)) (a1 : ByteArray) : Option (Int) := (spec_l4Names.f k a0_0 a0_1 l0_2 l0_3 l0_4 (l0_4.length : Int)).bind fun t300 => ((spec_l4At.f k t300 a1).bind fun t303 => (if t303 < 0 then (some (-1)) else (if 0 ≤ t303 then (if t303 < (t300.length : Int) then ((spec_l4Inode.f k a0_0 a0_1 l0_2 l0_3 l0_4 ((rd_T93 t300 t303).f1)).bind fun t305 => (some t305)) else (none)) else (none))))
theorem spec_l4Find.mono : ∀ a0 a1 a2 a3 a4 a5 k, LeO (spec_l4Find.f k a0 a1 a2 a3 a4 a5) (spec_l4Find.f (k + 1) a0 a1 a2 a3 a4 a5) := by
 intro a0 a1 a2 a3 a4 a5 k
 unfold spec_l4Find.f
 repeat' first
  | (with_reducible exact spec_l4At.mono _ _ _)
  | (with_reducible exact spec_l4Inode.mono _ _ _ _ _ _ _)
  | (with_reducible exact spec_l4Names.mono _ _ _ _ _ _ _)
  | (with_reducible exact LeO.refl _)
  | (with_reducible exact LeO.none _)
  | (with_reducible refine LeO.ite ?_ ?_)
  | (with_reducible refine LeO.bind ?_ (fun _ => ?_))
  | exact spec_l4At.mono _ _ _
  | exact spec_l4Inode.mono _ _ _ _ _ _ _
  | exact spec_l4Names.mono _ _ _ _ _ _ _
  | exact LeO.none _
  | refine LeO.ite ?_ ?_
  | refine LeO.bind ?_ (fun _ => ?_)
def spec_l4Find.T5 : Bool × List (List Nat × List Nat) := (true, [([], []), ([], []), ([], []), ([1, 2], [1, 2]), ([3], [3]), ([4], [4]), ([0, 5], [0, 5]), ([6, 6, 0, 1, 2, 3, 4, 5, 6], [6])])
def spec_l4Find.B5 : List Nat := [0, 0, 0, 6, 14, 30, 63, 127]
theorem spec_l4Find.tab5 : rtab .any (opsOf Try.f90 5) = spec_l4Find.T5 := by kernel_rfl
theorem spec_l4Find.bits5 : waitsOk spec_l4Find.T5.2 spec_l4Find.B5 = true := by kernel_rfl
set_option maxHeartbeats 8000000 in
set_option maxRecDepth 100000 in
theorem spec_l4Find.calls (k : Nat) (a0_0 : Int) (a0_1 : Int) (A0_2 : Option Addr) (c0_2 : Nat) (l0_2 : List (S89)) (A0_3 : Option Addr) (c0_3 : Nat) (l0_3 : List (S93)) (A0_4 : Option Addr) (c0_4 : Nat) (l0_4 : List (S95)) (a1 : ByteArray) (r : Int) (w : World) (hr0_2 : Kd.C k89 w A0_2 l0_2.length l0_2) (hc0_2 : l0_2.length ≤ c0_2) (hr0_3 : Kd.C k93 w A0_3 l0_3.length l0_3) (hc0_3 : l0_3.length ≤ c0_3) (hr0_4 : Kd.C k95 w A0_4 l0_4.length l0_4) (hc0_4 : l0_4.length ≤ c0_4) (h : spec_l4Find.f k a0_0 a0_1 l0_2 l0_3 l0_4 a1 = some r) :
 Calls Try.prog 90 #[.agg #[.int .i64 a0_0, .int .i64 a0_1, .slice A0_2 l0_2.length c0_2, .slice A0_3 l0_3.length c0_3, .slice A0_4 l0_4.length c0_4], .string a1] w fun e w' => e = .returned (.int .i64 r) ∧ Below w.heap.size w w' := by
 have hu26 := Try.underlying26
 have HR0_2 := Aside0.mk hr0_2
 have HC0_2 := Aside0.mk hc0_2
 clear hr0_2 hc0_2
 have HR0_3 := Aside0.mk hr0_3
 have HC0_3 := Aside0.mk hc0_3
 clear hr0_3 hc0_3
 have HR0_4 := Aside0.mk hr0_4
 have HC0_4 := Aside0.mk hc0_4
 clear hr0_4 hc0_4
 have HB := Aside0.mk (Below.refl w.heap.size w)
 have H : ((spec_l4Names.f k a0_0 a0_1 l0_2 l0_3 l0_4 (l0_4.length : Int)).bind fun t300 => ((spec_l4At.f k t300 a1).bind fun t303 => (if t303 < 0 then (some (-1)) else (if 0 ≤ t303 then (if t303 < (t300.length : Int) then ((spec_l4Inode.f k a0_0 a0_1 l0_2 l0_3 l0_4 ((rd_T93 t300 t303).f1)).bind fun t305 => (some t305)) else (none)) else (none))))) = some r := h
 clear h
 obtain ⟨t300, A3, H⟩ := bd H
 obtain ⟨t303, A4, H⟩ := bd H
 by_cases c5 : t303 < 0
 ·rw [if_pos c5] at H
  have c5b0 : decide (t303 < 0) = true := decide_eq_true c5
  clear c5
  obtain rfl := Option.some.inj H
  go_enter Try.func90, Try.ntmps90
  go_wp2_with (first | ((with_reducible refine gD 2 rfl ?_); refine boxZ 2 #[.int .i64 a0_0, .int .i64 a0_1, .slice A0_2 l0_2.length c0_2, .slice A0_3 l0_3.length c0_3, .slice A0_4 l0_4.length c0_4] 26 ?_; intro gb299 hg w6 hbox hb; have BK299 := Aside0.mk hbox; have GW299 := gw (w := w) hg; have GE299 := gw (w := w) hg; replace HB := bs (w := w) hb; clear hb hbox hg; obtain ⟨Z7_0, Z7_1, Z7_2, Z7_3, Z7_4, Y7_0, Y7_1, Y7_2, Y7_3, Y7_4⟩ := cf5 BK299) | ((with_reducible refine gC 92 rfl ?_); refine goesZ (some 11) rfl Try.func92 #[.agg #[.int .i64 a0_0, .int .i64 a0_1, .slice A0_2 l0_2.length c0_2, .slice A0_3 l0_3.length c0_3, .slice A0_4 l0_4.length c0_4], .int .i64 (l0_4.length : Int)] ?_; (with_reducible refine (spec_l4Names.calls k a0_0 a0_1 _ _ l0_2 _ _ l0_3 _ _ l0_4 (l0_4.length : Int) t300 _ ?side1 ?side2 ?side3 ?side4 ?side5 ?side6 A3.out).mono ?_); (case side1 => exact ca (Kd.C_below HR0_2.out HB.out)); (case side2 => exact HC0_2.out); (case side3 => exact ca (Kd.C_below HR0_3.out HB.out)); (case side4 => exact HC0_3.out); (case side5 => exact ca (Kd.C_below HR0_4.out HB.out)); (case side6 => exact HC0_4.out); rintro e w8 ⟨v301, rfl, ho0, hb⟩; refine ⟨_, rfl, ?_⟩; have HO302 := Aside0.mk (Kd.R_lower ho0 (below_size bl)); replace BK299 := bv BK299 hb; replace HB := bs (w := w) hb; (try clear hb ho0); obtain ⟨Ao9, co9, rfl⟩ := Kd.R_slice HO302.out) | ((with_reducible refine gC 126 rfl ?_); refine goesZ (some 14) rfl Try.func126 #[.slice Ao9 t300.length co9, .string a1] ?_; (with_reducible refine (spec_l4At.calls k _ _ t300 a1 t303 _ ?side1 ?side2 A4.out).mono ?_); (case side1 => exact ca ((Kd.R_reads' HO302.out).2.2)); (case side2 => exact (Kd.R_reads' HO302.out).2.1); rintro e w' ⟨rfl, ⟨nd, rfl⟩⟩; refine ⟨_, rfl, ?_⟩))
  go_ret
  exact ⟨fe, bl⟩
 ·rw [if_neg c5] at H
  have c5b0 : decide (t303 < 0) = false := decide_eq_false c5
  clear c5
  by_cases c10 : 0 ≤ t303
  ·rw [if_pos c10] at H
   have c10b0 : decide (0 ≤ t303) = true := decide_eq_true c10
   clear c10
   by_cases c11 : t303 < (t300.length : Int)
   ·rw [if_pos c11] at H
    have c11b0 : decide (t303 < (t300.length : Int)) = true := decide_eq_true c11
    clear c11
    obtain ⟨t305, A12, H⟩ := bd H
    obtain rfl := Option.some.inj H
    go_enter Try.func90, Try.ntmps90
    try go_wp2_with (first | ((with_reducible refine gD 2 rfl ?_); refine boxZ 2 #[.int .i64 a0_0, .int .i64 a0_1, .slice A0_2 l0_2.length c0_2, .slice A0_3 l0_3.length c0_3, .slice A0_4 l0_4.length c0_4] 26 ?_; intro gb299 hg w13 hbox hb; have BK299 := Aside0.mk hbox; have GW299 := gw (w := w) hg; have GE299 := gw (w := w) hg; replace HB := bs (w := w) hb; clear hb hbox hg; obtain ⟨Z14_0, Z14_1, Z14_2, Z14_3, Z14_4, Y14_0, Y14_1, Y14_2, Y14_3, Y14_4⟩ := cf5 BK299) | ((with_reducible refine gC 92 rfl ?_); refine goesZ (some 11) rfl Try.func92 #[.agg #[.int .i64 a0_0, .int .i64 a0_1, .slice A0_2 l0_2.length c0_2, .slice A0_3 l0_3.length c0_3, .slice A0_4 l0_4.length c0_4], .int .i64 (l0_4.length : Int)] ?_; (with_reducible refine (spec_l4Names.calls k a0_0 a0_1 _ _ l0_2 _ _ l0_3 _ _ l0_4 (l0_4.length : Int) t300 _ ?side1 ?side2 ?side3 ?side4 ?side5 ?side6 A3.out).mono ?_); (case side1 => exact ca (Kd.C_below HR0_2.out HB.out)); (case side2 => exact HC0_2.out); (case side3 => exact ca (Kd.C_below HR0_3.out HB.out)); (case side4 => exact HC0_3.out); (case side5 => exact ca (Kd.C_below HR0_4.out HB.out)); (case side6 => exact HC0_4.out); rintro e w15 ⟨v301, rfl, ho0, hb⟩; refine ⟨_, rfl, ?_⟩; have HO302 := Aside0.mk (Kd.R_lower ho0 (below_size bl)); replace BK299 := bv BK299 hb; replace HB := bs (w := w) hb; (try clear hb ho0); obtain ⟨Ao16, co16, rfl⟩ := Kd.R_slice HO302.out) | ((with_reducible refine gC 126 rfl ?_); refine goesZ (some 14) rfl Try.func126 #[.slice Ao16 t300.length co16, .string a1] ?_; (with_reducible refine (spec_l4At.calls k _ _ t300 a1 t303 _ ?side1 ?side2 A4.out).mono ?_); (case side1 => exact ca ((Kd.R_reads' HO302.out).2.2)); (case side2 => exact (Kd.R_reads' HO302.out).2.1); rintro e w' ⟨rfl, ⟨nd, rfl⟩⟩; refine ⟨_, rfl, ?_⟩))
    (try (rw [drewN_self w15]; generalize hq_ : World.drewN w15 _ = w15; have n0_ : Aside0 (Kd.R k93 93 w15 w.heap.size (fun _ => True) (.slice Ao16 t300.length co16) t300) := ⟨by rw [← hq_]; exact (rpR HO302.out)⟩; have n1_ : Aside0 (w15.heap[gb299]? = some (.cells #[.int .i64 a0_0, .int .i64 a0_1, .slice A0_2 l0_2.length c0_2, .slice A0_3 l0_3.length c0_3, .slice A0_4 l0_4.length c0_4] 26 (0, 0))) := ⟨by rw [← hq_]; exact bk⟩; have n2_ : Aside0 (Below w.heap.size w w15) := ⟨by rw [← hq_]; exact bl⟩; clear HO302 BK299 HB hq_; have HO302 := n0_; have BK299 := n1_; have HB := n2_; clear n0_ n1_ n2_))
    replace HO302 := Aside0.mk (Kd.R_drew HO302.out); replace BK299 := Aside0.mk (blk_drew BK299.out); replace HB := Aside0.mk (below_drew1 HB.out)
    have p304 : 0 ≤ (t303 : Int) := of_decide_eq_true am
    have q304 : t303 < (t300.length : Int) := of_decide_eq_true am
    obtain ⟨ad304, e304, hx304_0, hx304_1⟩ := at_T93 (Kd.R_reads' HO302.out).2.2 t303 p304 q304
    cases e304
    replace p304 := eq_true p304
    replace q304 := eq_true q304
    refine start_ (n := 8) (S := fun w' => w'.cell? ⟨gb299, 0, none⟩ = some (.int .i64 a0_0) ∧ w'.cell? ⟨gb299, 1, none⟩ = some (.int .i64 a0_1) ∧ w'.cell? ⟨gb299, 2, none⟩ = some (.slice A0_2 l0_2.length c0_2) ∧ w'.cell? ⟨gb299, 3, none⟩ = some (.slice A0_3 l0_3.length c0_3) ∧ w'.cell? ⟨gb299, 4, none⟩ = some (.slice A0_4 l0_4.length c0_4) ∧ w'.cell? (ad304.add ((t303).toNat * 2)) = some (.string ((rd_T93 t300 t303).f0)) ∧ w'.cell? ⟨(ad304.add ((t303).toNat * 2)).block, (ad304.add ((t303).toNat * 2)).off + 1, none⟩ = some (.int .i64 ((rd_T93 t300 t303).f1))) (ds := []) (bo 8 0) (by kernel_rfl) rfl rfl ⟨cb 0 BK299, cb 1 BK299, cb 2 BK299, cb 3 BK299, cb 4 BK299, hx304_0, hx304_1⟩ (fun hHeld => ?_); refine with_tabW spec_l4Find.tab5 spec_l4Find.bits5 (fun HT_ HW_ => ?_)
    generalize w15.drew = w17 at HO302 BK299 HB hx304_0 hx304_1 hHeld ⊢
    refine pV 1 18 (bo 8 2) ?_
    refine pV 2 19 (bo 8 6) ?_
    refine pV 3 20 (bo 8 14) ?_
    refine pV 4 21 (bo 8 30) ?_
    refine tV 0 17 (bo 8 31) ?_
    refine tV 5 22 (bo 8 63) ?_
    refine one_ (i := 6) (N := some 23) (bo 8 127) rfl rfl (one_of HT_.out (by kernel_rfl)) (by decide) (fun K hK => ?_)
    refine goes_ Try.func80 (by kernel_rfl) rfl #[.agg #[.int .i64 a0_0, .int .i64 a0_1, .slice A0_2 l0_2.length c0_2, .slice A0_3 l0_3.length c0_3, .slice A0_4 l0_4.length c0_4], .int .i64 ((rd_T93 t300 t303).f1)] (by rfl) rfl rfl sa ?_
    with_reducible refine (spec_l4Inode.calls k a0_0 a0_1 _ _ l0_2 _ _ l0_3 _ _ l0_4 ((rd_T93 t300 t303).f1) t305 _ ?side1 ?side2 ?side3 ?side4 ?side5 ?side6 A12.out).mono ?_
    (case side1 => exact ca (Kd.C_below HR0_2.out HB.out))
    (case side2 => exact HC0_2.out)
    (case side3 => exact ca (Kd.C_below HR0_3.out HB.out))
    (case side4 => exact HC0_3.out)
    (case side5 => exact ca (Kd.C_below HR0_4.out HB.out))
    (case side6 => exact HC0_4.out)
    rintro e w18 ⟨rfl, hb⟩
    have HS5_ := (hb.cell (World.block_lt_of_cell? _ _ (hHeld.2.2.2.2.2.1))).trans (hHeld.2.2.2.2.2.1)
    have HS6_ := (hb.cell (World.block_lt_of_cell? _ _ (hHeld.2.2.2.2.2.2))).trans (hHeld.2.2.2.2.2.2)
    refine ⟨_, rfl, ?_⟩
    replace HO302 := Aside0.mk (Kd.R_below (rpR HO302.out) hb); replace BK299 := bv BK299 hb; replace HB := bs (w := w) hb; (try clear hb hb2 hk hi)
    refine hK.out _ _ ⟨cb 0 BK299, cb 1 BK299, cb 2 BK299, cb 3 BK299, cb 4 BK299, HS5_, HS6_⟩ (fun hHeld => ?_)
    clear hK K
    refine norm_ (a' := ?_) ?_ ?_
    rotate_left
    ·show Act.put _ (some 23) _ = _
     simp only [Act.put, List.setIfInBounds_toArray, List.set_cons_zero, List.set_cons_succ, i64_w, i32_w]
     rfl
    refine pV 7 4 (bo 8 255) ?_
    refine done_ (done_of HT_.out (by kernel_rfl)) ?_
    try go_wp2
    go_ret
    exact ⟨fe, bl⟩
   ·rw [if_neg c11] at H
    exact absurd H (by simp)
  ·rw [if_neg c10] at H
   exact absurd H (by simp)
/-! ### spec_Load: function 29 -/
def spec_Load.f (k : Nat) (a0_0 : Int) (a0_1 : Int) (l0_2 : List (S89)) (l0_3 : List (S93)) (l0_4 : List (S95)) (a1 : ByteArray) : Option (ByteArray × Bool) := (spec_DiskOk.f k a0_0 a0_1 l0_2 l0_3 l0_4).bind fun t307 => (if t307 = true then ((spec_l4Find.f k a0_0 a0_1 l0_2 l0_3 l0_4 a1).bind fun t308 => (if t308 < 0 then (some ((⟨#[]⟩ : ByteArray), false)) else (if 0 ≤ t308 then (if t308 < (l0_2.length : Int) then (some ((rd_T89 l0_2 t308).f1, true)) else (none)) else (none)))) else (some ((⟨#[]⟩ : ByteArray), false)))
theorem spec_Load.mono : ∀ a0 a1 a2 a3 a4 a5 k, LeO (spec_Load.f k a0 a1 a2 a3 a4 a5) (spec_Load.f (k + 1) a0 a1 a2 a3 a4 a5) := by
 intro a0 a1 a2 a3 a4 a5 k
 unfold spec_Load.f
 repeat' first
  | (with_reducible exact spec_DiskOk.mono _ _ _ _ _ _)
  | (with_reducible exact spec_l4Find.mono _ _ _ _ _ _ _)
  | (with_reducible exact LeO.refl _)
  | (with_reducible exact LeO.none _)
  | (with_reducible refine LeO.ite ?_ ?_)
  | (with_reducible refine LeO.bind ?_ (fun _ => ?_))
  | exact spec_DiskOk.mono _ _ _ _ _ _
  | exact spec_l4Find.mono _ _ _ _ _ _ _
  | exact LeO.none _
  | refine LeO.ite ?_ ?_
  | refine LeO.bind ?_ (fun _ => ?_)
set_option maxHeartbeats 8000000 in
set_option maxRecDepth 100000 in
theorem spec_Load.calls (k : Nat) (a0_0 : Int) (a0_1 : Int) (A0_2 : Option Addr) (c0_2 : Nat) (l0_2 : List (S89)) (A0_3 : Option Addr) (c0_3 : Nat) (l0_3 : List (S93)) (A0_4 : Option Addr) (c0_4 : Nat) (l0_4 : List (S95)) (a1 : ByteArray) (r1 : ByteArray) (r2 : Bool) (w : World) (hr0_2 : Kd.C k89 w A0_2 l0_2.length l0_2) (hc0_2 : l0_2.length ≤ c0_2) (hr0_3 : Kd.C k93 w A0_3 l0_3.length l0_3) (hc0_3 : l0_3.length ≤ c0_3) (hr0_4 : Kd.C k95 w A0_4 l0_4.length l0_4) (hc0_4 : l0_4.length ≤ c0_4) (h : spec_Load.f k a0_0 a0_1 l0_2 l0_3 l0_4 a1 = some (r1, r2)) :
 Calls Try.prog 29 #[.agg #[.int .i64 a0_0, .int .i64 a0_1, .slice A0_2 l0_2.length c0_2, .slice A0_3 l0_3.length c0_3, .slice A0_4 l0_4.length c0_4], .string a1] w fun e w' => e = .returned (.tuple #[.string r1, .bool r2]) ∧ Below w.heap.size w w' := by
 have hu26 := Try.underlying26
 have HR0_2 := Aside0.mk hr0_2
 have HC0_2 := Aside0.mk hc0_2
 clear hr0_2 hc0_2
 have HR0_3 := Aside0.mk hr0_3
 have HC0_3 := Aside0.mk hc0_3
 clear hr0_3 hc0_3
 have HR0_4 := Aside0.mk hr0_4
 have HC0_4 := Aside0.mk hc0_4
 clear hr0_4 hc0_4
 have HB := Aside0.mk (Below.refl w.heap.size w)
 have H : ((spec_DiskOk.f k a0_0 a0_1 l0_2 l0_3 l0_4).bind fun t307 => (if t307 = true then ((spec_l4Find.f k a0_0 a0_1 l0_2 l0_3 l0_4 a1).bind fun t308 => (if t308 < 0 then (some ((⟨#[]⟩ : ByteArray), false)) else (if 0 ≤ t308 then (if t308 < (l0_2.length : Int) then (some ((rd_T89 l0_2 t308).f1, true)) else (none)) else (none)))) else (some ((⟨#[]⟩ : ByteArray), false)))) = some (r1, r2) := h
 clear h
 obtain ⟨t307, A3, H⟩ := bd H
 by_cases c4 : t307 = true
 ·subst c4
  replace H := iT H
  obtain ⟨t308, A5, H⟩ := bd H
  by_cases c6 : t308 < 0
  ·rw [if_pos c6] at H
   have c6b0 : decide (t308 < 0) = true := decide_eq_true c6
   clear c6
   simp only [Option.some.injEq, Prod.mk.injEq] at H
   obtain ⟨rfl, rfl⟩ := H
   go_enter Try.func29, Try.ntmps29
   go_wp2_with (first | ((with_reducible refine gD 2 rfl ?_); refine boxZ 2 #[.int .i64 a0_0, .int .i64 a0_1, .slice A0_2 l0_2.length c0_2, .slice A0_3 l0_3.length c0_3, .slice A0_4 l0_4.length c0_4] 26 ?_; intro gb306 hg w7 hbox hb; have BK306 := Aside0.mk hbox; have GW306 := gw (w := w) hg; have GE306 := gw (w := w) hg; replace HB := bs (w := w) hb; clear hb hbox hg; obtain ⟨Z8_0, Z8_1, Z8_2, Z8_3, Z8_4, Y8_0, Y8_1, Y8_2, Y8_3, Y8_4⟩ := cf5 BK306) | ((with_reducible refine gC 26 rfl ?_); refine goesZ (some 8) rfl Try.func26 #[.agg #[.int .i64 a0_0, .int .i64 a0_1, .slice A0_2 l0_2.length c0_2, .slice A0_3 l0_3.length c0_3, .slice A0_4 l0_4.length c0_4]] ?_; (with_reducible refine (spec_DiskOk.calls k a0_0 a0_1 _ _ l0_2 _ _ l0_3 _ _ l0_4 true _ ?side1 ?side2 ?side3 ?side4 ?side5 ?side6 A3.out).mono ?_); (case side1 => exact ca (Kd.C_below HR0_2.out HB.out)); (case side2 => exact HC0_2.out); (case side3 => exact ca (Kd.C_below HR0_3.out HB.out)); (case side4 => exact HC0_3.out); (case side5 => exact ca (Kd.C_below HR0_4.out HB.out)); (case side6 => exact HC0_4.out); rintro e w9 ⟨rfl, hb⟩; refine ⟨_, rfl, ?_⟩; replace BK306 := bv BK306 hb; replace HB := bs (w := w) hb; (try clear hb); obtain ⟨Z10_0, Z10_1, Z10_2, Z10_3, Z10_4, Y10_0, Y10_1, Y10_2, Y10_3, Y10_4⟩ := cf5 BK306) | ((with_reducible refine gC 90 rfl ?_); refine goesZ (some 12) rfl Try.func90 #[.agg #[.int .i64 a0_0, .int .i64 a0_1, .slice A0_2 l0_2.length c0_2, .slice A0_3 l0_3.length c0_3, .slice A0_4 l0_4.length c0_4], .string a1] ?_; (with_reducible refine (spec_l4Find.calls k a0_0 a0_1 _ _ l0_2 _ _ l0_3 _ _ l0_4 a1 t308 _ ?side1 ?side2 ?side3 ?side4 ?side5 ?side6 A5.out).mono ?_); (case side1 => exact ca (Kd.C_below HR0_2.out HB.out)); (case side2 => exact HC0_2.out); (case side3 => exact ca (Kd.C_below HR0_3.out HB.out)); (case side4 => exact HC0_3.out); (case side5 => exact ca (Kd.C_below HR0_4.out HB.out)); (case side6 => exact HC0_4.out); rintro e w11 ⟨rfl, hb⟩; refine ⟨_, rfl, ?_⟩; replace BK306 := bv BK306 hb; replace HB := bs (w := w) hb; (try clear hb)))
   go_ret2
   exact ⟨fe, bl⟩
  ·rw [if_neg c6] at H
   have c6b0 : decide (t308 < 0) = false := decide_eq_false c6
   clear c6
   by_cases c12 : 0 ≤ t308
   ·rw [if_pos c12] at H
    have c12b0 : decide (0 ≤ t308) = true := decide_eq_true c12
    clear c12
    by_cases c13 : t308 < (l0_2.length : Int)
    ·rw [if_pos c13] at H
     have c13b0 : decide (t308 < (l0_2.length : Int)) = true := decide_eq_true c13
     clear c13
     simp only [Option.some.injEq, Prod.mk.injEq] at H
     obtain ⟨rfl, rfl⟩ := H
     go_enter Try.func29, Try.ntmps29
     go_wp2_with (first | ((with_reducible refine gD 2 rfl ?_); refine boxZ 2 #[.int .i64 a0_0, .int .i64 a0_1, .slice A0_2 l0_2.length c0_2, .slice A0_3 l0_3.length c0_3, .slice A0_4 l0_4.length c0_4] 26 ?_; intro gb306 hg w14 hbox hb; have BK306 := Aside0.mk hbox; have GW306 := gw (w := w) hg; have GE306 := gw (w := w) hg; replace HB := bs (w := w) hb; clear hb hbox hg; obtain ⟨Z15_0, Z15_1, Z15_2, Z15_3, Z15_4, Y15_0, Y15_1, Y15_2, Y15_3, Y15_4⟩ := cf5 BK306) | ((with_reducible refine gC 26 rfl ?_); refine goesZ (some 8) rfl Try.func26 #[.agg #[.int .i64 a0_0, .int .i64 a0_1, .slice A0_2 l0_2.length c0_2, .slice A0_3 l0_3.length c0_3, .slice A0_4 l0_4.length c0_4]] ?_; (with_reducible refine (spec_DiskOk.calls k a0_0 a0_1 _ _ l0_2 _ _ l0_3 _ _ l0_4 true _ ?side1 ?side2 ?side3 ?side4 ?side5 ?side6 A3.out).mono ?_); (case side1 => exact ca (Kd.C_below HR0_2.out HB.out)); (case side2 => exact HC0_2.out); (case side3 => exact ca (Kd.C_below HR0_3.out HB.out)); (case side4 => exact HC0_3.out); (case side5 => exact ca (Kd.C_below HR0_4.out HB.out)); (case side6 => exact HC0_4.out); rintro e w16 ⟨rfl, hb⟩; refine ⟨_, rfl, ?_⟩; replace BK306 := bv BK306 hb; replace HB := bs (w := w) hb; (try clear hb); obtain ⟨Z17_0, Z17_1, Z17_2, Z17_3, Z17_4, Y17_0, Y17_1, Y17_2, Y17_3, Y17_4⟩ := cf5 BK306) | ((with_reducible refine gC 90 rfl ?_); refine goesZ (some 12) rfl Try.func90 #[.agg #[.int .i64 a0_0, .int .i64 a0_1, .slice A0_2 l0_2.length c0_2, .slice A0_3 l0_3.length c0_3, .slice A0_4 l0_4.length c0_4], .string a1] ?_; (with_reducible refine (spec_l4Find.calls k a0_0 a0_1 _ _ l0_2 _ _ l0_3 _ _ l0_4 a1 t308 _ ?side1 ?side2 ?side3 ?side4 ?side5 ?side6 A5.out).mono ?_); (case side1 => exact ca (Kd.C_below HR0_2.out HB.out)); (case side2 => exact HC0_2.out); (case side3 => exact ca (Kd.C_below HR0_3.out HB.out)); (case side4 => exact HC0_3.out); (case side5 => exact ca (Kd.C_below HR0_4.out HB.out)); (case side6 => exact HC0_4.out); rintro e w18 ⟨rfl, hb⟩; refine ⟨_, rfl, ?_⟩; replace BK306 := bv BK306 hb; replace HB := bs (w := w) hb; (try clear hb); obtain ⟨Z19_0, Z19_1, Z19_2, Z19_3, Z19_4, Y19_0, Y19_1, Y19_2, Y19_3, Y19_4⟩ := cf5 BK306; have p309 : 0 ≤ (t308 : Int) := of_decide_eq_true am; have q309 : t308 < (l0_2.length : Int) := of_decide_eq_true am; obtain ⟨ad309, e309, hx309_0, hx309_1, hx309_2⟩ := at_T89 HR0_2.out t308 p309 q309; cases e309; replace hx309_0 := (HB.out.cell (World.block_lt_of_cell? w _ hx309_0)).trans hx309_0; replace hx309_1 := (HB.out.cell (World.block_lt_of_cell? w _ hx309_1)).trans hx309_1; replace hx309_2 := (HB.out.cell (World.block_lt_of_cell? w _ hx309_2)).trans hx309_2; replace p309 := eq_true p309; replace q309 := eq_true q309))
     go_ret2
     exact ⟨fe, bl⟩
    ·rw [if_neg c13] at H
     exact absurd H (by simp)
   ·rw [if_neg c12] at H
    exact absurd H (by simp)
 ·replace c4 := Bool.eq_false_iff.mpr c4
  subst c4
  replace H := iF H
  simp only [Option.some.injEq, Prod.mk.injEq] at H
  obtain ⟨rfl, rfl⟩ := H
  go_enter Try.func29, Try.ntmps29
  go_wp2_with (first | ((with_reducible refine gD 2 rfl ?_); refine boxZ 2 #[.int .i64 a0_0, .int .i64 a0_1, .slice A0_2 l0_2.length c0_2, .slice A0_3 l0_3.length c0_3, .slice A0_4 l0_4.length c0_4] 26 ?_; intro gb306 hg w20 hbox hb; have BK306 := Aside0.mk hbox; have GW306 := gw (w := w) hg; have GE306 := gw (w := w) hg; replace HB := bs (w := w) hb; clear hb hbox hg; obtain ⟨Z21_0, Z21_1, Z21_2, Z21_3, Z21_4, Y21_0, Y21_1, Y21_2, Y21_3, Y21_4⟩ := cf5 BK306) | ((with_reducible refine gC 26 rfl ?_); refine goesZ (some 8) rfl Try.func26 #[.agg #[.int .i64 a0_0, .int .i64 a0_1, .slice A0_2 l0_2.length c0_2, .slice A0_3 l0_3.length c0_3, .slice A0_4 l0_4.length c0_4]] ?_; (with_reducible refine (spec_DiskOk.calls k a0_0 a0_1 _ _ l0_2 _ _ l0_3 _ _ l0_4 false _ ?side1 ?side2 ?side3 ?side4 ?side5 ?side6 A3.out).mono ?_); (case side1 => exact ca (Kd.C_below HR0_2.out HB.out)); (case side2 => exact HC0_2.out); (case side3 => exact ca (Kd.C_below HR0_3.out HB.out)); (case side4 => exact HC0_3.out); (case side5 => exact ca (Kd.C_below HR0_4.out HB.out)); (case side6 => exact HC0_4.out); rintro e w22 ⟨rfl, hb⟩; refine ⟨_, rfl, ?_⟩; replace BK306 := bv BK306 hb; replace HB := bs (w := w) hb; (try clear hb)))
  go_ret2
  exact ⟨fe, bl⟩
end Go.Proofs.Ytjcmcamijaelbaa.PDisk
