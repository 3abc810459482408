/- Functions of the program, each with its contract, written by a program out of the translation. -/
import Derived.Test.YtjcmcamijaelbaaPDiskx0
import Derived.Test.YtjcmcamijaelbaaPDiskx7
import Derived.Test.YtjcmcamijaelbaaZip
namespace Go.Proofs.Ytjcmcamijaelbaa.PDisk
open Go.RowKit Go.Proofs.YtjcmcamijaelbaaW.PrintWords Go.Proofs.YtjcmcamijaelbaaW.PrintLast Go.Proofs.YtjcmcamijaelbaaW.PrintMore Go.Proofs.Ytjcmcamijaelbaa.Zip
attribute [local go_sem] max2_int min2_int max_two min_two max_three min_three max_four min_four   -- for this text's walks alone
set_option linter.unusedVariables false
set_option linter.unusedSimpArgs false
/-! ### impl_inodesOk: function 85 -/
def impl_inodesOk.l0 : Nat → Int → List (S89) → Int → Int → Int → Int → List (S89) → List (S93) → List (S95) → Option (Bool)
 | 0, _, _, _, _, _, _, _, _, _ => none
 | k + 1, x3, x7, x8, x9, x288000, x288001, x288002, x288003, x288004 => if x9 < x8 then (if 0 ≤ x9 then (if x9 < (x7.length : Int) then ((impl_from.f ((rd_T89 x7 x9).f0) 1 (wrap64 (x288001 - 1))).bind fun t290 => (if t290 = true then (if x9 > 0 then (if 0 ≤ (wrap64 (x9 - 1)) then (if (wrap64 (x9 - 1)) < (x288002.length : Int) then (if ((rd_T89 x288002 (wrap64 (x9 - 1))).f0) ≥ ((rd_T89 x7 x9).f0) then (some false) else ((impl_from.f ((rd_T89 x7 x9).f2) 0 (((rd_T89 x7 x9).f1).size : Int)).bind fun t292 => (if t292 = true then (impl_inodesOk.l0 k (wrap64 (x3 + (((rd_T89 x7 x9).f1).size : Int))) x7 x8 (wrap64 (x9 + 1)) x288000 x288001 x288002 x288003 x288004) else (some false)))) else (none)) else (none)) else ((impl_from.f ((rd_T89 x7 x9).f2) 0 (((rd_T89 x7 x9).f1).size : Int)).bind fun t293 => (if t293 = true then (impl_inodesOk.l0 k (wrap64 (x3 + (((rd_T89 x7 x9).f1).size : Int))) x7 x8 (wrap64 (x9 + 1)) x288000 x288001 x288002 x288003 x288004) else (some false)))) else (some false))) else (none)) else (none)) else (if (x288002.length : Int) ≤ 10 then (some (decide (x3 ≤ x288000))) else (some false))
def impl_inodesOk.f (k : Nat) (a0_0 : Int) (a0_1 : Int) (l0_2 : List (S89)) (l0_3 : List (S93)) (l0_4 : List (S95)) : Option (Bool) := impl_inodesOk.l0 k 0 l0_2 (l0_2.length : Int) 0 a0_0 a0_1 l0_2 l0_3 l0_4
theorem impl_inodesOk.mono_l : ∀ k, (∀ y0 y1 y2 y3 y4 y5 y6 y7 y8, LeO (impl_inodesOk.l0 k y0 y1 y2 y3 y4 y5 y6 y7 y8) (impl_inodesOk.l0 (k + 1) y0 y1 y2 y3 y4 y5 y6 y7 y8))
 | 0 => fun _ _ _ _ _ _ _ _ _ r h => by simp [impl_inodesOk.l0] at h
 | k + 1 => by
  have ih0 := impl_inodesOk.mono_l k
  ·intro y0 y1 y2 y3 y4 y5 y6 y7 y8
   unfold impl_inodesOk.l0
   repeat' first
   | (with_reducible exact ih0 _ _ _ _ _ _ _ _ _)
   | (with_reducible exact LeO.refl _)
   | (with_reducible exact LeO.none _)
   | (with_reducible refine LeO.ite ?_ ?_)
   | (with_reducible refine LeO.bind ?_ (fun _ => ?_))
   | exact ih0 _ _ _ _ _ _ _ _ _
   | exact LeO.none _
   | refine LeO.ite ?_ ?_
   | refine LeO.bind ?_ (fun _ => ?_)
theorem impl_inodesOk.mono : ∀ a0 a1 a2 a3 a4 k, LeO (impl_inodesOk.f k a0 a1 a2 a3 a4) (impl_inodesOk.f (k + 1) a0 a1 a2 a3 a4) := by
 intro a0 a1 a2 a3 a4 k
 have ih0 := impl_inodesOk.mono_l k
 unfold impl_inodesOk.f
 repeat' first
  | (with_reducible exact ih0 _ _ _ _ _ _ _ _ _)
  | (with_reducible exact LeO.refl _)
  | (with_reducible exact LeO.none _)
  | (with_reducible refine LeO.ite ?_ ?_)
  | (with_reducible refine LeO.bind ?_ (fun _ => ?_))
  | exact ih0 _ _ _ _ _ _ _ _ _
  | exact LeO.none _
  | refine LeO.ite ?_ ?_
  | refine LeO.bind ?_ (fun _ => ?_)
def impl_inodesOk.T5 : Bool × List (List Nat × List Nat) := (true, [([], []), ([0], [0]), ([], []), ([2], [2]), ([3], [3]), ([1, 4], [1, 4]), ([5], [5]), ([6, 5], [6]), ([7], [7]), ([8, 7], [7, 8]), ([9, 7, 7], [7, 9]), ([10], [10]), ([11, 10], [10, 11]), ([10], [10]), ([13, 10], [10, 13]), ([12, 14, 10], [10, 12, 14]), ([15, 10], [10, 15]), ([16, 10], [10, 16]), ([10], [10]), ([18, 10], [10, 18]), ([17, 19, 10], [10, 17, 19]), ([10, 20, 7], [7, 10, 20]), ([7, 21], [7, 21]), ([22, 10], [22]), ([23], [23]), ([24, 23], [23, 24]), ([23], [23]), ([26, 23], [23, 26]), ([27, 23], [23, 27]), ([25, 28, 23, 23], [23, 25, 28]), ([29, 23], [23, 29]), ([23, 30], [23, 30])])
def impl_inodesOk.B5 : List Nat := [0, 1, 0, 4, 12, 31, 63, 127, 255, 511, 1023, 2047, 4095, 2047, 10239, 32767, 65535, 131071, 2047, 264191, 1048575, 2097151, 4194303, 8388607, 16777215, 33554431, 16777215, 83886079, 218103807, 536870911, 1073741823, 2147483647]
theorem impl_inodesOk.tab5 : rtab .any (opsOf Try.f85 5) = impl_inodesOk.T5 := by kernel_rfl
theorem impl_inodesOk.bits5 : waitsOk impl_inodesOk.T5.2 impl_inodesOk.B5 = true := by kernel_rfl
set_option maxHeartbeats 8000000 in
set_option maxRecDepth 100000 in
theorem impl_inodesOk.calls (k : Nat) (a0_0 : Int) (a0_1 : Int) (A0_2 : Option Addr) (c0_2 : Nat) (l0_2 : List (S89)) (A0_3 : Option Addr) (c0_3 : Nat) (l0_3 : List (S93)) (A0_4 : Option Addr) (c0_4 : Nat) (l0_4 : List (S95)) (r : Bool) (w : World) (hr0_2 : Kd.C k89 w A0_2 l0_2.length l0_2) (hc0_2 : l0_2.length ≤ c0_2) (hr0_3 : Kd.C k93 w A0_3 l0_3.length l0_3) (hc0_3 : l0_3.length ≤ c0_3) (hr0_4 : Kd.C k95 w A0_4 l0_4.length l0_4) (hc0_4 : l0_4.length ≤ c0_4) (h : impl_inodesOk.f k a0_0 a0_1 l0_2 l0_3 l0_4 = some r) :
 Calls Try.prog 85 #[.agg #[.int .i64 a0_0, .int .i64 a0_1, .slice A0_2 l0_2.length c0_2, .slice A0_3 l0_3.length c0_3, .slice A0_4 l0_4.length c0_4]] w fun e w' => e = .returned (.bool r) ∧ Below w.heap.size w w' := by
 have hu26 := Try.underlying26
 have hu89 := Try.underlying89
 have HR0_2 := Aside0.mk hr0_2
 have HC0_2 := Aside0.mk hc0_2
 clear hr0_2 hc0_2
 have HR0_3 := Aside0.mk hr0_3
 have HC0_3 := Aside0.mk hc0_3
 clear hr0_3 hc0_3
 have HR0_4 := Aside0.mk hr0_4
 have HC0_4 := Aside0.mk hc0_4
 clear hr0_4 hc0_4
 have HB := Aside0.mk (Below.refl w.heap.size w)
 have H : (impl_inodesOk.l0 k 0 l0_2 (l0_2.length : Int) 0 a0_0 a0_1 l0_2 l0_3 l0_4) = some r := h
 clear h
 have H' := Aside0.mk H
 clear H
 go_enter Try.func85, Try.ntmps85
 go_wp2_with (first | ((with_reducible refine gD 1 rfl ?_); (try (refine gate_guard rfl ?_; dsimp only)); refine boxZ 1 #[.int .i64 a0_0, .int .i64 a0_1, .slice A0_2 l0_2.length c0_2, .slice A0_3 l0_3.length c0_3, .slice A0_4 l0_4.length c0_4] 26 ?_; intro gb287 hg w2 hbox hb; have BK287 := Aside0.mk hbox; have GW287 := gw (w := w) hg; have GE287 := gw (w := w) hg; replace HB := bs (w := w) hb; clear hb hbox hg; obtain ⟨Z3_0, Z3_1, Z3_2, Z3_3, Z3_4, Y3_0, Y3_1, Y3_2, Y3_3, Y3_4⟩ := cf5 BK287))
 go_loopg [3, 9] k (fun kq v3 v9 w' => ∃ (x3_1 : Int) (x9_1 : Int), v3 = .int .i64 x3_1 ∧ v9 = .int .i64 x9_1 ∧ Aside0 (impl_inodesOk.l0 kq x3_1 l0_2 (l0_2.length : Int) x9_1 a0_0 a0_1 l0_2 l0_3 l0_4 = some r) ∧ Aside0 (kq ≤ k) ∧ Aside0 (w'.heap[gb287]? = some (.cells #[.int .i64 a0_0, .int .i64 a0_1, (.slice A0_2 l0_2.length c0_2), (.slice A0_3 l0_3.length c0_3), (.slice A0_4 l0_4.length c0_4)] 26 (0, 0))) ∧ Aside0 (Below w.heap.size w w'))
 case atStart => exact ⟨(0), (0), fa, fa, H', ⟨Nat.le_refl _⟩, ⟨by (with_reducible repeat (first | refine blk_drewN ?_ _ | refine blk_drew ?_ | refine blk_alloc ?_ _)); exact BK287.out⟩, ⟨bl⟩⟩
 case round =>
  clear H'
  try clear p2
  try clear Z3_0 Z3_1 Z3_2 Z3_3 Z3_4 Y3_0 Y3_1 Y3_2 Y3_3 Y3_4
  obtain ⟨x3_1, x9_1, rfl, rfl, HA, HK1, BK287, HB⟩ := hrel
  cases gk with
  | zero => exact absurd HA.out (by simp [impl_inodesOk.l0])
  | succ k1 =>
   have H := HA.out
   clear HA
   simp only [impl_inodesOk.l0] at H
   by_cases c4 : x9_1 < (l0_2.length : Int)
   ·rw [if_pos c4] at H
    have c4b0 : decide (x9_1 < (l0_2.length : Int)) = true := decide_eq_true c4
    clear c4
    by_cases c5 : 0 ≤ x9_1
    ·rw [if_pos c5] at H
     have c5b0 : decide (0 ≤ x9_1) = true := decide_eq_true c5
     clear c5
     by_cases c6 : x9_1 < (l0_2.length : Int)
     ·rw [if_pos c6] at H
      have c6b0 : decide (x9_1 < (l0_2.length : Int)) = true := decide_eq_true c6
      clear c6
      obtain ⟨t290, A7, H⟩ := bd H
      by_cases c8 : t290 = true
      ·subst c8
       replace H := iT H
       by_cases c9 : x9_1 > 0
       ·rw [if_pos c9] at H
        have c9b0 : decide (0 < x9_1) = true := decide_eq_true c9
        clear c9
        obtain ⟨ji10, hji10⟩ : ∃ j_ : Int, (wrap64 (x9_1 - 1)) = j_ := ⟨_, rfl⟩
        replace H : (if 0 ≤ (ji10) then (if (ji10) < (l0_2.length : Int) then (if ((rd_T89 l0_2 (ji10)).f0) ≥ ((rd_T89 l0_2 x9_1).f0) then (some false) else ((impl_from.f ((rd_T89 l0_2 x9_1).f2) 0 (((rd_T89 l0_2 x9_1).f1).size : Int)).bind fun t292 => (if t292 = true then (impl_inodesOk.l0 k1 (wrap64 (x3_1 + (((rd_T89 l0_2 x9_1).f1).size : Int))) l0_2 (l0_2.length : Int) (wrap64 (x9_1 + 1)) a0_0 a0_1 l0_2 l0_3 l0_4) else (some false)))) else (none)) else (none)) = some r := by first | (rw [hji10] at H; exact H) | (simp only [hji10] at H ⊢; exact H)
        (try rw [hji10] at A7)
        have hji10w : (IntKind.i64.wrap (x9_1 - 1)) = ji10 := (i64_w _).trans hji10
        by_cases c11 : 0 ≤ (ji10)
        ·rw [if_pos c11] at H
         have c11b0 : decide (0 ≤ (ji10)) = true := decide_eq_true c11
         clear c11
         by_cases c12 : (ji10) < (l0_2.length : Int)
         ·rw [if_pos c12] at H
          have c12b0 : decide ((ji10) < (l0_2.length : Int)) = true := decide_eq_true c12
          clear c12
          by_cases c13 : ((rd_T89 l0_2 (ji10)).f0) ≥ ((rd_T89 l0_2 x9_1).f0)
          ·rw [if_pos c13] at H
           have c13b0 : decide (((rd_T89 l0_2 x9_1).f0) ≤ ((rd_T89 l0_2 (ji10)).f0)) = true := decide_eq_true c13
           clear c13
           obtain rfl := Option.some.inj H
           have p288 : 0 ≤ (x9_1 : Int) := of_decide_eq_true am
           have q288 : x9_1 < (l0_2.length : Int) := of_decide_eq_true am
           obtain ⟨ad288, e288, hx288_0, hx288_1, hx288_2⟩ := at_T89 HR0_2.out x9_1 p288 q288
           cases e288
           replace hx288_0 := cz HB hx288_0
           replace hx288_1 := cz HB hx288_1
           replace hx288_2 := cz HB hx288_2
           replace p288 := eq_true p288
           replace q288 := eq_true q288
           try go_wp2_with (first | ((with_reducible refine gD 5 rfl ?_); (try (refine gate_guard rfl ?_; dsimp only)); refine boxZ 5 #[.int .i64 0, .string (⟨#[]⟩ : ByteArray), .int .i64 0] 89 ?_; intro gb289 hg w14 hbox hb; have BK289 := Aside0.mk hbox; have GW289 := gw (w := w) hg; have GE289 := gw (w := w) hg; replace HB := bs (w := w) hb; have NB287_289 := nl BK287 hg; have NB289_287 := nr BK287 hg; replace BK287 := bv BK287 hb; clear hb hbox hg; have hnb15 := NB289_287.out; have hnc15 := NB287_289.out; obtain ⟨Z16_0, Z16_1, Z16_2, Y16_0, Y16_1, Y16_2⟩ := cf3 BK289))
           have n0_ : Aside0 ((((w14.setCell ⟨gb289, 0, none⟩ (.int .i64 ((rd_T89 l0_2 x9_1).f0))).setCell ⟨gb289, 1, none⟩ (.string ((rd_T89 l0_2 x9_1).f1))).setCell ⟨gb289, 2, none⟩ (.int .i64 ((rd_T89 l0_2 x9_1).f2))).heap[gb287]? = some (.cells #[.int .i64 a0_0, .int .i64 a0_1, .slice (some ad288) l0_2.length c0_2, .slice A0_3 l0_3.length c0_3, .slice A0_4 l0_4.length c0_4] 26 (0, 0))) := ⟨bkk⟩
           have n1_ : Aside0 ((((w14.setCell ⟨gb289, 0, none⟩ (.int .i64 ((rd_T89 l0_2 x9_1).f0))).setCell ⟨gb289, 1, none⟩ (.string ((rd_T89 l0_2 x9_1).f1))).setCell ⟨gb289, 2, none⟩ (.int .i64 ((rd_T89 l0_2 x9_1).f2))).heap[gb289]? = some (.cells #[.int .i64 ((rd_T89 l0_2 x9_1).f0), .string ((rd_T89 l0_2 x9_1).f1), .int .i64 ((rd_T89 l0_2 x9_1).f2)] 89 (0, 0))) := ⟨bkk⟩
           have n2_ : Aside0 (Below w.heap.size w (((w14.setCell ⟨gb289, 0, none⟩ (.int .i64 ((rd_T89 l0_2 x9_1).f0))).setCell ⟨gb289, 1, none⟩ (.string ((rd_T89 l0_2 x9_1).f1))).setCell ⟨gb289, 2, none⟩ (.int .i64 ((rd_T89 l0_2 x9_1).f2)))) := ⟨bl⟩
           (try clear BK287)
           (try clear BK289)
           (try clear HB)
           generalize (((w14.setCell ⟨gb289, 0, none⟩ (.int .i64 ((rd_T89 l0_2 x9_1).f0))).setCell ⟨gb289, 1, none⟩ (.string ((rd_T89 l0_2 x9_1).f1))).setCell ⟨gb289, 2, none⟩ (.int .i64 ((rd_T89 l0_2 x9_1).f2))) = w17 at n0_ n1_ n2_ ⊢
           have BK287 := n0_
           have BK289 := n1_
           have HB := n2_
           clear n0_ n1_ n2_
           replace BK287 := Aside0.mk (blk_drew BK287.out); replace BK289 := Aside0.mk (blk_drew BK289.out); replace HB := Aside0.mk (below_drew1 HB.out)
           have p291 : 0 ≤ ((ji10) : Int) := of_decide_eq_true am
           have q291 : (ji10) < (l0_2.length : Int) := of_decide_eq_true am
           obtain ⟨ad291, e291, hx291_0, hx291_1, hx291_2⟩ := at_T89 HR0_2.out (ji10) p291 q291
           have hw291_2 := hx291_2
           have hw291_1 := hx291_1
           have hw291_0 := hx291_0
           obtain rfl : ad288 = ad291 := (by injection e291)
           replace hx291_0 := cz HB hx291_0
           replace hx291_1 := cz HB hx291_1
           replace hx291_2 := cz HB hx291_2
           replace p291 := eq_true p291
           replace q291 := eq_true q291
           refine start_ (n := 32) (S := fun w' => w'.cell? ⟨gb289, 0, none⟩ = some (.int .i64 ((rd_T89 l0_2 x9_1).f0)) ∧ w'.cell? ⟨gb289, 1, none⟩ = some (.string ((rd_T89 l0_2 x9_1).f1)) ∧ w'.cell? ⟨gb289, 2, none⟩ = some (.int .i64 ((rd_T89 l0_2 x9_1).f2)) ∧ w'.cell? ⟨gb287, 0, none⟩ = some (.int .i64 a0_0) ∧ w'.cell? ⟨gb287, 1, none⟩ = some (.int .i64 a0_1) ∧ w'.cell? ⟨gb287, 2, none⟩ = some (.slice (some ad288) l0_2.length c0_2) ∧ w'.cell? ⟨gb287, 3, none⟩ = some (.slice A0_3 l0_3.length c0_3) ∧ w'.cell? ⟨gb287, 4, none⟩ = some (.slice A0_4 l0_4.length c0_4) ∧ w'.cell? (ad288.add (((ji10)).toNat * 3)) = some (.int .i64 ((rd_T89 l0_2 (ji10)).f0)) ∧ w'.cell? ⟨(ad288.add (((ji10)).toNat * 3)).block, (ad288.add (((ji10)).toNat * 3)).off + 1, none⟩ = some (.string ((rd_T89 l0_2 (ji10)).f1)) ∧ w'.cell? ⟨(ad288.add (((ji10)).toNat * 3)).block, (ad288.add (((ji10)).toNat * 3)).off + 2, none⟩ = some (.int .i64 ((rd_T89 l0_2 (ji10)).f2))) (ds := []) (bo 32 0) (by kernel_rfl) rfl rfl ⟨cb 0 BK289, cb 1 BK289, cb 2 BK289, cb 0 BK287, cb 1 BK287, cb 2 BK287, cb 3 BK287, cb 4 BK287, ((HB.out.cell (World.block_lt_of_cell? w _ hw291_0)).trans hw291_0), ((HB.out.cell (World.block_lt_of_cell? w _ hw291_1)).trans hw291_1), ((HB.out.cell (World.block_lt_of_cell? w _ hw291_2)).trans hw291_2)⟩ (fun hHeld => ?_); refine with_tabW impl_inodesOk.tab5 impl_inodesOk.bits5 (fun HT_ HW_ => ?_)
           generalize w17.drew = w18 at BK287 BK289 HB hx291_0 hx291_1 hx291_2 hHeld ⊢
           refine pV 0 14 (bo 32 1) ?_
           refine pV 2 16 (bo 32 5) ?_
           refine tV 1 15 (bo 32 7) ?_
           refine tV 3 17 (bo 32 15) ?_
           refine pV 4 18 (bo 32 31) ?_
           refine one_ (i := 5) (N := some 19) (bo 32 63) rfl rfl (one_of HT_.out (by kernel_rfl)) (by decide) (fun K hK => ?_)
           refine goes_ Try.func54 (by kernel_rfl) rfl #[.int .i64 ((rd_T89 l0_2 x9_1).f0), .int .i64 1, .int .i64 (wrap64 (a0_1 - 1))] (by rfl) rfl rfl sa ?_
           with_reducible refine (impl_from.calls ((rd_T89 l0_2 x9_1).f0) 1 (wrap64 (a0_1 - 1)) true _ A7.out).mono ?_
           rintro e w' ⟨rfl, ⟨nd, rfl⟩⟩
           refine ⟨_, rfl, ?_⟩
           refine hK.out _ _ ⟨cb 0 BK289, cb 1 BK289, cb 2 BK289, cb 0 BK287, cb 1 BK287, cb 2 BK287, cb 3 BK287, cb 4 BK287, ((HB.out.cell (World.block_lt_of_cell? w _ hw291_0)).trans hw291_0), ((HB.out.cell (World.block_lt_of_cell? w _ hw291_1)).trans hw291_1), ((HB.out.cell (World.block_lt_of_cell? w _ hw291_2)).trans hw291_2)⟩ (fun hHeld => ?_)
           clear hK K
           refine norm_ (a' := ?_) ?_ ?_
           rotate_left
           ·show Act.put _ (some 19) _ = _
            simp only [Act.put, List.setIfInBounds_toArray, List.set_cons_zero, List.set_cons_succ, i64_w, i32_w]
            rfl
           refine pV 6 20 (bo 32 127) ?_
           refine pV 7 21 (bo 32 255) ?_
           refine pV 8 22 (bo 32 511) ?_
           refine pV 9 23 (bo 32 1023) ?_
           refine pV 10 24 (bo 32 2047) ?_
           refine pV 11 25 (bo 32 4095) ?_
           refine pV 13 27 (bo 32 12287) ?_
           refine pV 14 28 (bo 32 28671) ?_
           refine pV 18 32 (bo 32 290815) ?_
           refine tV 12 26 (bo 32 294911) ?_
           refine pV 15 29 (bo 32 327679) ?_
           refine pV 16 30 (bo 32 393215) ?_
           refine tV 17 31 (bo 32 524287) ?_
           refine tV 19 33 (bo 32 1048575) ?_
           refine pV 20 34 (bo 32 2097151) ?_
           refine pV 21 35 (bo 32 4194303) ?_
           refine pV 22 36 (bo 32 8388607) ?_
           refine pV 23 37 (bo 32 16777215) ?_
           refine pU 24 38 (bo 32 33554431) ?_
           refine pU 25 39 (bo 32 67108863) ?_
           refine pU 26 40 (bo 32 134217727) ?_
           refine pU 27 41 (bo 32 268435455) ?_
           refine pU 28 42 (bo 32 536870911) ?_
           refine pU 29 43 (bo 32 1073741823) ?_
           refine pU 30 44 (bo 32 2147483647) ?_
           refine pV 31 45 (bo 32 4294967295) ?_
           refine done_ (done_of HT_.out (by kernel_rfl)) ?_
           try go_wp2
           go_ret
           exact ⟨by first | rfl | (simp [errW_none, errW_some] <;> rfl) | (simp only [← hji10]; first | rfl | (simp [errW_none, errW_some] <;> rfl)) | (simp [*, errW_none, errW_some] <;> rfl), bl⟩
          ·rw [if_neg c13] at H
           have c13b0 : decide (((rd_T89 l0_2 x9_1).f0) ≤ ((rd_T89 l0_2 (ji10)).f0)) = false := decide_eq_false c13
           clear c13
           obtain ⟨t292, A19, H⟩ := bd H
           by_cases c20 : t292 = true
           ·subst c20
            replace H := iT H
            have H' := Aside0.mk H
            clear H
            have p288 : 0 ≤ (x9_1 : Int) := of_decide_eq_true am
            have q288 : x9_1 < (l0_2.length : Int) := of_decide_eq_true am
            obtain ⟨ad288, e288, hx288_0, hx288_1, hx288_2⟩ := at_T89 HR0_2.out x9_1 p288 q288
            cases e288
            replace hx288_0 := cz HB hx288_0
            replace hx288_1 := cz HB hx288_1
            replace hx288_2 := cz HB hx288_2
            replace p288 := eq_true p288
            replace q288 := eq_true q288
            try go_wp2_with (first | ((with_reducible refine gD 5 rfl ?_); (try (refine gate_guard rfl ?_; dsimp only)); refine boxZ 5 #[.int .i64 0, .string (⟨#[]⟩ : ByteArray), .int .i64 0] 89 ?_; intro gb289 hg w21 hbox hb; have BK289 := Aside0.mk hbox; have GW289 := gw (w := w) hg; have GE289 := gw (w := w) hg; replace HB := bs (w := w) hb; have NB287_289 := nl BK287 hg; have NB289_287 := nr BK287 hg; replace BK287 := bv BK287 hb; clear hb hbox hg; have hnb22 := NB289_287.out; have hnc22 := NB287_289.out; obtain ⟨Z23_0, Z23_1, Z23_2, Y23_0, Y23_1, Y23_2⟩ := cf3 BK289))
            have n0_ : Aside0 ((((w21.setCell ⟨gb289, 0, none⟩ (.int .i64 ((rd_T89 l0_2 x9_1).f0))).setCell ⟨gb289, 1, none⟩ (.string ((rd_T89 l0_2 x9_1).f1))).setCell ⟨gb289, 2, none⟩ (.int .i64 ((rd_T89 l0_2 x9_1).f2))).heap[gb287]? = some (.cells #[.int .i64 a0_0, .int .i64 a0_1, .slice (some ad288) l0_2.length c0_2, .slice A0_3 l0_3.length c0_3, .slice A0_4 l0_4.length c0_4] 26 (0, 0))) := ⟨bkk⟩
            have n1_ : Aside0 ((((w21.setCell ⟨gb289, 0, none⟩ (.int .i64 ((rd_T89 l0_2 x9_1).f0))).setCell ⟨gb289, 1, none⟩ (.string ((rd_T89 l0_2 x9_1).f1))).setCell ⟨gb289, 2, none⟩ (.int .i64 ((rd_T89 l0_2 x9_1).f2))).heap[gb289]? = some (.cells #[.int .i64 ((rd_T89 l0_2 x9_1).f0), .string ((rd_T89 l0_2 x9_1).f1), .int .i64 ((rd_T89 l0_2 x9_1).f2)] 89 (0, 0))) := ⟨bkk⟩
            have n2_ : Aside0 (Below w.heap.size w (((w21.setCell ⟨gb289, 0, none⟩ (.int .i64 ((rd_T89 l0_2 x9_1).f0))).setCell ⟨gb289, 1, none⟩ (.string ((rd_T89 l0_2 x9_1).f1))).setCell ⟨gb289, 2, none⟩ (.int .i64 ((rd_T89 l0_2 x9_1).f2)))) := ⟨bl⟩
            (try clear BK287)
            (try clear BK289)
            (try clear HB)
            generalize (((w21.setCell ⟨gb289, 0, none⟩ (.int .i64 ((rd_T89 l0_2 x9_1).f0))).setCell ⟨gb289, 1, none⟩ (.string ((rd_T89 l0_2 x9_1).f1))).setCell ⟨gb289, 2, none⟩ (.int .i64 ((rd_T89 l0_2 x9_1).f2))) = w24 at n0_ n1_ n2_ ⊢
            have BK287 := n0_
            have BK289 := n1_
            have HB := n2_
            clear n0_ n1_ n2_
            replace BK287 := Aside0.mk (blk_drew BK287.out); replace BK289 := Aside0.mk (blk_drew BK289.out); replace HB := Aside0.mk (below_drew1 HB.out)
            have p291 : 0 ≤ ((ji10) : Int) := of_decide_eq_true am
            have q291 : (ji10) < (l0_2.length : Int) := of_decide_eq_true am
            obtain ⟨ad291, e291, hx291_0, hx291_1, hx291_2⟩ := at_T89 HR0_2.out (ji10) p291 q291
            have hw291_2 := hx291_2
            have hw291_1 := hx291_1
            have hw291_0 := hx291_0
            obtain rfl : ad288 = ad291 := (by injection e291)
            replace hx291_0 := cz HB hx291_0
            replace hx291_1 := cz HB hx291_1
            replace hx291_2 := cz HB hx291_2
            replace p291 := eq_true p291
            replace q291 := eq_true q291
            refine start_ (n := 32) (S := fun w' => w'.cell? ⟨gb289, 0, none⟩ = some (.int .i64 ((rd_T89 l0_2 x9_1).f0)) ∧ w'.cell? ⟨gb289, 1, none⟩ = some (.string ((rd_T89 l0_2 x9_1).f1)) ∧ w'.cell? ⟨gb289, 2, none⟩ = some (.int .i64 ((rd_T89 l0_2 x9_1).f2)) ∧ w'.cell? ⟨gb287, 0, none⟩ = some (.int .i64 a0_0) ∧ w'.cell? ⟨gb287, 1, none⟩ = some (.int .i64 a0_1) ∧ w'.cell? ⟨gb287, 2, none⟩ = some (.slice (some ad288) l0_2.length c0_2) ∧ w'.cell? ⟨gb287, 3, none⟩ = some (.slice A0_3 l0_3.length c0_3) ∧ w'.cell? ⟨gb287, 4, none⟩ = some (.slice A0_4 l0_4.length c0_4) ∧ w'.cell? (ad288.add (((ji10)).toNat * 3)) = some (.int .i64 ((rd_T89 l0_2 (ji10)).f0)) ∧ w'.cell? ⟨(ad288.add (((ji10)).toNat * 3)).block, (ad288.add (((ji10)).toNat * 3)).off + 1, none⟩ = some (.string ((rd_T89 l0_2 (ji10)).f1)) ∧ w'.cell? ⟨(ad288.add (((ji10)).toNat * 3)).block, (ad288.add (((ji10)).toNat * 3)).off + 2, none⟩ = some (.int .i64 ((rd_T89 l0_2 (ji10)).f2))) (ds := []) (bo 32 0) (by kernel_rfl) rfl rfl ⟨cb 0 BK289, cb 1 BK289, cb 2 BK289, cb 0 BK287, cb 1 BK287, cb 2 BK287, cb 3 BK287, cb 4 BK287, ((HB.out.cell (World.block_lt_of_cell? w _ hw291_0)).trans hw291_0), ((HB.out.cell (World.block_lt_of_cell? w _ hw291_1)).trans hw291_1), ((HB.out.cell (World.block_lt_of_cell? w _ hw291_2)).trans hw291_2)⟩ (fun hHeld => ?_); refine with_tabW impl_inodesOk.tab5 impl_inodesOk.bits5 (fun HT_ HW_ => ?_)
            generalize w24.drew = w25 at BK287 BK289 HB hx291_0 hx291_1 hx291_2 hHeld ⊢
            refine pV 0 14 (bo 32 1) ?_
            refine pV 2 16 (bo 32 5) ?_
            refine tV 1 15 (bo 32 7) ?_
            refine tV 3 17 (bo 32 15) ?_
            refine pV 4 18 (bo 32 31) ?_
            refine one_ (i := 5) (N := some 19) (bo 32 63) rfl rfl (one_of HT_.out (by kernel_rfl)) (by decide) (fun K hK => ?_)
            refine goes_ Try.func54 (by kernel_rfl) rfl #[.int .i64 ((rd_T89 l0_2 x9_1).f0), .int .i64 1, .int .i64 (wrap64 (a0_1 - 1))] (by rfl) rfl rfl sa ?_
            with_reducible refine (impl_from.calls ((rd_T89 l0_2 x9_1).f0) 1 (wrap64 (a0_1 - 1)) true _ A7.out).mono ?_
            rintro e w' ⟨rfl, ⟨nd, rfl⟩⟩
            refine ⟨_, rfl, ?_⟩
            refine hK.out _ _ ⟨cb 0 BK289, cb 1 BK289, cb 2 BK289, cb 0 BK287, cb 1 BK287, cb 2 BK287, cb 3 BK287, cb 4 BK287, ((HB.out.cell (World.block_lt_of_cell? w _ hw291_0)).trans hw291_0), ((HB.out.cell (World.block_lt_of_cell? w _ hw291_1)).trans hw291_1), ((HB.out.cell (World.block_lt_of_cell? w _ hw291_2)).trans hw291_2)⟩ (fun hHeld => ?_)
            clear hK K
            refine norm_ (a' := ?_) ?_ ?_
            rotate_left
            ·show Act.put _ (some 19) _ = _
             simp only [Act.put, List.setIfInBounds_toArray, List.set_cons_zero, List.set_cons_succ, i64_w, i32_w]
             rfl
            refine pV 6 20 (bo 32 127) ?_
            refine pV 7 21 (bo 32 255) ?_
            refine pV 8 22 (bo 32 511) ?_
            refine pV 9 23 (bo 32 1023) ?_
            refine pV 10 24 (bo 32 2047) ?_
            refine pV 11 25 (bo 32 4095) ?_
            refine pV 13 27 (bo 32 12287) ?_
            refine pV 14 28 (bo 32 28671) ?_
            refine pV 18 32 (bo 32 290815) ?_
            refine tV 12 26 (bo 32 294911) ?_
            refine pV 15 29 (bo 32 327679) ?_
            refine pV 16 30 (bo 32 393215) ?_
            refine tV 17 31 (bo 32 524287) ?_
            refine tV 19 33 (bo 32 1048575) ?_
            refine pV 20 34 (bo 32 2097151) ?_
            refine pV 21 35 (bo 32 4194303) ?_
            refine pV 22 36 (bo 32 8388607) ?_
            refine pV 23 37 (bo 32 16777215) ?_
            refine pV 24 38 (bo 32 33554431) ?_
            refine pV 26 40 (bo 32 100663295) ?_
            refine tV 25 39 (bo 32 134217727) ?_
            refine tV 27 41 (bo 32 268435455) ?_
            refine pV 28 42 (bo 32 536870911) ?_
            refine one_ (i := 29) (N := some 43) (bo 32 1073741823) rfl rfl (one_of HT_.out (by kernel_rfl)) (by decide) (fun K hK => ?_)
            refine goes_ Try.func54 (by kernel_rfl) rfl #[.int .i64 ((rd_T89 l0_2 x9_1).f2), .int .i64 0, .int .i64 (((rd_T89 l0_2 x9_1).f1).size : Int)] (by rfl) rfl rfl sa ?_
            with_reducible refine (impl_from.calls ((rd_T89 l0_2 x9_1).f2) 0 (((rd_T89 l0_2 x9_1).f1).size : Int) true _ A19.out).mono ?_
            rintro e w' ⟨rfl, ⟨nd, rfl⟩⟩
            refine ⟨_, rfl, ?_⟩
            refine hK.out _ _ ⟨cb 0 BK289, cb 1 BK289, cb 2 BK289, cb 0 BK287, cb 1 BK287, cb 2 BK287, cb 3 BK287, cb 4 BK287, ((HB.out.cell (World.block_lt_of_cell? w _ hw291_0)).trans hw291_0), ((HB.out.cell (World.block_lt_of_cell? w _ hw291_1)).trans hw291_1), ((HB.out.cell (World.block_lt_of_cell? w _ hw291_2)).trans hw291_2)⟩ (fun hHeld => ?_)
            clear hK K
            refine norm_ (a' := ?_) ?_ ?_
            rotate_left
            ·show Act.put _ (some 43) _ = _
             simp only [Act.put, List.setIfInBounds_toArray, List.set_cons_zero, List.set_cons_succ, i64_w, i32_w]
             rfl
            refine pV 30 44 (bo 32 2147483647) ?_
            refine pV 31 45 (bo 32 4294967295) ?_
            refine done_ (done_of HT_.out (by kernel_rfl)) ?_
            obtain ⟨Z26_0, Z26_1, Z26_2, Y26_0, Y26_1, Y26_2⟩ := cf3 BK289
            try go_wp2
            go_roundg k1
            case measure => have := HK1.out; omega
            case rel => exact ⟨(wrap64 (x3_1 + (((rd_T89 l0_2 x9_1).f1).size : Int))), (wrap64 (x9_1 + 1)), fa, fa, H', ⟨by have := HK1.out; omega⟩, ⟨by (with_reducible repeat (first | refine blk_drewN ?_ _ | refine blk_drew ?_ | refine blk_alloc ?_ _)); exact BK287.out⟩, ⟨bl⟩⟩
           ·replace c20 := Bool.eq_false_iff.mpr c20
            subst c20
            replace H := iF H
            obtain rfl := Option.some.inj H
            have p288 : 0 ≤ (x9_1 : Int) := of_decide_eq_true am
            have q288 : x9_1 < (l0_2.length : Int) := of_decide_eq_true am
            obtain ⟨ad288, e288, hx288_0, hx288_1, hx288_2⟩ := at_T89 HR0_2.out x9_1 p288 q288
            cases e288
            replace hx288_0 := cz HB hx288_0
            replace hx288_1 := cz HB hx288_1
            replace hx288_2 := cz HB hx288_2
            replace p288 := eq_true p288
            replace q288 := eq_true q288
            try go_wp2_with (first | ((with_reducible refine gD 5 rfl ?_); (try (refine gate_guard rfl ?_; dsimp only)); refine boxZ 5 #[.int .i64 0, .string (⟨#[]⟩ : ByteArray), .int .i64 0] 89 ?_; intro gb289 hg w27 hbox hb; have BK289 := Aside0.mk hbox; have GW289 := gw (w := w) hg; have GE289 := gw (w := w) hg; replace HB := bs (w := w) hb; have NB287_289 := nl BK287 hg; have NB289_287 := nr BK287 hg; replace BK287 := bv BK287 hb; clear hb hbox hg; have hnb28 := NB289_287.out; have hnc28 := NB287_289.out; obtain ⟨Z29_0, Z29_1, Z29_2, Y29_0, Y29_1, Y29_2⟩ := cf3 BK289))
            have n0_ : Aside0 ((((w27.setCell ⟨gb289, 0, none⟩ (.int .i64 ((rd_T89 l0_2 x9_1).f0))).setCell ⟨gb289, 1, none⟩ (.string ((rd_T89 l0_2 x9_1).f1))).setCell ⟨gb289, 2, none⟩ (.int .i64 ((rd_T89 l0_2 x9_1).f2))).heap[gb287]? = some (.cells #[.int .i64 a0_0, .int .i64 a0_1, .slice (some ad288) l0_2.length c0_2, .slice A0_3 l0_3.length c0_3, .slice A0_4 l0_4.length c0_4] 26 (0, 0))) := ⟨bkk⟩
            have n1_ : Aside0 ((((w27.setCell ⟨gb289, 0, none⟩ (.int .i64 ((rd_T89 l0_2 x9_1).f0))).setCell ⟨gb289, 1, none⟩ (.string ((rd_T89 l0_2 x9_1).f1))).setCell ⟨gb289, 2, none⟩ (.int .i64 ((rd_T89 l0_2 x9_1).f2))).heap[gb289]? = some (.cells #[.int .i64 ((rd_T89 l0_2 x9_1).f0), .string ((rd_T89 l0_2 x9_1).f1), .int .i64 ((rd_T89 l0_2 x9_1).f2)] 89 (0, 0))) := ⟨bkk⟩
            have n2_ : Aside0 (Below w.heap.size w (((w27.setCell ⟨gb289, 0, none⟩ (.int .i64 ((rd_T89 l0_2 x9_1).f0))).setCell ⟨gb289, 1, none⟩ (.string ((rd_T89 l0_2 x9_1).f1))).setCell ⟨gb289, 2, none⟩ (.int .i64 ((rd_T89 l0_2 x9_1).f2)))) := ⟨bl⟩
            (try clear BK287)
            (try clear BK289)
            (try clear HB)
            generalize (((w27.setCell ⟨gb289, 0, none⟩ (.int .i64 ((rd_T89 l0_2 x9_1).f0))).setCell ⟨gb289, 1, none⟩ (.string ((rd_T89 l0_2 x9_1).f1))).setCell ⟨gb289, 2, none⟩ (.int .i64 ((rd_T89 l0_2 x9_1).f2))) = w30 at n0_ n1_ n2_ ⊢
            have BK287 := n0_
            have BK289 := n1_
            have HB := n2_
            clear n0_ n1_ n2_
            replace BK287 := Aside0.mk (blk_drew BK287.out); replace BK289 := Aside0.mk (blk_drew BK289.out); replace HB := Aside0.mk (below_drew1 HB.out)
            have p291 : 0 ≤ ((ji10) : Int) := of_decide_eq_true am
            have q291 : (ji10) < (l0_2.length : Int) := of_decide_eq_true am
            obtain ⟨ad291, e291, hx291_0, hx291_1, hx291_2⟩ := at_T89 HR0_2.out (ji10) p291 q291
            have hw291_2 := hx291_2
            have hw291_1 := hx291_1
            have hw291_0 := hx291_0
            obtain rfl : ad288 = ad291 := (by injection e291)
            replace hx291_0 := cz HB hx291_0
            replace hx291_1 := cz HB hx291_1
            replace hx291_2 := cz HB hx291_2
            replace p291 := eq_true p291
            replace q291 := eq_true q291
            refine start_ (n := 32) (S := fun w' => w'.cell? ⟨gb289, 0, none⟩ = some (.int .i64 ((rd_T89 l0_2 x9_1).f0)) ∧ w'.cell? ⟨gb289, 1, none⟩ = some (.string ((rd_T89 l0_2 x9_1).f1)) ∧ w'.cell? ⟨gb289, 2, none⟩ = some (.int .i64 ((rd_T89 l0_2 x9_1).f2)) ∧ w'.cell? ⟨gb287, 0, none⟩ = some (.int .i64 a0_0) ∧ w'.cell? ⟨gb287, 1, none⟩ = some (.int .i64 a0_1) ∧ w'.cell? ⟨gb287, 2, none⟩ = some (.slice (some ad288) l0_2.length c0_2) ∧ w'.cell? ⟨gb287, 3, none⟩ = some (.slice A0_3 l0_3.length c0_3) ∧ w'.cell? ⟨gb287, 4, none⟩ = some (.slice A0_4 l0_4.length c0_4) ∧ w'.cell? (ad288.add (((ji10)).toNat * 3)) = some (.int .i64 ((rd_T89 l0_2 (ji10)).f0)) ∧ w'.cell? ⟨(ad288.add (((ji10)).toNat * 3)).block, (ad288.add (((ji10)).toNat * 3)).off + 1, none⟩ = some (.string ((rd_T89 l0_2 (ji10)).f1)) ∧ w'.cell? ⟨(ad288.add (((ji10)).toNat * 3)).block, (ad288.add (((ji10)).toNat * 3)).off + 2, none⟩ = some (.int .i64 ((rd_T89 l0_2 (ji10)).f2))) (ds := []) (bo 32 0) (by kernel_rfl) rfl rfl ⟨cb 0 BK289, cb 1 BK289, cb 2 BK289, cb 0 BK287, cb 1 BK287, cb 2 BK287, cb 3 BK287, cb 4 BK287, ((HB.out.cell (World.block_lt_of_cell? w _ hw291_0)).trans hw291_0), ((HB.out.cell (World.block_lt_of_cell? w _ hw291_1)).trans hw291_1), ((HB.out.cell (World.block_lt_of_cell? w _ hw291_2)).trans hw291_2)⟩ (fun hHeld => ?_); refine with_tabW impl_inodesOk.tab5 impl_inodesOk.bits5 (fun HT_ HW_ => ?_)
            generalize w30.drew = w31 at BK287 BK289 HB hx291_0 hx291_1 hx291_2 hHeld ⊢
            refine pV 0 14 (bo 32 1) ?_
            refine pV 2 16 (bo 32 5) ?_
            refine tV 1 15 (bo 32 7) ?_
            refine tV 3 17 (bo 32 15) ?_
            refine pV 4 18 (bo 32 31) ?_
            refine one_ (i := 5) (N := some 19) (bo 32 63) rfl rfl (one_of HT_.out (by kernel_rfl)) (by decide) (fun K hK => ?_)
            refine goes_ Try.func54 (by kernel_rfl) rfl #[.int .i64 ((rd_T89 l0_2 x9_1).f0), .int .i64 1, .int .i64 (wrap64 (a0_1 - 1))] (by rfl) rfl rfl sa ?_
            with_reducible refine (impl_from.calls ((rd_T89 l0_2 x9_1).f0) 1 (wrap64 (a0_1 - 1)) true _ A7.out).mono ?_
            rintro e w' ⟨rfl, ⟨nd, rfl⟩⟩
            refine ⟨_, rfl, ?_⟩
            refine hK.out _ _ ⟨cb 0 BK289, cb 1 BK289, cb 2 BK289, cb 0 BK287, cb 1 BK287, cb 2 BK287, cb 3 BK287, cb 4 BK287, ((HB.out.cell (World.block_lt_of_cell? w _ hw291_0)).trans hw291_0), ((HB.out.cell (World.block_lt_of_cell? w _ hw291_1)).trans hw291_1), ((HB.out.cell (World.block_lt_of_cell? w _ hw291_2)).trans hw291_2)⟩ (fun hHeld => ?_)
            clear hK K
            refine norm_ (a' := ?_) ?_ ?_
            rotate_left
            ·show Act.put _ (some 19) _ = _
             simp only [Act.put, List.setIfInBounds_toArray, List.set_cons_zero, List.set_cons_succ, i64_w, i32_w]
             rfl
            refine pV 6 20 (bo 32 127) ?_
            refine pV 7 21 (bo 32 255) ?_
            refine pV 8 22 (bo 32 511) ?_
            refine pV 9 23 (bo 32 1023) ?_
            refine pV 10 24 (bo 32 2047) ?_
            refine pV 11 25 (bo 32 4095) ?_
            refine pV 13 27 (bo 32 12287) ?_
            refine pV 14 28 (bo 32 28671) ?_
            refine pV 18 32 (bo 32 290815) ?_
            refine tV 12 26 (bo 32 294911) ?_
            refine pV 15 29 (bo 32 327679) ?_
            refine pV 16 30 (bo 32 393215) ?_
            refine tV 17 31 (bo 32 524287) ?_
            refine tV 19 33 (bo 32 1048575) ?_
            refine pV 20 34 (bo 32 2097151) ?_
            refine pV 21 35 (bo 32 4194303) ?_
            refine pV 22 36 (bo 32 8388607) ?_
            refine pV 23 37 (bo 32 16777215) ?_
            refine pV 24 38 (bo 32 33554431) ?_
            refine pV 26 40 (bo 32 100663295) ?_
            refine tV 25 39 (bo 32 134217727) ?_
            refine tV 27 41 (bo 32 268435455) ?_
            refine pV 28 42 (bo 32 536870911) ?_
            refine one_ (i := 29) (N := some 43) (bo 32 1073741823) rfl rfl (one_of HT_.out (by kernel_rfl)) (by decide) (fun K hK => ?_)
            refine goes_ Try.func54 (by kernel_rfl) rfl #[.int .i64 ((rd_T89 l0_2 x9_1).f2), .int .i64 0, .int .i64 (((rd_T89 l0_2 x9_1).f1).size : Int)] (by rfl) rfl rfl sa ?_
            with_reducible refine (impl_from.calls ((rd_T89 l0_2 x9_1).f2) 0 (((rd_T89 l0_2 x9_1).f1).size : Int) false _ A19.out).mono ?_
            rintro e w' ⟨rfl, ⟨nd, rfl⟩⟩
            refine ⟨_, rfl, ?_⟩
            refine hK.out _ _ ⟨cb 0 BK289, cb 1 BK289, cb 2 BK289, cb 0 BK287, cb 1 BK287, cb 2 BK287, cb 3 BK287, cb 4 BK287, ((HB.out.cell (World.block_lt_of_cell? w _ hw291_0)).trans hw291_0), ((HB.out.cell (World.block_lt_of_cell? w _ hw291_1)).trans hw291_1), ((HB.out.cell (World.block_lt_of_cell? w _ hw291_2)).trans hw291_2)⟩ (fun hHeld => ?_)
            clear hK K
            refine norm_ (a' := ?_) ?_ ?_
            rotate_left
            ·show Act.put _ (some 43) _ = _
             simp only [Act.put, List.setIfInBounds_toArray, List.set_cons_zero, List.set_cons_succ, i64_w, i32_w]
             rfl
            refine pV 30 44 (bo 32 2147483647) ?_
            refine pV 31 45 (bo 32 4294967295) ?_
            refine done_ (done_of HT_.out (by kernel_rfl)) ?_
            try go_wp2
            go_ret
            exact ⟨by first | rfl | (simp [errW_none, errW_some] <;> rfl) | (simp only [← hji10]; first | rfl | (simp [errW_none, errW_some] <;> rfl)) | (simp [*, errW_none, errW_some] <;> rfl), bl⟩
         ·rw [if_neg c12] at H
          exact absurd H (by simp)
        ·rw [if_neg c11] at H
         exact absurd H (by simp)
       ·rw [if_neg c9] at H
        have c9b0 : decide (0 < x9_1) = false := decide_eq_false c9
        clear c9
        obtain ⟨t293, A32, H⟩ := bd H
        by_cases c33 : t293 = true
        ·subst c33
         replace H := iT H
         have H' := Aside0.mk H
         clear H
         have p288 : 0 ≤ (x9_1 : Int) := of_decide_eq_true am
         have q288 : x9_1 < (l0_2.length : Int) := of_decide_eq_true am
         obtain ⟨ad288, e288, hx288_0, hx288_1, hx288_2⟩ := at_T89 HR0_2.out x9_1 p288 q288
         cases e288
         replace hx288_0 := cz HB hx288_0
         replace hx288_1 := cz HB hx288_1
         replace hx288_2 := cz HB hx288_2
         replace p288 := eq_true p288
         replace q288 := eq_true q288
         try go_wp2_with (first | ((with_reducible refine gD 5 rfl ?_); (try (refine gate_guard rfl ?_; dsimp only)); refine boxZ 5 #[.int .i64 0, .string (⟨#[]⟩ : ByteArray), .int .i64 0] 89 ?_; intro gb289 hg w34 hbox hb; have BK289 := Aside0.mk hbox; have GW289 := gw (w := w) hg; have GE289 := gw (w := w) hg; replace HB := bs (w := w) hb; have NB287_289 := nl BK287 hg; have NB289_287 := nr BK287 hg; replace BK287 := bv BK287 hb; clear hb hbox hg; have hnb35 := NB289_287.out; have hnc35 := NB287_289.out; obtain ⟨Z36_0, Z36_1, Z36_2, Y36_0, Y36_1, Y36_2⟩ := cf3 BK289))
         have n0_ : Aside0 ((((w34.setCell ⟨gb289, 0, none⟩ (.int .i64 ((rd_T89 l0_2 x9_1).f0))).setCell ⟨gb289, 1, none⟩ (.string ((rd_T89 l0_2 x9_1).f1))).setCell ⟨gb289, 2, none⟩ (.int .i64 ((rd_T89 l0_2 x9_1).f2))).heap[gb287]? = some (.cells #[.int .i64 a0_0, .int .i64 a0_1, .slice (some ad288) l0_2.length c0_2, .slice A0_3 l0_3.length c0_3, .slice A0_4 l0_4.length c0_4] 26 (0, 0))) := ⟨bkk⟩
         have n1_ : Aside0 ((((w34.setCell ⟨gb289, 0, none⟩ (.int .i64 ((rd_T89 l0_2 x9_1).f0))).setCell ⟨gb289, 1, none⟩ (.string ((rd_T89 l0_2 x9_1).f1))).setCell ⟨gb289, 2, none⟩ (.int .i64 ((rd_T89 l0_2 x9_1).f2))).heap[gb289]? = some (.cells #[.int .i64 ((rd_T89 l0_2 x9_1).f0), .string ((rd_T89 l0_2 x9_1).f1), .int .i64 ((rd_T89 l0_2 x9_1).f2)] 89 (0, 0))) := ⟨bkk⟩
         have n2_ : Aside0 (Below w.heap.size w (((w34.setCell ⟨gb289, 0, none⟩ (.int .i64 ((rd_T89 l0_2 x9_1).f0))).setCell ⟨gb289, 1, none⟩ (.string ((rd_T89 l0_2 x9_1).f1))).setCell ⟨gb289, 2, none⟩ (.int .i64 ((rd_T89 l0_2 x9_1).f2)))) := ⟨bl⟩
         (try clear BK287)
         (try clear BK289)
         (try clear HB)
         generalize (((w34.setCell ⟨gb289, 0, none⟩ (.int .i64 ((rd_T89 l0_2 x9_1).f0))).setCell ⟨gb289, 1, none⟩ (.string ((rd_T89 l0_2 x9_1).f1))).setCell ⟨gb289, 2, none⟩ (.int .i64 ((rd_T89 l0_2 x9_1).f2))) = w37 at n0_ n1_ n2_ ⊢
         have BK287 := n0_
         have BK289 := n1_
         have HB := n2_
         clear n0_ n1_ n2_
         replace BK287 := Aside0.mk (blk_drew BK287.out); replace BK289 := Aside0.mk (blk_drew BK289.out); replace HB := Aside0.mk (below_drew1 HB.out)
         refine start_ (n := 32) (S := fun w' => w'.cell? ⟨gb289, 0, none⟩ = some (.int .i64 ((rd_T89 l0_2 x9_1).f0)) ∧ w'.cell? ⟨gb289, 1, none⟩ = some (.string ((rd_T89 l0_2 x9_1).f1)) ∧ w'.cell? ⟨gb289, 2, none⟩ = some (.int .i64 ((rd_T89 l0_2 x9_1).f2)) ∧ w'.cell? ⟨gb287, 0, none⟩ = some (.int .i64 a0_0) ∧ w'.cell? ⟨gb287, 1, none⟩ = some (.int .i64 a0_1) ∧ w'.cell? ⟨gb287, 2, none⟩ = some (.slice (some ad288) l0_2.length c0_2) ∧ w'.cell? ⟨gb287, 3, none⟩ = some (.slice A0_3 l0_3.length c0_3) ∧ w'.cell? ⟨gb287, 4, none⟩ = some (.slice A0_4 l0_4.length c0_4)) (ds := []) (bo 32 0) (by kernel_rfl) rfl rfl ⟨cb 0 BK289, cb 1 BK289, cb 2 BK289, cb 0 BK287, cb 1 BK287, cb 2 BK287, cb 3 BK287, cb 4 BK287⟩ (fun hHeld => ?_); refine with_tabW impl_inodesOk.tab5 impl_inodesOk.bits5 (fun HT_ HW_ => ?_)
         generalize w37.drew = w38 at BK287 BK289 HB hHeld ⊢
         refine pV 0 14 (bo 32 1) ?_
         refine pV 2 16 (bo 32 5) ?_
         refine tV 1 15 (bo 32 7) ?_
         refine tV 3 17 (bo 32 15) ?_
         refine pV 4 18 (bo 32 31) ?_
         refine one_ (i := 5) (N := some 19) (bo 32 63) rfl rfl (one_of HT_.out (by kernel_rfl)) (by decide) (fun K hK => ?_)
         refine goes_ Try.func54 (by kernel_rfl) rfl #[.int .i64 ((rd_T89 l0_2 x9_1).f0), .int .i64 1, .int .i64 (wrap64 (a0_1 - 1))] (by rfl) rfl rfl sa ?_
         with_reducible refine (impl_from.calls ((rd_T89 l0_2 x9_1).f0) 1 (wrap64 (a0_1 - 1)) true _ A7.out).mono ?_
         rintro e w' ⟨rfl, ⟨nd, rfl⟩⟩
         refine ⟨_, rfl, ?_⟩
         refine hK.out _ _ ⟨cb 0 BK289, cb 1 BK289, cb 2 BK289, cb 0 BK287, cb 1 BK287, cb 2 BK287, cb 3 BK287, cb 4 BK287⟩ (fun hHeld => ?_)
         clear hK K
         refine norm_ (a' := ?_) ?_ ?_
         rotate_left
         ·show Act.put _ (some 19) _ = _
          simp only [Act.put, List.setIfInBounds_toArray, List.set_cons_zero, List.set_cons_succ, i64_w, i32_w]
          rfl
         refine pV 6 20 (bo 32 127) ?_
         refine pV 7 21 (bo 32 255) ?_
         refine pV 8 22 (bo 32 511) ?_
         refine pV 9 23 (bo 32 1023) ?_
         refine pV 10 24 (bo 32 2047) ?_
         refine pU 11 25 (bo 32 4095) ?_
         refine pU 12 26 (bo 32 8191) ?_
         refine pU 13 27 (bo 32 16383) ?_
         refine pU 14 28 (bo 32 32767) ?_
         refine pU 15 29 (bo 32 65535) ?_
         refine pU 16 30 (bo 32 131071) ?_
         refine pU 17 31 (bo 32 262143) ?_
         refine pU 18 32 (bo 32 524287) ?_
         refine pU 19 33 (bo 32 1048575) ?_
         refine pU 20 34 (bo 32 2097151) ?_
         refine pV 21 35 (bo 32 4194303) ?_
         refine pV 22 36 (bo 32 8388607) ?_
         refine pV 23 37 (bo 32 16777215) ?_
         refine pV 24 38 (bo 32 33554431) ?_
         refine pV 26 40 (bo 32 100663295) ?_
         refine tV 25 39 (bo 32 134217727) ?_
         refine tV 27 41 (bo 32 268435455) ?_
         refine pV 28 42 (bo 32 536870911) ?_
         refine one_ (i := 29) (N := some 43) (bo 32 1073741823) rfl rfl (one_of HT_.out (by kernel_rfl)) (by decide) (fun K hK => ?_)
         refine goes_ Try.func54 (by kernel_rfl) rfl #[.int .i64 ((rd_T89 l0_2 x9_1).f2), .int .i64 0, .int .i64 (((rd_T89 l0_2 x9_1).f1).size : Int)] (by rfl) rfl rfl sa ?_
         with_reducible refine (impl_from.calls ((rd_T89 l0_2 x9_1).f2) 0 (((rd_T89 l0_2 x9_1).f1).size : Int) true _ A32.out).mono ?_
         rintro e w' ⟨rfl, ⟨nd, rfl⟩⟩
         refine ⟨_, rfl, ?_⟩
         refine hK.out _ _ ⟨cb 0 BK289, cb 1 BK289, cb 2 BK289, cb 0 BK287, cb 1 BK287, cb 2 BK287, cb 3 BK287, cb 4 BK287⟩ (fun hHeld => ?_)
         clear hK K
         refine norm_ (a' := ?_) ?_ ?_
         rotate_left
         ·show Act.put _ (some 43) _ = _
          simp only [Act.put, List.setIfInBounds_toArray, List.set_cons_zero, List.set_cons_succ, i64_w, i32_w]
          rfl
         refine pV 30 44 (bo 32 2147483647) ?_
         refine pV 31 45 (bo 32 4294967295) ?_
         refine done_ (done_of HT_.out (by kernel_rfl)) ?_
         obtain ⟨Z39_0, Z39_1, Z39_2, Y39_0, Y39_1, Y39_2⟩ := cf3 BK289
         try go_wp2
         go_roundg k1
         case measure => have := HK1.out; omega
         case rel => exact ⟨(wrap64 (x3_1 + (((rd_T89 l0_2 x9_1).f1).size : Int))), (wrap64 (x9_1 + 1)), fa, fa, H', ⟨by have := HK1.out; omega⟩, ⟨by (with_reducible repeat (first | refine blk_drewN ?_ _ | refine blk_drew ?_ | refine blk_alloc ?_ _)); exact BK287.out⟩, ⟨bl⟩⟩
        ·replace c33 := Bool.eq_false_iff.mpr c33
         subst c33
         replace H := iF H
         obtain rfl := Option.some.inj H
         have p288 : 0 ≤ (x9_1 : Int) := of_decide_eq_true am
         have q288 : x9_1 < (l0_2.length : Int) := of_decide_eq_true am
         obtain ⟨ad288, e288, hx288_0, hx288_1, hx288_2⟩ := at_T89 HR0_2.out x9_1 p288 q288
         cases e288
         replace hx288_0 := cz HB hx288_0
         replace hx288_1 := cz HB hx288_1
         replace hx288_2 := cz HB hx288_2
         replace p288 := eq_true p288
         replace q288 := eq_true q288
         try go_wp2_with (first | ((with_reducible refine gD 5 rfl ?_); (try (refine gate_guard rfl ?_; dsimp only)); refine boxZ 5 #[.int .i64 0, .string (⟨#[]⟩ : ByteArray), .int .i64 0] 89 ?_; intro gb289 hg w40 hbox hb; have BK289 := Aside0.mk hbox; have GW289 := gw (w := w) hg; have GE289 := gw (w := w) hg; replace HB := bs (w := w) hb; have NB287_289 := nl BK287 hg; have NB289_287 := nr BK287 hg; replace BK287 := bv BK287 hb; clear hb hbox hg; have hnb41 := NB289_287.out; have hnc41 := NB287_289.out; obtain ⟨Z42_0, Z42_1, Z42_2, Y42_0, Y42_1, Y42_2⟩ := cf3 BK289))
         have n0_ : Aside0 ((((w40.setCell ⟨gb289, 0, none⟩ (.int .i64 ((rd_T89 l0_2 x9_1).f0))).setCell ⟨gb289, 1, none⟩ (.string ((rd_T89 l0_2 x9_1).f1))).setCell ⟨gb289, 2, none⟩ (.int .i64 ((rd_T89 l0_2 x9_1).f2))).heap[gb287]? = some (.cells #[.int .i64 a0_0, .int .i64 a0_1, .slice (some ad288) l0_2.length c0_2, .slice A0_3 l0_3.length c0_3, .slice A0_4 l0_4.length c0_4] 26 (0, 0))) := ⟨bkk⟩
         have n1_ : Aside0 ((((w40.setCell ⟨gb289, 0, none⟩ (.int .i64 ((rd_T89 l0_2 x9_1).f0))).setCell ⟨gb289, 1, none⟩ (.string ((rd_T89 l0_2 x9_1).f1))).setCell ⟨gb289, 2, none⟩ (.int .i64 ((rd_T89 l0_2 x9_1).f2))).heap[gb289]? = some (.cells #[.int .i64 ((rd_T89 l0_2 x9_1).f0), .string ((rd_T89 l0_2 x9_1).f1), .int .i64 ((rd_T89 l0_2 x9_1).f2)] 89 (0, 0))) := ⟨bkk⟩
         have n2_ : Aside0 (Below w.heap.size w (((w40.setCell ⟨gb289, 0, none⟩ (.int .i64 ((rd_T89 l0_2 x9_1).f0))).setCell ⟨gb289, 1, none⟩ (.string ((rd_T89 l0_2 x9_1).f1))).setCell ⟨gb289, 2, none⟩ (.int .i64 ((rd_T89 l0_2 x9_1).f2)))) := ⟨bl⟩
         (try clear BK287)
         (try clear BK289)
         (try clear HB)
         generalize (((w40.setCell ⟨gb289, 0, none⟩ (.int .i64 ((rd_T89 l0_2 x9_1).f0))).setCell ⟨gb289, 1, none⟩ (.string ((rd_T89 l0_2 x9_1).f1))).setCell ⟨gb289, 2, none⟩ (.int .i64 ((rd_T89 l0_2 x9_1).f2))) = w43 at n0_ n1_ n2_ ⊢
         have BK287 := n0_
         have BK289 := n1_
         have HB := n2_
         clear n0_ n1_ n2_
         replace BK287 := Aside0.mk (blk_drew BK287.out); replace BK289 := Aside0.mk (blk_drew BK289.out); replace HB := Aside0.mk (below_drew1 HB.out)
         refine start_ (n := 32) (S := fun w' => w'.cell? ⟨gb289, 0, none⟩ = some (.int .i64 ((rd_T89 l0_2 x9_1).f0)) ∧ w'.cell? ⟨gb289, 1, none⟩ = some (.string ((rd_T89 l0_2 x9_1).f1)) ∧ w'.cell? ⟨gb289, 2, none⟩ = some (.int .i64 ((rd_T89 l0_2 x9_1).f2)) ∧ w'.cell? ⟨gb287, 0, none⟩ = some (.int .i64 a0_0) ∧ w'.cell? ⟨gb287, 1, none⟩ = some (.int .i64 a0_1) ∧ w'.cell? ⟨gb287, 2, none⟩ = some (.slice (some ad288) l0_2.length c0_2) ∧ w'.cell? ⟨gb287, 3, none⟩ = some (.slice A0_3 l0_3.length c0_3) ∧ w'.cell? ⟨gb287, 4, none⟩ = some (.slice A0_4 l0_4.length c0_4)) (ds := []) (bo 32 0) (by kernel_rfl) rfl rfl ⟨cb 0 BK289, cb 1 BK289, cb 2 BK289, cb 0 BK287, cb 1 BK287, cb 2 BK287, cb 3 BK287, cb 4 BK287⟩ (fun hHeld => ?_); refine with_tabW impl_inodesOk.tab5 impl_inodesOk.bits5 (fun HT_ HW_ => ?_)
         generalize w43.drew = w44 at BK287 BK289 HB hHeld ⊢
         refine pV 0 14 (bo 32 1) ?_
         refine pV 2 16 (bo 32 5) ?_
         refine tV 1 15 (bo 32 7) ?_
         refine tV 3 17 (bo 32 15) ?_
         refine pV 4 18 (bo 32 31) ?_
         refine one_ (i := 5) (N := some 19) (bo 32 63) rfl rfl (one_of HT_.out (by kernel_rfl)) (by decide) (fun K hK => ?_)
         refine goes_ Try.func54 (by kernel_rfl) rfl #[.int .i64 ((rd_T89 l0_2 x9_1).f0), .int .i64 1, .int .i64 (wrap64 (a0_1 - 1))] (by rfl) rfl rfl sa ?_
         with_reducible refine (impl_from.calls ((rd_T89 l0_2 x9_1).f0) 1 (wrap64 (a0_1 - 1)) true _ A7.out).mono ?_
         rintro e w' ⟨rfl, ⟨nd, rfl⟩⟩
         refine ⟨_, rfl, ?_⟩
         refine hK.out _ _ ⟨cb 0 BK289, cb 1 BK289, cb 2 BK289, cb 0 BK287, cb 1 BK287, cb 2 BK287, cb 3 BK287, cb 4 BK287⟩ (fun hHeld => ?_)
         clear hK K
         refine norm_ (a' := ?_) ?_ ?_
         rotate_left
         ·show Act.put _ (some 19) _ = _
          simp only [Act.put, List.setIfInBounds_toArray, List.set_cons_zero, List.set_cons_succ, i64_w, i32_w]
          rfl
         refine pV 6 20 (bo 32 127) ?_
         refine pV 7 21 (bo 32 255) ?_
         refine pV 8 22 (bo 32 511) ?_
         refine pV 9 23 (bo 32 1023) ?_
         refine pV 10 24 (bo 32 2047) ?_
         refine pU 11 25 (bo 32 4095) ?_
         refine pU 12 26 (bo 32 8191) ?_
         refine pU 13 27 (bo 32 16383) ?_
         refine pU 14 28 (bo 32 32767) ?_
         refine pU 15 29 (bo 32 65535) ?_
         refine pU 16 30 (bo 32 131071) ?_
         refine pU 17 31 (bo 32 262143) ?_
         refine pU 18 32 (bo 32 524287) ?_
         refine pU 19 33 (bo 32 1048575) ?_
         refine pU 20 34 (bo 32 2097151) ?_
         refine pV 21 35 (bo 32 4194303) ?_
         refine pV 22 36 (bo 32 8388607) ?_
         refine pV 23 37 (bo 32 16777215) ?_
         refine pV 24 38 (bo 32 33554431) ?_
         refine pV 26 40 (bo 32 100663295) ?_
         refine tV 25 39 (bo 32 134217727) ?_
         refine tV 27 41 (bo 32 268435455) ?_
         refine pV 28 42 (bo 32 536870911) ?_
         refine one_ (i := 29) (N := some 43) (bo 32 1073741823) rfl rfl (one_of HT_.out (by kernel_rfl)) (by decide) (fun K hK => ?_)
         refine goes_ Try.func54 (by kernel_rfl) rfl #[.int .i64 ((rd_T89 l0_2 x9_1).f2), .int .i64 0, .int .i64 (((rd_T89 l0_2 x9_1).f1).size : Int)] (by rfl) rfl rfl sa ?_
         with_reducible refine (impl_from.calls ((rd_T89 l0_2 x9_1).f2) 0 (((rd_T89 l0_2 x9_1).f1).size : Int) false _ A32.out).mono ?_
         rintro e w' ⟨rfl, ⟨nd, rfl⟩⟩
         refine ⟨_, rfl, ?_⟩
         refine hK.out _ _ ⟨cb 0 BK289, cb 1 BK289, cb 2 BK289, cb 0 BK287, cb 1 BK287, cb 2 BK287, cb 3 BK287, cb 4 BK287⟩ (fun hHeld => ?_)
         clear hK K
         refine norm_ (a' := ?_) ?_ ?_
         rotate_left
         ·show Act.put _ (some 43) _ = _
          simp only [Act.put, List.setIfInBounds_toArray, List.set_cons_zero, List.set_cons_succ, i64_w, i32_w]
          rfl
         refine pV 30 44 (bo 32 2147483647) ?_
         refine pV 31 45 (bo 32 4294967295) ?_
         refine done_ (done_of HT_.out (by kernel_rfl)) ?_
         try go_wp2
         go_ret
         exact ⟨fe, bl⟩
      ·replace c8 := Bool.eq_false_iff.mpr c8
       subst c8
       replace H := iF H
       obtain rfl := Option.some.inj H
       have p288 : 0 ≤ (x9_1 : Int) := of_decide_eq_true am
       have q288 : x9_1 < (l0_2.length : Int) := of_decide_eq_true am
       obtain ⟨ad288, e288, hx288_0, hx288_1, hx288_2⟩ := at_T89 HR0_2.out x9_1 p288 q288
       cases e288
       replace hx288_0 := cz HB hx288_0
       replace hx288_1 := cz HB hx288_1
       replace hx288_2 := cz HB hx288_2
       replace p288 := eq_true p288
       replace q288 := eq_true q288
       try go_wp2_with (first | ((with_reducible refine gD 5 rfl ?_); (try (refine gate_guard rfl ?_; dsimp only)); refine boxZ 5 #[.int .i64 0, .string (⟨#[]⟩ : ByteArray), .int .i64 0] 89 ?_; intro gb289 hg w45 hbox hb; have BK289 := Aside0.mk hbox; have GW289 := gw (w := w) hg; have GE289 := gw (w := w) hg; replace HB := bs (w := w) hb; have NB287_289 := nl BK287 hg; have NB289_287 := nr BK287 hg; replace BK287 := bv BK287 hb; clear hb hbox hg; have hnb46 := NB289_287.out; have hnc46 := NB287_289.out; obtain ⟨Z47_0, Z47_1, Z47_2, Y47_0, Y47_1, Y47_2⟩ := cf3 BK289))
       have n0_ : Aside0 ((((w45.setCell ⟨gb289, 0, none⟩ (.int .i64 ((rd_T89 l0_2 x9_1).f0))).setCell ⟨gb289, 1, none⟩ (.string ((rd_T89 l0_2 x9_1).f1))).setCell ⟨gb289, 2, none⟩ (.int .i64 ((rd_T89 l0_2 x9_1).f2))).heap[gb287]? = some (.cells #[.int .i64 a0_0, .int .i64 a0_1, .slice (some ad288) l0_2.length c0_2, .slice A0_3 l0_3.length c0_3, .slice A0_4 l0_4.length c0_4] 26 (0, 0))) := ⟨bkk⟩
       have n1_ : Aside0 ((((w45.setCell ⟨gb289, 0, none⟩ (.int .i64 ((rd_T89 l0_2 x9_1).f0))).setCell ⟨gb289, 1, none⟩ (.string ((rd_T89 l0_2 x9_1).f1))).setCell ⟨gb289, 2, none⟩ (.int .i64 ((rd_T89 l0_2 x9_1).f2))).heap[gb289]? = some (.cells #[.int .i64 ((rd_T89 l0_2 x9_1).f0), .string ((rd_T89 l0_2 x9_1).f1), .int .i64 ((rd_T89 l0_2 x9_1).f2)] 89 (0, 0))) := ⟨bkk⟩
       have n2_ : Aside0 (Below w.heap.size w (((w45.setCell ⟨gb289, 0, none⟩ (.int .i64 ((rd_T89 l0_2 x9_1).f0))).setCell ⟨gb289, 1, none⟩ (.string ((rd_T89 l0_2 x9_1).f1))).setCell ⟨gb289, 2, none⟩ (.int .i64 ((rd_T89 l0_2 x9_1).f2)))) := ⟨bl⟩
       (try clear BK287)
       (try clear BK289)
       (try clear HB)
       generalize (((w45.setCell ⟨gb289, 0, none⟩ (.int .i64 ((rd_T89 l0_2 x9_1).f0))).setCell ⟨gb289, 1, none⟩ (.string ((rd_T89 l0_2 x9_1).f1))).setCell ⟨gb289, 2, none⟩ (.int .i64 ((rd_T89 l0_2 x9_1).f2))) = w48 at n0_ n1_ n2_ ⊢
       have BK287 := n0_
       have BK289 := n1_
       have HB := n2_
       clear n0_ n1_ n2_
       replace BK287 := Aside0.mk (blk_drew BK287.out); replace BK289 := Aside0.mk (blk_drew BK289.out); replace HB := Aside0.mk (below_drew1 HB.out)
       refine start_ (n := 32) (S := fun w' => w'.cell? ⟨gb289, 0, none⟩ = some (.int .i64 ((rd_T89 l0_2 x9_1).f0)) ∧ w'.cell? ⟨gb289, 1, none⟩ = some (.string ((rd_T89 l0_2 x9_1).f1)) ∧ w'.cell? ⟨gb289, 2, none⟩ = some (.int .i64 ((rd_T89 l0_2 x9_1).f2)) ∧ w'.cell? ⟨gb287, 0, none⟩ = some (.int .i64 a0_0) ∧ w'.cell? ⟨gb287, 1, none⟩ = some (.int .i64 a0_1) ∧ w'.cell? ⟨gb287, 2, none⟩ = some (.slice (some ad288) l0_2.length c0_2) ∧ w'.cell? ⟨gb287, 3, none⟩ = some (.slice A0_3 l0_3.length c0_3) ∧ w'.cell? ⟨gb287, 4, none⟩ = some (.slice A0_4 l0_4.length c0_4)) (ds := []) (bo 32 0) (by kernel_rfl) rfl rfl ⟨cb 0 BK289, cb 1 BK289, cb 2 BK289, cb 0 BK287, cb 1 BK287, cb 2 BK287, cb 3 BK287, cb 4 BK287⟩ (fun hHeld => ?_); refine with_tabW impl_inodesOk.tab5 impl_inodesOk.bits5 (fun HT_ HW_ => ?_)
       generalize w48.drew = w49 at BK287 BK289 HB hHeld ⊢
       refine pV 0 14 (bo 32 1) ?_
       refine pV 2 16 (bo 32 5) ?_
       refine tV 1 15 (bo 32 7) ?_
       refine tV 3 17 (bo 32 15) ?_
       refine pV 4 18 (bo 32 31) ?_
       refine one_ (i := 5) (N := some 19) (bo 32 63) rfl rfl (one_of HT_.out (by kernel_rfl)) (by decide) (fun K hK => ?_)
       refine goes_ Try.func54 (by kernel_rfl) rfl #[.int .i64 ((rd_T89 l0_2 x9_1).f0), .int .i64 1, .int .i64 (wrap64 (a0_1 - 1))] (by rfl) rfl rfl sa ?_
       with_reducible refine (impl_from.calls ((rd_T89 l0_2 x9_1).f0) 1 (wrap64 (a0_1 - 1)) false _ A7.out).mono ?_
       rintro e w' ⟨rfl, ⟨nd, rfl⟩⟩
       refine ⟨_, rfl, ?_⟩
       refine hK.out _ _ ⟨cb 0 BK289, cb 1 BK289, cb 2 BK289, cb 0 BK287, cb 1 BK287, cb 2 BK287, cb 3 BK287, cb 4 BK287⟩ (fun hHeld => ?_)
       clear hK K
       refine norm_ (a' := ?_) ?_ ?_
       rotate_left
       ·show Act.put _ (some 19) _ = _
        simp only [Act.put, List.setIfInBounds_toArray, List.set_cons_zero, List.set_cons_succ, i64_w, i32_w]
        rfl
       refine pV 6 20 (bo 32 127) ?_
       refine pV 7 21 (bo 32 255) ?_
       refine pU 8 22 (bo 32 511) ?_
       refine pU 9 23 (bo 32 1023) ?_
       refine pU 10 24 (bo 32 2047) ?_
       refine pU 11 25 (bo 32 4095) ?_
       refine pU 12 26 (bo 32 8191) ?_
       refine pU 13 27 (bo 32 16383) ?_
       refine pU 14 28 (bo 32 32767) ?_
       refine pU 15 29 (bo 32 65535) ?_
       refine pU 16 30 (bo 32 131071) ?_
       refine pU 17 31 (bo 32 262143) ?_
       refine pU 18 32 (bo 32 524287) ?_
       refine pU 19 33 (bo 32 1048575) ?_
       refine pU 20 34 (bo 32 2097151) ?_
       refine pU 21 35 (bo 32 4194303) ?_
       refine pV 22 36 (bo 32 8388607) ?_
       refine pV 23 37 (bo 32 16777215) ?_
       refine pU 24 38 (bo 32 33554431) ?_
       refine pU 25 39 (bo 32 67108863) ?_
       refine pU 26 40 (bo 32 134217727) ?_
       refine pU 27 41 (bo 32 268435455) ?_
       refine pU 28 42 (bo 32 536870911) ?_
       refine pU 29 43 (bo 32 1073741823) ?_
       refine pU 30 44 (bo 32 2147483647) ?_
       refine pV 31 45 (bo 32 4294967295) ?_
       refine done_ (done_of HT_.out (by kernel_rfl)) ?_
       try go_wp2
       go_ret
       exact ⟨fe, bl⟩
     ·rw [if_neg c6] at H
      exact absurd H (by simp)
    ·rw [if_neg c5] at H
     exact absurd H (by simp)
   ·rw [if_neg c4] at H
    have c4b0 : decide (x9_1 < (l0_2.length : Int)) = false := decide_eq_false c4
    clear c4
    by_cases c50 : (l0_2.length : Int) ≤ 10
    ·rw [if_pos c50] at H
     have c50b0 : decide ((l0_2.length : Int) ≤ 10) = true := decide_eq_true c50
     have c50b1 : decide (l0_2.length ≤ 10) = true := decide_eq_true (by omega)
     clear c50
     obtain rfl := Option.some.inj H
     obtain ⟨Z51_0, Z51_1, Z51_2, Z51_3, Z51_4, Y51_0, Y51_1, Y51_2, Y51_3, Y51_4⟩ := cf5 BK287
     go_wp2
     go_ret
     exact ⟨fe, bl⟩
    ·rw [if_neg c50] at H
     have c50b0 : decide ((l0_2.length : Int) ≤ 10) = false := decide_eq_false c50
     have c50b1 : decide (l0_2.length ≤ 10) = false := decide_eq_false (by omega)
     clear c50
     obtain rfl := Option.some.inj H
     obtain ⟨Z52_0, Z52_1, Z52_2, Z52_3, Z52_4, Y52_0, Y52_1, Y52_2, Y52_3, Y52_4⟩ := cf5 BK287
     go_wp2
     go_ret
     exact ⟨fe, bl⟩
end Go.Proofs.Ytjcmcamijaelbaa.PDisk
