/- Functions of the program, each with its contract, written by a program out of the translation. -/
import Derived.Test.YtjcmcamijaelbaaPDiskx0
import Derived.Test.YtjcmcamijaelbaaPDiskx16
import Derived.Test.YtjcmcamijaelbaaZap
namespace Go.Proofs.Ytjcmcamijaelbaa.PDisk
open Go.RowKit Go.Proofs.YtjcmcamijaelbaaW.PrintWords Go.Proofs.YtjcmcamijaelbaaW.PrintLast Go.Proofs.YtjcmcamijaelbaaW.PrintMore Go.Proofs.Ytjcmcamijaelbaa.Zip
attribute [local go_sem] max2_int min2_int max_two min_two max_three min_three max_four min_four   -- for this text's walks alone
set_option linter.unusedVariables false
set_option linter.unusedSimpArgs false
/-! ### laws_heldInodeS: function 61 -/
def laws_heldInodeS.l0 : Nat → List (S89) → Int → Int → Option (Int)
 | 0, _, _, _ => none
 | k + 1, x0, x1, x5 => if x5 < (x0.length : Int) then (if 0 ≤ x5 then (if ((rd_T89 x0 x5).f0) = x1 then ((laws_markText.f k (wrap64 (x1 + 1))).bind fun t146 => (if ((rd_T89 x0 x5).f1).toList = t146.toList then (if ((rd_T89 x0 x5).f2) = (wrap64 ((wrap64 (x1 + 1)) + 1)) then (laws_heldInodeS.l0 k x0 (wrap64 ((wrap64 ((wrap64 (x1 + 1)) + 1)) + 1)) (wrap64 (x5 + 1))) else (some (-1))) else (some (-1)))) else (some (-1))) else (none)) else (some x1)
def laws_heldInodeS.f (k : Nat) (l0 : List (S89)) (a1 : Int) : Option (Int) := laws_heldInodeS.l0 k l0 a1 0
theorem laws_heldInodeS.mono_l : ∀ k, (∀ y0 y1 y2, LeO (laws_heldInodeS.l0 k y0 y1 y2) (laws_heldInodeS.l0 (k + 1) y0 y1 y2))
 | 0 => fun _ _ _ r h => by simp [laws_heldInodeS.l0] at h
 | k + 1 => by
  have ih0 := laws_heldInodeS.mono_l k
  ·intro y0 y1 y2
   unfold laws_heldInodeS.l0
   repeat' first
   | (with_reducible exact ih0 _ _ _)
   | (with_reducible exact laws_markText.mono _ _)
   | (with_reducible exact LeO.refl _)
   | (with_reducible exact LeO.none _)
   | (with_reducible refine LeO.ite ?_ ?_)
   | (with_reducible refine LeO.bind ?_ (fun _ => ?_))
theorem laws_heldInodeS.mono : ∀ a0 a1 k, LeO (laws_heldInodeS.f k a0 a1) (laws_heldInodeS.f (k + 1) a0 a1) := by
 intro a0 a1 k; have ih0 := laws_heldInodeS.mono_l k; unfold laws_heldInodeS.f
 repeat' first
  | (with_reducible exact ih0 _ _ _)
  | (with_reducible exact laws_markText.mono _ _)
  | (with_reducible exact LeO.refl _)
  | (with_reducible exact LeO.none _)
  | (with_reducible refine LeO.ite ?_ ?_)
  | (with_reducible refine LeO.bind ?_ (fun _ => ?_))
def laws_heldInodeS.T7 : Bool × List (List Nat × List Nat) := (true, [([], []), ([], []), ([0, 1], [0, 1]), ([2], [2]), ([3], [3]), ([], []), ([5], [5]), ([4, 6], [4, 6])])
def laws_heldInodeS.B7 : List Nat := [0, 0, 3, 7, 15, 0, 32, 127]
theorem laws_heldInodeS.tab7 : rtab .any (opsOf Try.f61 7) = laws_heldInodeS.T7 := by kernel_rfl
theorem laws_heldInodeS.bits7 : waitsOk laws_heldInodeS.T7.2 laws_heldInodeS.B7 = true := by kernel_rfl
set_option maxHeartbeats 8000000 in
set_option maxRecDepth 100000 in
theorem laws_heldInodeS.calls (k : Nat) (A0 : Option Addr) (c0 : Nat) (l0 : List (S89)) (a1 : Int) (r : Int) (w : World) (hr0 : Kd.C k89 w A0 l0.length l0) (hc0 : l0.length ≤ c0) (h : laws_heldInodeS.f k l0 a1 = some r) :
 Calls Try.prog 61 #[.slice A0 l0.length c0, .int .i64 a1] w fun e w' => e = .returned (.int .i64 r) ∧ Below w.heap.size w w' := by
 have HR0 := aK hr0; have HC0 := aK hc0; clear hr0 hc0; have HB := aK (Below.refl w.heap.size w); have H : (laws_heldInodeS.l0 k l0 a1 0) = some r := h; clear h; have H' := aK H; clear H
 go_enter Try.func61, Try.ntmps61
 go_wp2
 go_loopg [1, 5] k (fun kq v1 v5 w' => ∃ (x1_1 : Int) (x5_1 : Int), v1 = .int .i64 x1_1 ∧ v5 = .int .i64 x5_1 ∧ Aside0 (laws_heldInodeS.l0 kq l0 x1_1 x5_1 = some r) ∧ Aside0 (kq ≤ k) ∧ Aside0 (Below w.heap.size w w'))
 case atStart => exact ⟨(a1), (0), fa, fa, H', ⟨Nat.le_refl _⟩, ⟨bl⟩⟩
 case round =>
  clear H'; (try clear p2); obtain ⟨x1_1, x5_1, rfl, rfl, HA, HK1, HB⟩ := hrel; cases gk with
  | zero => exact absurd HA.o (by simp [laws_heldInodeS.l0])
  | succ k1 =>
   have H := HA.o; clear HA; simp only [laws_heldInodeS.l0] at H; by_cases c3 : x5_1 < (l0.length : Int)
   ·rw [if_pos c3] at H; have c3b0 : decide (x5_1 < (l0.length : Int)) = true := dt c3; clear c3; by_cases c4 : 0 ≤ x5_1
    ·rw [if_pos c4] at H; have c4b0 : decide (0 ≤ x5_1) = true := dt c4; clear c4; have Hq_ := aK H; clear H; have p144 : 0 ≤ (x5_1 : Int) := dT am; have q144 : x5_1 < (l0.length : Int) := dT am; obtain ⟨ad144, e144, hx144_0, hx144_1, hx144_2⟩ := at_T89 HR0.o x5_1 p144 q144; cases e144; replace hx144_0 := cz HB hx144_0; replace hx144_1 := cz HB hx144_1; replace hx144_2 := cz HB hx144_2; replace p144 := eq_true p144; replace q144 := eq_true q144; have H := Hq_.o; clear Hq_; by_cases c5 : ((rd_T89 l0 x5_1).f0) = x1_1
     ·rw [if_pos c5] at H; have c5b0 : (((rd_T89 l0 x5_1).f0) == x1_1) = true := beq_iff_eq.mpr c5; (try rw [c5b0]); have c5b1 : (((rd_T89 l0 x5_1).f0) != x1_1) = false := bE c5; (try rw [c5b1]); clear c5; obtain ⟨t146, A6, H⟩ := bd H; have Hq_ := aK H; clear H; (try go_wp2); replace HB := aK (below_drew1 HB.o); have p145 : 0 ≤ (x5_1 : Int) := dT am; have q145 : x5_1 < (l0.length : Int) := dT am; obtain ⟨ad145, e145, hx145_0, hx145_1, hx145_2⟩ := at_T89 HR0.o x5_1 p145 q145; have hw145_2 := hx145_2; have hw145_1 := hx145_1; have hw145_0 := hx145_0; obtain rfl : ad144 = ad145 := (by injection e145); replace hx145_0 := cz HB hx145_0; replace hx145_1 := cz HB hx145_1; replace hx145_2 := cz HB hx145_2; replace p145 := eq_true p145; replace q145 := eq_true q145; refine start_ (n := 8) (S := fun w' => w'.cell? (ad144.add ((x5_1).toNat * 3)) = some (.int .i64 ((rd_T89 l0 x5_1).f0)) ∧ w'.cell? ⟨(ad144.add ((x5_1).toNat * 3)).block, (ad144.add ((x5_1).toNat * 3)).off + 1, none⟩ = some (.string ((rd_T89 l0 x5_1).f1)) ∧ w'.cell? ⟨(ad144.add ((x5_1).toNat * 3)).block, (ad144.add ((x5_1).toNat * 3)).off + 2, none⟩ = some (.int .i64 ((rd_T89 l0 x5_1).f2))) (ds := []) (bo 8 0) (by kernel_rfl) rfl rfl ⟨(cy HB hw145_0), (cy HB hw145_1), (cy HB hw145_2)⟩ (fun hHeld => ?_); refine with_tabW laws_heldInodeS.tab7 laws_heldInodeS.bits7 (fun HT_ HW_ => ?_); generalize wr.drew = wq1 at HB hx145_0 hx145_1 hx145_2 hHeld ⊢; refine pV 0 21 (bo 8 1) ?_; refine pV 1 22 (bo 8 3) ?_; refine pV 2 23 (bo 8 7) ?_
      refine pV 3 24 (bo 8 15) ?_; refine pV 5 26 (bo 8 47) ?_; refine tV 4 25 (bo 8 63) ?_; refine o1 6 27 (bo 8 127) (fun K hK => ?_); refine goes_ Try.func94 (by kernel_rfl) rfl #[.int .i64 (wrap64 (x1_1 + 1))] (by rfl) rfl rfl sa ?_; (with_reducible refine (laws_markText.calls k1 (wrap64 (x1_1 + 1)) t146 _ A6.o).mono ?_); rintro e wq2 ⟨rfl, hb⟩; refine ⟨_, rfl, ?_⟩; replace HB := bS HB hb; (try clear hb hb2 hk hi); refine hK.out _ _ ⟨(cy HB hw145_0), (cy HB hw145_1), (cy HB hw145_2)⟩ (fun hHeld => ?_); clear hK K; refine nm 27 ?_; refine pV 7 28 (bo 8 255) ?_; have H := Hq_.o; clear Hq_; by_cases c7 : ((rd_T89 l0 x5_1).f1).toList = t146.toList
      ·rw [if_pos c7] at H; have c7b0 : (((rd_T89 l0 x5_1).f1).toList == t146.toList) = true := beq_iff_eq.mpr c7; (try rw [c7b0]); have c7b1 : (((rd_T89 l0 x5_1).f1).toList != t146.toList) = false := bE c7; (try rw [c7b1]); clear c7; have Hq_ := aK H; clear H; refine done_ (done_of HT_.o (by kernel_rfl)) ?_; have p147 : 0 ≤ (x5_1 : Int) := dT am; have q147 : x5_1 < (l0.length : Int) := dT am; obtain ⟨ad147, e147, hx147_0, hx147_1, hx147_2⟩ := at_T89 HR0.o x5_1 p147 q147; obtain rfl : ad144 = ad147 := (by injection e147); replace hx147_0 := cz HB hx147_0; replace hx147_1 := cz HB hx147_1; replace hx147_2 := cz HB hx147_2; replace p147 := eq_true p147; replace q147 := eq_true q147; have H := Hq_.o; clear Hq_; by_cases c8 : ((rd_T89 l0 x5_1).f2) = (wrap64 ((wrap64 (x1_1 + 1)) + 1))
       ·rw [if_pos c8] at H; have c8b0 : (((rd_T89 l0 x5_1).f2) == (wrap64 ((wrap64 (x1_1 + 1)) + 1))) = true := beq_iff_eq.mpr c8; (try rw [c8b0]); have c8b1 : (((rd_T89 l0 x5_1).f2) != (wrap64 ((wrap64 (x1_1 + 1)) + 1))) = false := bE c8; (try rw [c8b1]); clear c8; have H' := aK H; clear H; (try go_wp2)
        go_roundg k1
        case measure => have := HK1.o; omega
        case rel => exact ⟨(wrap64 ((wrap64 ((wrap64 (x1_1 + 1)) + 1)) + 1)), (wrap64 (x5_1 + 1)), fa, fa, H', ⟨by have := HK1.o; omega⟩, ⟨bl⟩⟩
       ·rw [if_neg c8] at H; have c8b0 : (((rd_T89 l0 x5_1).f2) == (wrap64 ((wrap64 (x1_1 + 1)) + 1))) = false := bN c8; (try rw [c8b0]); have c8b1 : (((rd_T89 l0 x5_1).f2) != (wrap64 ((wrap64 (x1_1 + 1)) + 1))) = true := bne_iff_ne.mpr c8; (try rw [c8b1]); obtain rfl := oj H; (try go_wp2)
        go_ret
        exact ⟨fe, bl⟩
      ·rw [if_neg c7] at H; have c7b0 : (((rd_T89 l0 x5_1).f1).toList == t146.toList) = false := bN c7; (try rw [c7b0]); have c7b1 : (((rd_T89 l0 x5_1).f1).toList != t146.toList) = true := bne_iff_ne.mpr c7; (try rw [c7b1]); obtain rfl := oj H; refine done_ (done_of HT_.o (by kernel_rfl)) ?_; (try go_wp2)
       go_ret
       exact ⟨fe, bl⟩
     ·rw [if_neg c5] at H; have c5b0 : (((rd_T89 l0 x5_1).f0) == x1_1) = false := bN c5; (try rw [c5b0]); have c5b1 : (((rd_T89 l0 x5_1).f0) != x1_1) = true := bne_iff_ne.mpr c5; (try rw [c5b1]); obtain rfl := oj H; go_wp2
      go_ret
      exact ⟨fe, bl⟩
    ·rw [if_neg c4] at H; exact absurd H (by simp)
   ·rw [if_neg c3] at H; have c3b0 : decide (x5_1 < (l0.length : Int)) = false := df c3; clear c3; obtain rfl := oj H; go_wp2
    go_ret
    exact ⟨fe, bl⟩
/-! ### laws_heldLinkS: function 62 -/
def laws_heldLinkS.l0 : Nat → List (S93) → Int → Int → Option (Int)
 | 0, _, _, _ => none
 | k + 1, x0, x1, x5 => if x5 < (x0.length : Int) then (if 0 ≤ x5 then ((laws_markText.f k x1).bind fun t149 => (if ((rd_T93 x0 x5).f0).toList = t149.toList then (if ((rd_T93 x0 x5).f1) = (wrap64 (x1 + 1)) then (laws_heldLinkS.l0 k x0 (wrap64 ((wrap64 (x1 + 1)) + 1)) (wrap64 (x5 + 1))) else (some (-1))) else (some (-1)))) else (none)) else (some x1)
def laws_heldLinkS.f (k : Nat) (l0 : List (S93)) (a1 : Int) : Option (Int) := laws_heldLinkS.l0 k l0 a1 0
theorem laws_heldLinkS.mono_l : ∀ k, (∀ y0 y1 y2, LeO (laws_heldLinkS.l0 k y0 y1 y2) (laws_heldLinkS.l0 (k + 1) y0 y1 y2))
 | 0 => fun _ _ _ r h => by simp [laws_heldLinkS.l0] at h
 | k + 1 => by
  have ih0 := laws_heldLinkS.mono_l k
  ·intro y0 y1 y2
   unfold laws_heldLinkS.l0
   repeat' first
   | (with_reducible exact ih0 _ _ _)
   | (with_reducible exact laws_markText.mono _ _)
   | (with_reducible exact LeO.refl _)
   | (with_reducible exact LeO.none _)
   | (with_reducible refine LeO.ite ?_ ?_)
   | (with_reducible refine LeO.bind ?_ (fun _ => ?_))
theorem laws_heldLinkS.mono : ∀ a0 a1 k, LeO (laws_heldLinkS.f k a0 a1) (laws_heldLinkS.f (k + 1) a0 a1) := by
 intro a0 a1 k; have ih0 := laws_heldLinkS.mono_l k; unfold laws_heldLinkS.f
 repeat' first
  | (with_reducible exact ih0 _ _ _)
  | (with_reducible exact laws_markText.mono _ _)
  | (with_reducible exact LeO.refl _)
  | (with_reducible exact LeO.none _)
  | (with_reducible refine LeO.ite ?_ ?_)
  | (with_reducible refine LeO.bind ?_ (fun _ => ?_))
def laws_heldLinkS.T4 : Bool × List (List Nat × List Nat) := (true, [([], []), ([], []), ([0, 1], [0, 1]), ([2], [2]), ([3], [3]), ([], []), ([5], [5]), ([4, 6], [4, 6])])
def laws_heldLinkS.B4 : List Nat := [0, 0, 3, 7, 15, 0, 32, 127]
theorem laws_heldLinkS.tab4 : rtab .any (opsOf Try.f62 4) = laws_heldLinkS.T4 := by kernel_rfl
theorem laws_heldLinkS.bits4 : waitsOk laws_heldLinkS.T4.2 laws_heldLinkS.B4 = true := by kernel_rfl
set_option maxHeartbeats 8000000 in
set_option maxRecDepth 100000 in
theorem laws_heldLinkS.calls (k : Nat) (A0 : Option Addr) (c0 : Nat) (l0 : List (S93)) (a1 : Int) (r : Int) (w : World) (hr0 : Kd.C k93 w A0 l0.length l0) (hc0 : l0.length ≤ c0) (h : laws_heldLinkS.f k l0 a1 = some r) :
 Calls Try.prog 62 #[.slice A0 l0.length c0, .int .i64 a1] w fun e w' => e = .returned (.int .i64 r) ∧ Below w.heap.size w w' := by
 have HR0 := aK hr0; have HC0 := aK hc0; clear hr0 hc0; have HB := aK (Below.refl w.heap.size w); have H : (laws_heldLinkS.l0 k l0 a1 0) = some r := h; clear h; have H' := aK H; clear H
 go_enter Try.func62, Try.ntmps62
 go_wp2
 go_loopg [1, 5] k (fun kq v1 v5 w' => ∃ (x1_1 : Int) (x5_1 : Int), v1 = .int .i64 x1_1 ∧ v5 = .int .i64 x5_1 ∧ Aside0 (laws_heldLinkS.l0 kq l0 x1_1 x5_1 = some r) ∧ Aside0 (kq ≤ k) ∧ Aside0 (Below w.heap.size w w'))
 case atStart => exact ⟨(a1), (0), fa, fa, H', ⟨Nat.le_refl _⟩, ⟨bl⟩⟩
 case round =>
  clear H'; (try clear p2); obtain ⟨x1_1, x5_1, rfl, rfl, HA, HK1, HB⟩ := hrel; cases gk with
  | zero => exact absurd HA.o (by simp [laws_heldLinkS.l0])
  | succ k1 =>
   have H := HA.o; clear HA; simp only [laws_heldLinkS.l0] at H; by_cases c3 : x5_1 < (l0.length : Int)
   ·rw [if_pos c3] at H; have c3b0 : decide (x5_1 < (l0.length : Int)) = true := dt c3; clear c3; by_cases c4 : 0 ≤ x5_1
    ·rw [if_pos c4] at H; have c4b0 : decide (0 ≤ x5_1) = true := dt c4; clear c4; obtain ⟨t149, A5, H⟩ := bd H; have Hq_ := aK H; clear H; (try go_wp2); replace HB := aK (below_drew1 HB.o); have p148 : 0 ≤ (x5_1 : Int) := dT am; have q148 : x5_1 < (l0.length : Int) := dT am; obtain ⟨ad148, e148, hx148_0, hx148_1⟩ := at_T93 HR0.o x5_1 p148 q148; have hw148_1 := hx148_1; have hw148_0 := hx148_0; cases e148; replace hx148_0 := cz HB hx148_0; replace hx148_1 := cz HB hx148_1; replace p148 := eq_true p148; replace q148 := eq_true q148; refine start_ (n := 8) (S := fun w' => w'.cell? (ad148.add ((x5_1).toNat * 2)) = some (.string ((rd_T93 l0 x5_1).f0)) ∧ w'.cell? ⟨(ad148.add ((x5_1).toNat * 2)).block, (ad148.add ((x5_1).toNat * 2)).off + 1, none⟩ = some (.int .i64 ((rd_T93 l0 x5_1).f1))) (ds := []) (bo 8 0) (by kernel_rfl) rfl rfl ⟨(cy HB hw148_0), (cy HB hw148_1)⟩ (fun hHeld => ?_); refine with_tabW laws_heldLinkS.tab4 laws_heldLinkS.bits4 (fun HT_ HW_ => ?_); generalize wr.drew = wq1 at HB hx148_0 hx148_1 hHeld ⊢; refine pV 0 12 (bo 8 1) ?_; refine pV 1 13 (bo 8 3) ?_; refine pV 2 14 (bo 8 7) ?_; refine pV 3 15 (bo 8 15) ?_; refine pV 5 17 (bo 8 47) ?_; refine tV 4 16 (bo 8 63) ?_; refine o1 6 18 (bo 8 127) (fun K hK => ?_); refine goes_ Try.func94 (by kernel_rfl) rfl #[.int .i64 x1_1] (by rfl) rfl rfl sa ?_; (with_reducible refine (laws_markText.calls k1 x1_1 t149 _ A5.o).mono ?_); rintro e wq2 ⟨rfl, hb⟩; refine ⟨_, rfl, ?_⟩; replace HB := bS HB hb; (try clear hb hb2 hk hi)
     refine hK.out _ _ ⟨(cy HB hw148_0), (cy HB hw148_1)⟩ (fun hHeld => ?_); clear hK K; refine nm 18 ?_; refine pV 7 19 (bo 8 255) ?_; have H := Hq_.o; clear Hq_; by_cases c6 : ((rd_T93 l0 x5_1).f0).toList = t149.toList
     ·rw [if_pos c6] at H; have c6b0 : (((rd_T93 l0 x5_1).f0).toList == t149.toList) = true := beq_iff_eq.mpr c6; (try rw [c6b0]); have c6b1 : (((rd_T93 l0 x5_1).f0).toList != t149.toList) = false := bE c6; (try rw [c6b1]); clear c6; have Hq_ := aK H; clear H; refine done_ (done_of HT_.o (by kernel_rfl)) ?_; have p150 : 0 ≤ (x5_1 : Int) := dT am; have q150 : x5_1 < (l0.length : Int) := dT am; obtain ⟨ad150, e150, hx150_0, hx150_1⟩ := at_T93 HR0.o x5_1 p150 q150; obtain rfl : ad148 = ad150 := (by injection e150); replace hx150_0 := cz HB hx150_0; replace hx150_1 := cz HB hx150_1; replace p150 := eq_true p150; replace q150 := eq_true q150; have H := Hq_.o; clear Hq_; by_cases c7 : ((rd_T93 l0 x5_1).f1) = (wrap64 (x1_1 + 1))
      ·rw [if_pos c7] at H; have c7b0 : (((rd_T93 l0 x5_1).f1) == (wrap64 (x1_1 + 1))) = true := beq_iff_eq.mpr c7; (try rw [c7b0]); have c7b1 : (((rd_T93 l0 x5_1).f1) != (wrap64 (x1_1 + 1))) = false := bE c7; (try rw [c7b1]); clear c7; have H' := aK H; clear H; (try go_wp2)
       go_roundg k1
       case measure => have := HK1.o; omega
       case rel => exact ⟨(wrap64 ((wrap64 (x1_1 + 1)) + 1)), (wrap64 (x5_1 + 1)), fa, fa, H', ⟨by have := HK1.o; omega⟩, ⟨bl⟩⟩
      ·rw [if_neg c7] at H; have c7b0 : (((rd_T93 l0 x5_1).f1) == (wrap64 (x1_1 + 1))) = false := bN c7; (try rw [c7b0]); have c7b1 : (((rd_T93 l0 x5_1).f1) != (wrap64 (x1_1 + 1))) = true := bne_iff_ne.mpr c7; (try rw [c7b1]); obtain rfl := oj H; (try go_wp2)
       go_ret
       exact ⟨fe, bl⟩
     ·rw [if_neg c6] at H; have c6b0 : (((rd_T93 l0 x5_1).f0).toList == t149.toList) = false := bN c6; (try rw [c6b0]); have c6b1 : (((rd_T93 l0 x5_1).f0).toList != t149.toList) = true := bne_iff_ne.mpr c6; (try rw [c6b1]); obtain rfl := oj H; refine done_ (done_of HT_.o (by kernel_rfl)) ?_; (try go_wp2)
      go_ret
      exact ⟨fe, bl⟩
    ·rw [if_neg c4] at H; exact absurd H (by simp)
   ·rw [if_neg c3] at H; have c3b0 : decide (x5_1 < (l0.length : Int)) = false := df c3; clear c3; obtain rfl := oj H; go_wp2
    go_ret
    exact ⟨fe, bl⟩
/-! ### laws_heldMoveS: function 63 -/
def laws_heldMoveS.l0 : Nat → List (S95) → Int → Int → Option (Int)
 | 0, _, _, _ => none
 | k + 1, x0, x1, x5 => if x5 < (x0.length : Int) then (if 0 ≤ x5 then (if ((rd_T95 x0 x5).f0) = x1 then ((laws_markText.f k (wrap64 (x1 + 1))).bind fun t153 => (if ((rd_T95 x0 x5).f1).toList = t153.toList then ((laws_markText.f k (wrap64 ((wrap64 (x1 + 1)) + 1))).bind fun t155 => (if ((rd_T95 x0 x5).f2).toList = t155.toList then (if ((rd_T95 x0 x5).f3) = (wrap64 ((wrap64 ((wrap64 (x1 + 1)) + 1)) + 1)) then (laws_heldMoveS.l0 k x0 (wrap64 ((wrap64 ((wrap64 ((wrap64 (x1 + 1)) + 1)) + 1)) + 1)) (wrap64 (x5 + 1))) else (some (-1))) else (some (-1)))) else (some (-1)))) else (some (-1))) else (none)) else (some x1)
def laws_heldMoveS.f (k : Nat) (l0 : List (S95)) (a1 : Int) : Option (Int) := laws_heldMoveS.l0 k l0 a1 0
theorem laws_heldMoveS.mono_l : ∀ k, (∀ y0 y1 y2, LeO (laws_heldMoveS.l0 k y0 y1 y2) (laws_heldMoveS.l0 (k + 1) y0 y1 y2))
 | 0 => fun _ _ _ r h => by simp [laws_heldMoveS.l0] at h
 | k + 1 => by
  have ih0 := laws_heldMoveS.mono_l k
  ·intro y0 y1 y2
   unfold laws_heldMoveS.l0
   repeat' first
   | (with_reducible exact ih0 _ _ _)
   | (with_reducible exact laws_markText.mono _ _)
   | (with_reducible exact LeO.refl _)
   | (with_reducible exact LeO.none _)
   | (with_reducible refine LeO.ite ?_ ?_)
   | (with_reducible refine LeO.bind ?_ (fun _ => ?_))
theorem laws_heldMoveS.mono : ∀ a0 a1 k, LeO (laws_heldMoveS.f k a0 a1) (laws_heldMoveS.f (k + 1) a0 a1) := by
 intro a0 a1 k; have ih0 := laws_heldMoveS.mono_l k; unfold laws_heldMoveS.f
 repeat' first
  | (with_reducible exact ih0 _ _ _)
  | (with_reducible exact laws_markText.mono _ _)
  | (with_reducible exact LeO.refl _)
  | (with_reducible exact LeO.none _)
  | (with_reducible refine LeO.ite ?_ ?_)
  | (with_reducible refine LeO.bind ?_ (fun _ => ?_))
def laws_heldMoveS.T7 : Bool × List (List Nat × List Nat) := (true, [([], []), ([], []), ([0, 1], [0, 1]), ([2], [2]), ([3], [3]), ([], []), ([5], [5]), ([4, 6], [4, 6])])
def laws_heldMoveS.B7 : List Nat := [0, 0, 3, 7, 15, 0, 32, 127]
theorem laws_heldMoveS.tab7 : rtab .any (opsOf Try.f63 7) = laws_heldMoveS.T7 := by kernel_rfl
theorem laws_heldMoveS.bits7 : waitsOk laws_heldMoveS.T7.2 laws_heldMoveS.B7 = true := by kernel_rfl
def laws_heldMoveS.T10 : Bool × List (List Nat × List Nat) := (true, [([], []), ([], []), ([0, 1], [0, 1]), ([2], [2]), ([3], [3]), ([], []), ([5], [5]), ([4, 6], [4, 6])])
def laws_heldMoveS.B10 : List Nat := [0, 0, 3, 7, 15, 0, 32, 127]
theorem laws_heldMoveS.tab10 : rtab .any (opsOf Try.f63 10) = laws_heldMoveS.T10 := by kernel_rfl
theorem laws_heldMoveS.bits10 : waitsOk laws_heldMoveS.T10.2 laws_heldMoveS.B10 = true := by kernel_rfl
set_option maxHeartbeats 8000000 in
set_option maxRecDepth 100000 in
theorem laws_heldMoveS.calls (k : Nat) (A0 : Option Addr) (c0 : Nat) (l0 : List (S95)) (a1 : Int) (r : Int) (w : World) (hr0 : Kd.C k95 w A0 l0.length l0) (hc0 : l0.length ≤ c0) (h : laws_heldMoveS.f k l0 a1 = some r) :
 Calls Try.prog 63 #[.slice A0 l0.length c0, .int .i64 a1] w fun e w' => e = .returned (.int .i64 r) ∧ Below w.heap.size w w' := by
 have HR0 := aK hr0; have HC0 := aK hc0; clear hr0 hc0; have HB := aK (Below.refl w.heap.size w); have H : (laws_heldMoveS.l0 k l0 a1 0) = some r := h; clear h; have H' := aK H; clear H
 go_enter Try.func63, Try.ntmps63
 go_wp2
 go_loopg [1, 5] k (fun kq v1 v5 w' => ∃ (x1_1 : Int) (x5_1 : Int), v1 = .int .i64 x1_1 ∧ v5 = .int .i64 x5_1 ∧ Aside0 (laws_heldMoveS.l0 kq l0 x1_1 x5_1 = some r) ∧ Aside0 (kq ≤ k) ∧ Aside0 (Below w.heap.size w w'))
 case atStart => exact ⟨(a1), (0), fa, fa, H', ⟨Nat.le_refl _⟩, ⟨bl⟩⟩
 case round =>
  clear H'; (try clear p2); obtain ⟨x1_1, x5_1, rfl, rfl, HA, HK1, HB⟩ := hrel; cases gk with
  | zero => exact absurd HA.o (by simp [laws_heldMoveS.l0])
  | succ k1 =>
   have H := HA.o; clear HA; simp only [laws_heldMoveS.l0] at H; by_cases c3 : x5_1 < (l0.length : Int)
   ·rw [if_pos c3] at H; have c3b0 : decide (x5_1 < (l0.length : Int)) = true := dt c3; clear c3; by_cases c4 : 0 ≤ x5_1
    ·rw [if_pos c4] at H; have c4b0 : decide (0 ≤ x5_1) = true := dt c4; clear c4; have Hq_ := aK H; clear H; have p151 : 0 ≤ (x5_1 : Int) := dT am; have q151 : x5_1 < (l0.length : Int) := dT am; obtain ⟨ad151, e151, hx151_0, hx151_1, hx151_2, hx151_3⟩ := at_T95 HR0.o x5_1 p151 q151; cases e151; replace hx151_0 := cz HB hx151_0; replace hx151_1 := cz HB hx151_1; replace hx151_2 := cz HB hx151_2; replace hx151_3 := cz HB hx151_3; replace p151 := eq_true p151; replace q151 := eq_true q151; have H := Hq_.o; clear Hq_; by_cases c5 : ((rd_T95 l0 x5_1).f0) = x1_1
     ·rw [if_pos c5] at H; have c5b0 : (((rd_T95 l0 x5_1).f0) == x1_1) = true := beq_iff_eq.mpr c5; (try rw [c5b0]); have c5b1 : (((rd_T95 l0 x5_1).f0) != x1_1) = false := bE c5; (try rw [c5b1]); clear c5; obtain ⟨t153, A6, H⟩ := bd H; have Hq_ := aK H; clear H; (try go_wp2); replace HB := aK (below_drew1 HB.o); have p152 : 0 ≤ (x5_1 : Int) := dT am; have q152 : x5_1 < (l0.length : Int) := dT am; obtain ⟨ad152, e152, hx152_0, hx152_1, hx152_2, hx152_3⟩ := at_T95 HR0.o x5_1 p152 q152; have hw152_3 := hx152_3; have hw152_2 := hx152_2; have hw152_1 := hx152_1; have hw152_0 := hx152_0; obtain rfl : ad151 = ad152 := (by injection e152); replace hx152_0 := cz HB hx152_0; replace hx152_1 := cz HB hx152_1; replace hx152_2 := cz HB hx152_2; replace hx152_3 := cz HB hx152_3; replace p152 := eq_true p152; replace q152 := eq_true q152; refine start_ (n := 8) (S := fun w' => w'.cell? (ad151.add ((x5_1).toNat * 4)) = some (.int .i64 ((rd_T95 l0 x5_1).f0)) ∧ w'.cell? ⟨(ad151.add ((x5_1).toNat * 4)).block, (ad151.add ((x5_1).toNat * 4)).off + 1, none⟩ = some (.string ((rd_T95 l0 x5_1).f1)) ∧ w'.cell? ⟨(ad151.add ((x5_1).toNat * 4)).block, (ad151.add ((x5_1).toNat * 4)).off + 2, none⟩ = some (.string ((rd_T95 l0 x5_1).f2)) ∧ w'.cell? ⟨(ad151.add ((x5_1).toNat * 4)).block, (ad151.add ((x5_1).toNat * 4)).off + 3, none⟩ = some (.int .i64 ((rd_T95 l0 x5_1).f3))) (ds := []) (bo 8 0) (by kernel_rfl) rfl rfl ⟨(cy HB hw152_0), (cy HB hw152_1), (cy HB hw152_2), (cy HB hw152_3)⟩ (fun hHeld => ?_)
      refine with_tabW laws_heldMoveS.tab7 laws_heldMoveS.bits7 (fun HT_ HW_ => ?_); generalize wr.drew = wq1 at HB hx152_0 hx152_1 hx152_2 hx152_3 hHeld ⊢; refine pV 0 21 (bo 8 1) ?_; refine pV 1 22 (bo 8 3) ?_; refine pV 2 23 (bo 8 7) ?_; refine pV 3 24 (bo 8 15) ?_; refine pV 5 26 (bo 8 47) ?_; refine tV 4 25 (bo 8 63) ?_; refine o1 6 27 (bo 8 127) (fun K hK => ?_); refine goes_ Try.func94 (by kernel_rfl) rfl #[.int .i64 (wrap64 (x1_1 + 1))] (by rfl) rfl rfl sa ?_; (with_reducible refine (laws_markText.calls k1 (wrap64 (x1_1 + 1)) t153 _ A6.o).mono ?_); rintro e wq2 ⟨rfl, hb⟩; refine ⟨_, rfl, ?_⟩; replace HB := bS HB hb; (try clear hb hb2 hk hi); refine hK.out _ _ ⟨(cy HB hw152_0), (cy HB hw152_1), (cy HB hw152_2), (cy HB hw152_3)⟩ (fun hHeld => ?_); clear hK K; refine nm 27 ?_; refine pV 7 28 (bo 8 255) ?_; have H := Hq_.o; clear Hq_; by_cases c7 : ((rd_T95 l0 x5_1).f1).toList = t153.toList
      ·rw [if_pos c7] at H; have c7b0 : (((rd_T95 l0 x5_1).f1).toList == t153.toList) = true := beq_iff_eq.mpr c7; (try rw [c7b0]); have c7b1 : (((rd_T95 l0 x5_1).f1).toList != t153.toList) = false := bE c7; (try rw [c7b1]); clear c7; obtain ⟨t155, A8, H⟩ := bd H; by_cases c9 : ((rd_T95 l0 x5_1).f2).toList = t155.toList
       ·rw [if_pos c9] at H; have c9b0 : (((rd_T95 l0 x5_1).f2).toList == t155.toList) = true := beq_iff_eq.mpr c9; (try rw [c9b0]); have c9b1 : (((rd_T95 l0 x5_1).f2).toList != t155.toList) = false := bE c9; (try rw [c9b1]); clear c9; by_cases c10 : ((rd_T95 l0 x5_1).f3) = (wrap64 ((wrap64 ((wrap64 (x1_1 + 1)) + 1)) + 1))
        ·rw [if_pos c10] at H; have c10b0 : (((rd_T95 l0 x5_1).f3) == (wrap64 ((wrap64 ((wrap64 (x1_1 + 1)) + 1)) + 1))) = true := beq_iff_eq.mpr c10; (try rw [c10b0]); have c10b1 : (((rd_T95 l0 x5_1).f3) != (wrap64 ((wrap64 ((wrap64 (x1_1 + 1)) + 1)) + 1))) = false := bE c10; (try rw [c10b1]); clear c10; have H' := aK H; clear H; refine done_ (done_of HT_.o (by kernel_rfl)) ?_; (try go_wp2); replace HB := aK (below_drew1 HB.o); have p154 : 0 ≤ (x5_1 : Int) := dT am; have q154 : x5_1 < (l0.length : Int) := dT am; obtain ⟨ad154, e154, hx154_0, hx154_1, hx154_2, hx154_3⟩ := at_T95 HR0.o x5_1 p154 q154; have hw154_3 := hx154_3; have hw154_2 := hx154_2; have hw154_1 := hx154_1; have hw154_0 := hx154_0; obtain rfl : ad151 = ad154 := (by injection e154); replace hx154_0 := cz HB hx154_0; replace hx154_1 := cz HB hx154_1; replace hx154_2 := cz HB hx154_2; replace hx154_3 := cz HB hx154_3; replace p154 := eq_true p154; replace q154 := eq_true q154
         refine start_ (n := 8) (S := fun w' => w'.cell? (ad151.add ((x5_1).toNat * 4)) = some (.int .i64 ((rd_T95 l0 x5_1).f0)) ∧ w'.cell? ⟨(ad151.add ((x5_1).toNat * 4)).block, (ad151.add ((x5_1).toNat * 4)).off + 1, none⟩ = some (.string ((rd_T95 l0 x5_1).f1)) ∧ w'.cell? ⟨(ad151.add ((x5_1).toNat * 4)).block, (ad151.add ((x5_1).toNat * 4)).off + 2, none⟩ = some (.string ((rd_T95 l0 x5_1).f2)) ∧ w'.cell? ⟨(ad151.add ((x5_1).toNat * 4)).block, (ad151.add ((x5_1).toNat * 4)).off + 3, none⟩ = some (.int .i64 ((rd_T95 l0 x5_1).f3))) (ds := []) (bo 8 0) (by kernel_rfl) rfl rfl ⟨(cy HB hw154_0), (cy HB hw154_1), (cy HB hw154_2), (cy HB hw154_3)⟩ (fun hHeld => ?_); refine with_tabW laws_heldMoveS.tab10 laws_heldMoveS.bits10 (fun HT_ HW_ => ?_); generalize wq2.drew = wq3 at HB hx154_0 hx154_1 hx154_2 hx154_3 hHeld ⊢; refine pV 0 31 (bo 8 1) ?_; refine pV 1 32 (bo 8 3) ?_; refine pV 2 33 (bo 8 7) ?_; refine pV 3 34 (bo 8 15) ?_; refine pV 5 36 (bo 8 47) ?_; refine tV 4 35 (bo 8 63) ?_; refine o1 6 37 (bo 8 127) (fun K hK => ?_); refine goes_ Try.func94 (by kernel_rfl) rfl #[.int .i64 (wrap64 ((wrap64 (x1_1 + 1)) + 1))] (by rfl) rfl rfl sa ?_; (with_reducible refine (laws_markText.calls k1 (wrap64 ((wrap64 (x1_1 + 1)) + 1)) t155 _ A8.o).mono ?_); rintro e wq4 ⟨rfl, hb⟩; refine ⟨_, rfl, ?_⟩; replace HB := bS HB hb; (try clear hb hb2 hk hi); refine hK.out _ _ ⟨(cy HB hw154_0), (cy HB hw154_1), (cy HB hw154_2), (cy HB hw154_3)⟩ (fun hHeld => ?_); clear hK K; refine nm 37 ?_
         refine pV 7 38 (bo 8 255) ?_; refine done_ (done_of HT_.o (by kernel_rfl)) ?_; have p156 : 0 ≤ (x5_1 : Int) := dT am; have q156 : x5_1 < (l0.length : Int) := dT am; obtain ⟨ad156, e156, hx156_0, hx156_1, hx156_2, hx156_3⟩ := at_T95 HR0.o x5_1 p156 q156; obtain rfl : ad151 = ad156 := (by injection e156); replace hx156_0 := cz HB hx156_0; replace hx156_1 := cz HB hx156_1; replace hx156_2 := cz HB hx156_2; replace hx156_3 := cz HB hx156_3; replace p156 := eq_true p156; replace q156 := eq_true q156; (try go_wp2)
         go_roundg k1
         case measure => have := HK1.o; omega
         case rel => exact ⟨(wrap64 ((wrap64 ((wrap64 ((wrap64 (x1_1 + 1)) + 1)) + 1)) + 1)), (wrap64 (x5_1 + 1)), fa, fa, H', ⟨by have := HK1.o; omega⟩, ⟨bl⟩⟩
        ·rw [if_neg c10] at H; have c10b0 : (((rd_T95 l0 x5_1).f3) == (wrap64 ((wrap64 ((wrap64 (x1_1 + 1)) + 1)) + 1))) = false := bN c10; (try rw [c10b0]); have c10b1 : (((rd_T95 l0 x5_1).f3) != (wrap64 ((wrap64 ((wrap64 (x1_1 + 1)) + 1)) + 1))) = true := bne_iff_ne.mpr c10; (try rw [c10b1]); obtain rfl := oj H; refine done_ (done_of HT_.o (by kernel_rfl)) ?_; (try go_wp2); replace HB := aK (below_drew1 HB.o); have p154 : 0 ≤ (x5_1 : Int) := dT am; have q154 : x5_1 < (l0.length : Int) := dT am; obtain ⟨ad154, e154, hx154_0, hx154_1, hx154_2, hx154_3⟩ := at_T95 HR0.o x5_1 p154 q154; have hw154_3 := hx154_3; have hw154_2 := hx154_2; have hw154_1 := hx154_1; have hw154_0 := hx154_0; obtain rfl : ad151 = ad154 := (by injection e154); replace hx154_0 := cz HB hx154_0; replace hx154_1 := cz HB hx154_1; replace hx154_2 := cz HB hx154_2; replace hx154_3 := cz HB hx154_3; replace p154 := eq_true p154; replace q154 := eq_true q154
         refine start_ (n := 8) (S := fun w' => w'.cell? (ad151.add ((x5_1).toNat * 4)) = some (.int .i64 ((rd_T95 l0 x5_1).f0)) ∧ w'.cell? ⟨(ad151.add ((x5_1).toNat * 4)).block, (ad151.add ((x5_1).toNat * 4)).off + 1, none⟩ = some (.string ((rd_T95 l0 x5_1).f1)) ∧ w'.cell? ⟨(ad151.add ((x5_1).toNat * 4)).block, (ad151.add ((x5_1).toNat * 4)).off + 2, none⟩ = some (.string ((rd_T95 l0 x5_1).f2)) ∧ w'.cell? ⟨(ad151.add ((x5_1).toNat * 4)).block, (ad151.add ((x5_1).toNat * 4)).off + 3, none⟩ = some (.int .i64 ((rd_T95 l0 x5_1).f3))) (ds := []) (bo 8 0) (by kernel_rfl) rfl rfl ⟨(cy HB hw154_0), (cy HB hw154_1), (cy HB hw154_2), (cy HB hw154_3)⟩ (fun hHeld => ?_); refine with_tabW laws_heldMoveS.tab10 laws_heldMoveS.bits10 (fun HT_ HW_ => ?_); generalize wq2.drew = wq3 at HB hx154_0 hx154_1 hx154_2 hx154_3 hHeld ⊢; refine pV 0 31 (bo 8 1) ?_; refine pV 1 32 (bo 8 3) ?_; refine pV 2 33 (bo 8 7) ?_; refine pV 3 34 (bo 8 15) ?_; refine pV 5 36 (bo 8 47) ?_; refine tV 4 35 (bo 8 63) ?_; refine o1 6 37 (bo 8 127) (fun K hK => ?_); refine goes_ Try.func94 (by kernel_rfl) rfl #[.int .i64 (wrap64 ((wrap64 (x1_1 + 1)) + 1))] (by rfl) rfl rfl sa ?_; (with_reducible refine (laws_markText.calls k1 (wrap64 ((wrap64 (x1_1 + 1)) + 1)) t155 _ A8.o).mono ?_); rintro e wq4 ⟨rfl, hb⟩; refine ⟨_, rfl, ?_⟩; replace HB := bS HB hb; (try clear hb hb2 hk hi); refine hK.out _ _ ⟨(cy HB hw154_0), (cy HB hw154_1), (cy HB hw154_2), (cy HB hw154_3)⟩ (fun hHeld => ?_); clear hK K; refine nm 37 ?_
         refine pV 7 38 (bo 8 255) ?_; refine done_ (done_of HT_.o (by kernel_rfl)) ?_; have p156 : 0 ≤ (x5_1 : Int) := dT am; have q156 : x5_1 < (l0.length : Int) := dT am; obtain ⟨ad156, e156, hx156_0, hx156_1, hx156_2, hx156_3⟩ := at_T95 HR0.o x5_1 p156 q156; obtain rfl : ad151 = ad156 := (by injection e156); replace hx156_0 := cz HB hx156_0; replace hx156_1 := cz HB hx156_1; replace hx156_2 := cz HB hx156_2; replace hx156_3 := cz HB hx156_3; replace p156 := eq_true p156; replace q156 := eq_true q156; (try go_wp2)
         go_ret
         exact ⟨fe, bl⟩
       ·rw [if_neg c9] at H; have c9b0 : (((rd_T95 l0 x5_1).f2).toList == t155.toList) = false := bN c9; (try rw [c9b0]); have c9b1 : (((rd_T95 l0 x5_1).f2).toList != t155.toList) = true := bne_iff_ne.mpr c9; (try rw [c9b1]); obtain rfl := oj H; refine done_ (done_of HT_.o (by kernel_rfl)) ?_; (try go_wp2); replace HB := aK (below_drew1 HB.o); have p154 : 0 ≤ (x5_1 : Int) := dT am; have q154 : x5_1 < (l0.length : Int) := dT am; obtain ⟨ad154, e154, hx154_0, hx154_1, hx154_2, hx154_3⟩ := at_T95 HR0.o x5_1 p154 q154; have hw154_3 := hx154_3; have hw154_2 := hx154_2; have hw154_1 := hx154_1; have hw154_0 := hx154_0; obtain rfl : ad151 = ad154 := (by injection e154); replace hx154_0 := cz HB hx154_0; replace hx154_1 := cz HB hx154_1; replace hx154_2 := cz HB hx154_2; replace hx154_3 := cz HB hx154_3; replace p154 := eq_true p154; replace q154 := eq_true q154
        refine start_ (n := 8) (S := fun w' => w'.cell? (ad151.add ((x5_1).toNat * 4)) = some (.int .i64 ((rd_T95 l0 x5_1).f0)) ∧ w'.cell? ⟨(ad151.add ((x5_1).toNat * 4)).block, (ad151.add ((x5_1).toNat * 4)).off + 1, none⟩ = some (.string ((rd_T95 l0 x5_1).f1)) ∧ w'.cell? ⟨(ad151.add ((x5_1).toNat * 4)).block, (ad151.add ((x5_1).toNat * 4)).off + 2, none⟩ = some (.string ((rd_T95 l0 x5_1).f2)) ∧ w'.cell? ⟨(ad151.add ((x5_1).toNat * 4)).block, (ad151.add ((x5_1).toNat * 4)).off + 3, none⟩ = some (.int .i64 ((rd_T95 l0 x5_1).f3))) (ds := []) (bo 8 0) (by kernel_rfl) rfl rfl ⟨(cy HB hw154_0), (cy HB hw154_1), (cy HB hw154_2), (cy HB hw154_3)⟩ (fun hHeld => ?_); refine with_tabW laws_heldMoveS.tab10 laws_heldMoveS.bits10 (fun HT_ HW_ => ?_); generalize wq2.drew = wq3 at HB hx154_0 hx154_1 hx154_2 hx154_3 hHeld ⊢; refine pV 0 31 (bo 8 1) ?_; refine pV 1 32 (bo 8 3) ?_; refine pV 2 33 (bo 8 7) ?_; refine pV 3 34 (bo 8 15) ?_; refine pV 5 36 (bo 8 47) ?_; refine tV 4 35 (bo 8 63) ?_; refine o1 6 37 (bo 8 127) (fun K hK => ?_); refine goes_ Try.func94 (by kernel_rfl) rfl #[.int .i64 (wrap64 ((wrap64 (x1_1 + 1)) + 1))] (by rfl) rfl rfl sa ?_; (with_reducible refine (laws_markText.calls k1 (wrap64 ((wrap64 (x1_1 + 1)) + 1)) t155 _ A8.o).mono ?_); rintro e wq4 ⟨rfl, hb⟩; refine ⟨_, rfl, ?_⟩; replace HB := bS HB hb; (try clear hb hb2 hk hi); refine hK.out _ _ ⟨(cy HB hw154_0), (cy HB hw154_1), (cy HB hw154_2), (cy HB hw154_3)⟩ (fun hHeld => ?_); clear hK K; refine nm 37 ?_
        refine pV 7 38 (bo 8 255) ?_; refine done_ (done_of HT_.o (by kernel_rfl)) ?_; (try go_wp2)
        go_ret
        exact ⟨fe, bl⟩
      ·rw [if_neg c7] at H; have c7b0 : (((rd_T95 l0 x5_1).f1).toList == t153.toList) = false := bN c7; (try rw [c7b0]); have c7b1 : (((rd_T95 l0 x5_1).f1).toList != t153.toList) = true := bne_iff_ne.mpr c7; (try rw [c7b1]); obtain rfl := oj H; refine done_ (done_of HT_.o (by kernel_rfl)) ?_; (try go_wp2)
       go_ret
       exact ⟨fe, bl⟩
     ·rw [if_neg c5] at H; have c5b0 : (((rd_T95 l0 x5_1).f0) == x1_1) = false := bN c5; (try rw [c5b0]); have c5b1 : (((rd_T95 l0 x5_1).f0) != x1_1) = true := bne_iff_ne.mpr c5; (try rw [c5b1]); obtain rfl := oj H; go_wp2
      go_ret
      exact ⟨fe, bl⟩
    ·rw [if_neg c4] at H; exact absurd H (by simp)
   ·rw [if_neg c3] at H; have c3b0 : decide (x5_1 < (l0.length : Int)) = false := df c3; clear c3; obtain rfl := oj H; go_wp2
    go_ret
    exact ⟨fe, bl⟩
/-! ### laws_heldDisk: function 19 -/
def laws_heldDisk.f (k : Nat) (a0_0 : Int) (a0_1 : Int) (l0_2 : List (S89)) (l0_3 : List (S93)) (l0_4 : List (S95)) (a1 : Int) : Option (Int) := (laws_heldInodeS.f k l0_2 a1).bind fun t158 => (if t158 < 0 then (some (-1)) else ((laws_heldLinkS.f k l0_3 t158).bind fun t159 => (if t159 < 0 then (some (-1)) else ((laws_heldMoveS.f k l0_4 t159).bind fun t160 => (if t160 < 0 then (some (-1)) else (some t160))))))
theorem laws_heldDisk.mono : ∀ a0 a1 a2 a3 a4 a5 k, LeO (laws_heldDisk.f k a0 a1 a2 a3 a4 a5) (laws_heldDisk.f (k + 1) a0 a1 a2 a3 a4 a5) := by
 intro a0 a1 a2 a3 a4 a5 k; unfold laws_heldDisk.f
 repeat' first
  | (with_reducible exact laws_heldInodeS.mono _ _ _)
  | (with_reducible exact laws_heldLinkS.mono _ _ _)
  | (with_reducible exact laws_heldMoveS.mono _ _ _)
  | (with_reducible exact LeO.refl _)
  | (with_reducible exact LeO.none _)
  | (with_reducible refine LeO.ite ?_ ?_)
  | (with_reducible refine LeO.bind ?_ (fun _ => ?_))
set_option maxHeartbeats 8000000 in
set_option maxRecDepth 100000 in
theorem laws_heldDisk.calls (k : Nat) (a0_0 : Int) (a0_1 : Int) (A0_2 : Option Addr) (c0_2 : Nat) (l0_2 : List (S89)) (A0_3 : Option Addr) (c0_3 : Nat) (l0_3 : List (S93)) (A0_4 : Option Addr) (c0_4 : Nat) (l0_4 : List (S95)) (a1 : Int) (r : Int) (w : World) (hr0_2 : Kd.C k89 w A0_2 l0_2.length l0_2) (hc0_2 : l0_2.length ≤ c0_2) (hr0_3 : Kd.C k93 w A0_3 l0_3.length l0_3) (hc0_3 : l0_3.length ≤ c0_3) (hr0_4 : Kd.C k95 w A0_4 l0_4.length l0_4) (hc0_4 : l0_4.length ≤ c0_4) (h : laws_heldDisk.f k a0_0 a0_1 l0_2 l0_3 l0_4 a1 = some r) :
 Calls Try.prog 19 #[.agg #[.int .i64 a0_0, .int .i64 a0_1, .slice A0_2 l0_2.length c0_2, .slice A0_3 l0_3.length c0_3, .slice A0_4 l0_4.length c0_4], .int .i64 a1] w fun e w' => e = .returned (.int .i64 r) ∧ Below w.heap.size w w' := by
 have hu26 := Try.underlying26; have HR0_2 := aK hr0_2; have HC0_2 := aK hc0_2; clear hr0_2 hc0_2; have HR0_3 := aK hr0_3; have HC0_3 := aK hc0_3; clear hr0_3 hc0_3; have HR0_4 := aK hr0_4; have HC0_4 := aK hc0_4; clear hr0_4 hc0_4; have HB := aK (Below.refl w.heap.size w); have H : ((laws_heldInodeS.f k l0_2 a1).bind fun t158 => (if t158 < 0 then (some (-1)) else ((laws_heldLinkS.f k l0_3 t158).bind fun t159 => (if t159 < 0 then (some (-1)) else ((laws_heldMoveS.f k l0_4 t159).bind fun t160 => (if t160 < 0 then (some (-1)) else (some t160))))))) = some r := h; clear h; obtain ⟨t158, A3, H⟩ := bd H; by_cases c4 : t158 < 0
 ·rw [if_pos c4] at H; have c4b0 : decide (t158 < 0) = true := dt c4; clear c4; obtain rfl := oj H
  go_enter Try.func19, Try.ntmps19
  go_wp2_with (first | ((with_reducible refine gD 2 rfl ?_); refine boxZ 2 #[.int .i64 a0_0, .int .i64 a0_1, .slice A0_2 l0_2.length c0_2, .slice A0_3 l0_3.length c0_3, .slice A0_4 l0_4.length c0_4] 26 ?_; intro gb157 hg wq1 hbox hb; have BK157 := aK hbox; have GW157 := gW HB hg; replace HB := bS HB hb; clear hb hbox hg; obtain ⟨_, _, _, _, _, _, _, _, _, _⟩ := cf5 BK157) | ((with_reducible refine gC 61 rfl ?_); refine goesZ (some 8) rfl Try.func61 #[.slice A0_2 l0_2.length c0_2, .int .i64 a1] ?_; (with_reducible refine (laws_heldInodeS.calls k _ _ l0_2 a1 t158 _ ?_ ?_ A3.o).mono ?_); exact cB HR0_2 HB; exact HC0_2.o; rintro e wq2 ⟨rfl, hb⟩; refine ⟨_, rfl, ?_⟩; replace BK157 := bv BK157 hb; replace HB := bS HB hb; (try clear hb)))
  go_ret
  exact ⟨fe, bl⟩
 ·rw [if_neg c4] at H; have c4b0 : decide (t158 < 0) = false := df c4; clear c4; obtain ⟨t159, A8, H⟩ := bd H; by_cases c9 : t159 < 0
  ·rw [if_pos c9] at H; have c9b0 : decide (t159 < 0) = true := dt c9; clear c9; obtain rfl := oj H
   go_enter Try.func19, Try.ntmps19
   go_wp2_with (first | ((with_reducible refine gD 2 rfl ?_); refine boxZ 2 #[.int .i64 a0_0, .int .i64 a0_1, .slice A0_2 l0_2.length c0_2, .slice A0_3 l0_3.length c0_3, .slice A0_4 l0_4.length c0_4] 26 ?_; intro gb157 hg wq1 hbox hb; have BK157 := aK hbox; have GW157 := gW HB hg; replace HB := bS HB hb; clear hb hbox hg; obtain ⟨_, _, _, _, _, _, _, _, _, _⟩ := cf5 BK157) | ((with_reducible refine gC 61 rfl ?_); refine goesZ (some 8) rfl Try.func61 #[.slice A0_2 l0_2.length c0_2, .int .i64 a1] ?_; (with_reducible refine (laws_heldInodeS.calls k _ _ l0_2 a1 t158 _ ?_ ?_ A3.o).mono ?_); exact cB HR0_2 HB; exact HC0_2.o; rintro e wq2 ⟨rfl, hb⟩; refine ⟨_, rfl, ?_⟩; replace BK157 := bv BK157 hb; replace HB := bS HB hb; (try clear hb); obtain ⟨_, _, _, _, _, _, _, _, _, _⟩ := cf5 BK157) | ((with_reducible refine gC 62 rfl ?_); refine goesZ (some 14) rfl Try.func62 #[.slice A0_3 l0_3.length c0_3, .int .i64 t158] ?_; (with_reducible refine (laws_heldLinkS.calls k _ _ l0_3 t158 t159 _ ?_ ?_ A8.o).mono ?_); exact cB HR0_3 HB; exact HC0_3.o; rintro e wq3 ⟨rfl, hb⟩; refine ⟨_, rfl, ?_⟩; replace BK157 := bv BK157 hb; replace HB := bS HB hb; (try clear hb)))
   go_ret
   exact ⟨fe, bl⟩
  ·rw [if_neg c9] at H; have c9b0 : decide (t159 < 0) = false := df c9; clear c9; obtain ⟨t160, A15, H⟩ := bd H; by_cases c16 : t160 < 0
   ·rw [if_pos c16] at H; have c16b0 : decide (t160 < 0) = true := dt c16; clear c16; obtain rfl := oj H
    go_enter Try.func19, Try.ntmps19
    go_wp2_with (first | ((with_reducible refine gD 2 rfl ?_); refine boxZ 2 #[.int .i64 a0_0, .int .i64 a0_1, .slice A0_2 l0_2.length c0_2, .slice A0_3 l0_3.length c0_3, .slice A0_4 l0_4.length c0_4] 26 ?_; intro gb157 hg wq1 hbox hb; have BK157 := aK hbox; have GW157 := gW HB hg; replace HB := bS HB hb; clear hb hbox hg; obtain ⟨_, _, _, _, _, _, _, _, _, _⟩ := cf5 BK157) | ((with_reducible refine gC 61 rfl ?_); refine goesZ (some 8) rfl Try.func61 #[.slice A0_2 l0_2.length c0_2, .int .i64 a1] ?_; (with_reducible refine (laws_heldInodeS.calls k _ _ l0_2 a1 t158 _ ?_ ?_ A3.o).mono ?_); exact cB HR0_2 HB; exact HC0_2.o; rintro e wq2 ⟨rfl, hb⟩; refine ⟨_, rfl, ?_⟩; replace BK157 := bv BK157 hb; replace HB := bS HB hb; (try clear hb); obtain ⟨_, _, _, _, _, _, _, _, _, _⟩ := cf5 BK157) | ((with_reducible refine gC 62 rfl ?_); refine goesZ (some 14) rfl Try.func62 #[.slice A0_3 l0_3.length c0_3, .int .i64 t158] ?_; (with_reducible refine (laws_heldLinkS.calls k _ _ l0_3 t158 t159 _ ?_ ?_ A8.o).mono ?_); exact cB HR0_3 HB; exact HC0_3.o; rintro e wq3 ⟨rfl, hb⟩; refine ⟨_, rfl, ?_⟩; replace BK157 := bv BK157 hb; replace HB := bS HB hb; (try clear hb); obtain ⟨_, _, _, _, _, _, _, _, _, _⟩ := cf5 BK157) | ((with_reducible refine gC 63 rfl ?_); refine goesZ (some 20) rfl Try.func63 #[.slice A0_4 l0_4.length c0_4, .int .i64 t159] ?_; (with_reducible refine (laws_heldMoveS.calls k _ _ l0_4 t159 t160 _ ?_ ?_ A15.o).mono ?_); exact cB HR0_4 HB; exact HC0_4.o; rintro e wq4 ⟨rfl, hb⟩; refine ⟨_, rfl, ?_⟩; replace BK157 := bv BK157 hb; replace HB := bS HB hb; (try clear hb)))
    go_ret
    exact ⟨fe, bl⟩
   ·rw [if_neg c16] at H; have c16b0 : decide (t160 < 0) = false := df c16; clear c16; obtain rfl := oj H
    go_enter Try.func19, Try.ntmps19
    go_wp2_with (first | ((with_reducible refine gD 2 rfl ?_); refine boxZ 2 #[.int .i64 a0_0, .int .i64 a0_1, .slice A0_2 l0_2.length c0_2, .slice A0_3 l0_3.length c0_3, .slice A0_4 l0_4.length c0_4] 26 ?_; intro gb157 hg wq1 hbox hb; have BK157 := aK hbox; have GW157 := gW HB hg; replace HB := bS HB hb; clear hb hbox hg; obtain ⟨_, _, _, _, _, _, _, _, _, _⟩ := cf5 BK157) | ((with_reducible refine gC 61 rfl ?_); refine goesZ (some 8) rfl Try.func61 #[.slice A0_2 l0_2.length c0_2, .int .i64 a1] ?_; (with_reducible refine (laws_heldInodeS.calls k _ _ l0_2 a1 t158 _ ?_ ?_ A3.o).mono ?_); exact cB HR0_2 HB; exact HC0_2.o; rintro e wq2 ⟨rfl, hb⟩; refine ⟨_, rfl, ?_⟩; replace BK157 := bv BK157 hb; replace HB := bS HB hb; (try clear hb); obtain ⟨_, _, _, _, _, _, _, _, _, _⟩ := cf5 BK157) | ((with_reducible refine gC 62 rfl ?_); refine goesZ (some 14) rfl Try.func62 #[.slice A0_3 l0_3.length c0_3, .int .i64 t158] ?_; (with_reducible refine (laws_heldLinkS.calls k _ _ l0_3 t158 t159 _ ?_ ?_ A8.o).mono ?_); exact cB HR0_3 HB; exact HC0_3.o; rintro e wq3 ⟨rfl, hb⟩; refine ⟨_, rfl, ?_⟩; replace BK157 := bv BK157 hb; replace HB := bS HB hb; (try clear hb); obtain ⟨_, _, _, _, _, _, _, _, _, _⟩ := cf5 BK157) | ((with_reducible refine gC 63 rfl ?_); refine goesZ (some 20) rfl Try.func63 #[.slice A0_4 l0_4.length c0_4, .int .i64 t159] ?_; (with_reducible refine (laws_heldMoveS.calls k _ _ l0_4 t159 t160 _ ?_ ?_ A15.o).mono ?_); exact cB HR0_4 HB; exact HC0_4.o; rintro e wq4 ⟨rfl, hb⟩; refine ⟨_, rfl, ?_⟩; replace BK157 := bv BK157 hb; replace HB := bS HB hb; (try clear hb)))
    go_ret
    exact ⟨fe, bl⟩
end Go.Proofs.Ytjcmcamijaelbaa.PDisk
