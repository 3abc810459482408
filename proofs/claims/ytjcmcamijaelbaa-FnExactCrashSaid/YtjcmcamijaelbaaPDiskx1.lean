/- Functions of the program, each with its contract, written by a program out of the translation. -/
import Derived.Test.YtjcmcamijaelbaaPDiskx0
import Derived.Test.YtjcmcamijaelbaaZap
namespace Go.Proofs.Ytjcmcamijaelbaa.PDisk
open Go.RowKit Go.Proofs.YtjcmcamijaelbaaW.PrintWords Go.Proofs.YtjcmcamijaelbaaW.PrintLast Go.Proofs.YtjcmcamijaelbaaW.PrintMore Go.Proofs.Ytjcmcamijaelbaa.Zip
attribute [local go_sem] max2_int min2_int max_two min_two max_three min_three max_four min_four   -- for this text's walks alone
set_option linter.unusedVariables false
set_option linter.unusedSimpArgs false
/-! ### laws_eqInode: function 103 -/
def laws_eqInode.f (a0_0 : Int) (a0_1 : ByteArray) (a0_2 : Int) (a1_0 : Int) (a1_1 : ByteArray) (a1_2 : Int) : Option (Bool) := if a0_0 = a1_0 then (if a0_1.toList = a1_1.toList then (if a0_2 = a1_2 then (some true) else (some false)) else (some false)) else (some false)
set_option maxHeartbeats 8000000 in
set_option maxRecDepth 100000 in
theorem laws_eqInode.calls (a0_0 : Int) (a0_1 : ByteArray) (a0_2 : Int) (a1_0 : Int) (a1_1 : ByteArray) (a1_2 : Int) (r : Bool) (w : World) (h : laws_eqInode.f a0_0 a0_1 a0_2 a1_0 a1_1 a1_2 = some r) :
 Calls Try.prog 103 #[.agg #[.int .i64 a0_0, .string a0_1, .int .i64 a0_2], .agg #[.int .i64 a1_0, .string a1_1, .int .i64 a1_2]] w fun e w' => e = .returned (.bool r) ∧ Below w.heap.size w w' := by
 have hu89 := Try.underlying89; have HB := aK (Below.refl w.heap.size w); have H : (if a0_0 = a1_0 then (if a0_1.toList = a1_1.toList then (if a0_2 = a1_2 then (some true) else (some false)) else (some false)) else (some false)) = some r := h; clear h; by_cases c3 : a0_0 = a1_0
 ·rw [if_pos c3] at H; have c3b0 : (a0_0 == a1_0) = true := beq_iff_eq.mpr c3; have c3b1 : (a0_0 != a1_0) = false := bE c3; clear c3; by_cases c4 : a0_1.toList = a1_1.toList
  ·rw [if_pos c4] at H; have c4b0 : (a0_1.toList == a1_1.toList) = true := beq_iff_eq.mpr c4; have c4b1 : (a0_1.toList != a1_1.toList) = false := bE c4; clear c4; by_cases c5 : a0_2 = a1_2
   ·rw [if_pos c5] at H; have c5b0 : (a0_2 == a1_2) = true := beq_iff_eq.mpr c5; have c5b1 : (a0_2 != a1_2) = false := bE c5; clear c5; obtain rfl := oj H
    go_enter Try.func103, Try.ntmps103
    go_wp2_with (first | ((with_reducible refine gD 2 rfl ?_); refine boxZ 2 #[.int .i64 a0_0, .string a0_1, .int .i64 a0_2] 89 ?_; intro gb101 hg wq1 hbox hb; have BK101 := aK hbox; have GW101 := gW HB hg; replace HB := bS HB hb; clear hb hbox hg) | ((with_reducible refine gD 3 rfl ?_); refine boxZ 3 #[.int .i64 a1_0, .string a1_1, .int .i64 a1_2] 89 ?_; intro gb102 hg wq2 hbox hb; have BK102 := aK hbox; have GW102 := gW HB hg; replace HB := bS HB hb; have NB101_102 := nl BK101 hg; have NB102_101 := nr BK101 hg; replace BK101 := bv BK101 hb; clear hb hbox hg; have hnbq1 := NB101_102.o; have hncq1 := NB102_101.o; obtain ⟨_, _, _, _, _, _⟩ := cf3 BK101; obtain ⟨_, _, _, _, _, _⟩ := cf3 BK102))
    go_ret
    exact ⟨fe, bl⟩
   ·rw [if_neg c5] at H; have c5b0 : (a0_2 == a1_2) = false := bN c5; have c5b1 : (a0_2 != a1_2) = true := bne_iff_ne.mpr c5; obtain rfl := oj H
    go_enter Try.func103, Try.ntmps103
    go_wp2_with (first | ((with_reducible refine gD 2 rfl ?_); refine boxZ 2 #[.int .i64 a0_0, .string a0_1, .int .i64 a0_2] 89 ?_; intro gb101 hg wq1 hbox hb; have BK101 := aK hbox; have GW101 := gW HB hg; replace HB := bS HB hb; clear hb hbox hg) | ((with_reducible refine gD 3 rfl ?_); refine boxZ 3 #[.int .i64 a1_0, .string a1_1, .int .i64 a1_2] 89 ?_; intro gb102 hg wq2 hbox hb; have BK102 := aK hbox; have GW102 := gW HB hg; replace HB := bS HB hb; have NB101_102 := nl BK101 hg; have NB102_101 := nr BK101 hg; replace BK101 := bv BK101 hb; clear hb hbox hg; have hnbq1 := NB101_102.o; have hncq1 := NB102_101.o; obtain ⟨_, _, _, _, _, _⟩ := cf3 BK101; obtain ⟨_, _, _, _, _, _⟩ := cf3 BK102))
    go_ret
    exact ⟨fe, bl⟩
  ·rw [if_neg c4] at H; have c4b0 : (a0_1.toList == a1_1.toList) = false := bN c4; have c4b1 : (a0_1.toList != a1_1.toList) = true := bne_iff_ne.mpr c4; obtain rfl := oj H
   go_enter Try.func103, Try.ntmps103
   go_wp2_with (first | ((with_reducible refine gD 2 rfl ?_); refine boxZ 2 #[.int .i64 a0_0, .string a0_1, .int .i64 a0_2] 89 ?_; intro gb101 hg wq1 hbox hb; have BK101 := aK hbox; have GW101 := gW HB hg; replace HB := bS HB hb; clear hb hbox hg) | ((with_reducible refine gD 3 rfl ?_); refine boxZ 3 #[.int .i64 a1_0, .string a1_1, .int .i64 a1_2] 89 ?_; intro gb102 hg wq2 hbox hb; have BK102 := aK hbox; have GW102 := gW HB hg; replace HB := bS HB hb; have NB101_102 := nl BK101 hg; have NB102_101 := nr BK101 hg; replace BK101 := bv BK101 hb; clear hb hbox hg; have hnbq1 := NB101_102.o; have hncq1 := NB102_101.o; obtain ⟨_, _, _, _, _, _⟩ := cf3 BK101; obtain ⟨_, _, _, _, _, _⟩ := cf3 BK102))
   go_ret
   exact ⟨fe, bl⟩
 ·rw [if_neg c3] at H; have c3b0 : (a0_0 == a1_0) = false := bN c3; have c3b1 : (a0_0 != a1_0) = true := bne_iff_ne.mpr c3; obtain rfl := oj H
  go_enter Try.func103, Try.ntmps103
  go_wp2_with (first | ((with_reducible refine gD 2 rfl ?_); refine boxZ 2 #[.int .i64 a0_0, .string a0_1, .int .i64 a0_2] 89 ?_; intro gb101 hg wq1 hbox hb; have BK101 := aK hbox; have GW101 := gW HB hg; replace HB := bS HB hb; clear hb hbox hg) | ((with_reducible refine gD 3 rfl ?_); refine boxZ 3 #[.int .i64 a1_0, .string a1_1, .int .i64 a1_2] 89 ?_; intro gb102 hg wq2 hbox hb; have BK102 := aK hbox; have GW102 := gW HB hg; replace HB := bS HB hb; have NB101_102 := nl BK101 hg; have NB102_101 := nr BK101 hg; replace BK101 := bv BK101 hb; clear hb hbox hg; have hnbq1 := NB101_102.o; have hncq1 := NB102_101.o; obtain ⟨_, _, _, _, _, _⟩ := cf3 BK101; obtain ⟨_, _, _, _, _, _⟩ := cf3 BK102))
  go_ret
  exact ⟨fe, bl⟩
/-! ### laws_eqInodeS: function 55 -/
def laws_eqInodeS.l0 : Nat → List (S89) → List (S89) → Int → Option (Bool)
 | 0, _, _, _ => none
 | k + 1, x0, x1, x5 => if x5 < (x0.length : Int) then (if 0 ≤ x5 then (if x5 < (x1.length : Int) then ((laws_eqInode.f ((rd_T89 x0 x5).f0) ((rd_T89 x0 x5).f1) ((rd_T89 x0 x5).f2) ((rd_T89 x1 x5).f0) ((rd_T89 x1 x5).f1) ((rd_T89 x1 x5).f2)).bind fun t105 => (if t105 = true then (laws_eqInodeS.l0 k x0 x1 (wrap64 (x5 + 1))) else (some false))) else (none)) else (none)) else (some true)
def laws_eqInodeS.f (k : Nat) (l0 : List (S89)) (l1 : List (S89)) : Option (Bool) := if (l0.length : Int) = (l1.length : Int) then (laws_eqInodeS.l0 k l0 l1 0) else (some false)
theorem laws_eqInodeS.mono_l : ∀ k, (∀ y0 y1 y2, LeO (laws_eqInodeS.l0 k y0 y1 y2) (laws_eqInodeS.l0 (k + 1) y0 y1 y2))
 | 0 => fun _ _ _ r h => by simp [laws_eqInodeS.l0] at h
 | k + 1 => by
  have ih0 := laws_eqInodeS.mono_l k
  ·intro y0 y1 y2
   unfold laws_eqInodeS.l0
   repeat' first
   | (with_reducible exact ih0 _ _ _)
   | (with_reducible exact LeO.refl _)
   | (with_reducible exact LeO.none _)
   | (with_reducible refine LeO.ite ?_ ?_)
   | (with_reducible refine LeO.bind ?_ (fun _ => ?_))
theorem laws_eqInodeS.mono : ∀ a0 a1 k, LeO (laws_eqInodeS.f k a0 a1) (laws_eqInodeS.f (k + 1) a0 a1) := by
 intro a0 a1 k; have ih0 := laws_eqInodeS.mono_l k; unfold laws_eqInodeS.f
 repeat' first
  | (with_reducible exact ih0 _ _ _)
  | (with_reducible exact LeO.refl _)
  | (with_reducible exact LeO.none _)
  | (with_reducible refine LeO.ite ?_ ?_)
  | (with_reducible refine LeO.bind ?_ (fun _ => ?_))
def laws_eqInodeS.T6 : Bool × List (List Nat × List Nat) := (true, [([], []), ([], []), ([0, 1], [0, 1]), ([2], [2]), ([], []), ([], []), ([4, 5], [4, 5]), ([6], [6]), ([3, 7], [3, 7]), ([8], [8])])
def laws_eqInodeS.B6 : List Nat := [0, 0, 3, 7, 0, 0, 48, 112, 255, 511]
theorem laws_eqInodeS.tab6 : rtab .any (opsOf Try.f55 6) = laws_eqInodeS.T6 := by kernel_rfl
theorem laws_eqInodeS.bits6 : waitsOk laws_eqInodeS.T6.2 laws_eqInodeS.B6 = true := by kernel_rfl
set_option maxHeartbeats 8000000 in
set_option maxRecDepth 100000 in
theorem laws_eqInodeS.calls (k : Nat) (A0 : Option Addr) (c0 : Nat) (l0 : List (S89)) (A1 : Option Addr) (c1 : Nat) (l1 : List (S89)) (r : Bool) (w : World) (hr0 : Kd.C k89 w A0 l0.length l0) (hc0 : l0.length ≤ c0) (hr1 : Kd.C k89 w A1 l1.length l1) (hc1 : l1.length ≤ c1) (h : laws_eqInodeS.f k l0 l1 = some r) :
 Calls Try.prog 55 #[.slice A0 l0.length c0, .slice A1 l1.length c1] w fun e w' => e = .returned (.bool r) ∧ Below w.heap.size w w' := by
 have hu89 := Try.underlying89; have HR0 := aK hr0; have HC0 := aK hc0; clear hr0 hc0; have HR1 := aK hr1; have HC1 := aK hc1; clear hr1 hc1; have HB := aK (Below.refl w.heap.size w); have H : (if (l0.length : Int) = (l1.length : Int) then (laws_eqInodeS.l0 k l0 l1 0) else (some false)) = some r := h; clear h; by_cases c3 : (l0.length : Int) = (l1.length : Int)
 ·rw [if_pos c3] at H; have c3b0 : ((l0.length : Int) == (l1.length : Int)) = true := beq_iff_eq.mpr c3; have c3b1 : ((l0.length : Int) != (l1.length : Int)) = false := bE c3; have c3b2 : (l0.length == l1.length) = true := by first | simpa using c3 | (simp at c3 ⊢; omega)
  clear c3; have H' := aK H; clear H
  go_enter Try.func55, Try.ntmps55
  go_wp2
  go_loopg [5] k (fun kq v5 w' => ∃ (x5_1 : Int), v5 = .int .i64 x5_1 ∧ Aside0 (laws_eqInodeS.l0 kq l0 l1 x5_1 = some r) ∧ Aside0 (kq ≤ k) ∧ Aside0 (Below w.heap.size w w'))
  case atStart => exact ⟨(0), fa, H', ⟨Nat.le_refl _⟩, ⟨bl⟩⟩
  case round =>
   clear H'; (try clear c1); (try clear p2); (try clear c3); (try clear c3b0); (try clear c3b1); (try clear c3b2); obtain ⟨x5_1, rfl, HA, HK1, HB⟩ := hrel; cases gk with
   | zero => exact absurd HA.o (by simp [laws_eqInodeS.l0])
   | succ k1 =>
    have H := HA.o; clear HA; simp only [laws_eqInodeS.l0] at H; by_cases c4 : x5_1 < (l0.length : Int)
    ·rw [if_pos c4] at H; have c4b0 : decide (x5_1 < (l0.length : Int)) = true := dt c4; clear c4; by_cases c5 : 0 ≤ x5_1
     ·rw [if_pos c5] at H; have c5b0 : decide (0 ≤ x5_1) = true := dt c5; clear c5; have Hq_ := aK H; clear H; (try go_wp2); replace HB := aK (below_drew1 HB.o); have p103 : 0 ≤ (x5_1 : Int) := dT am; have q103 : x5_1 < (l0.length : Int) := dT am; obtain ⟨ad103, e103, hx103_0, hx103_1, hx103_2⟩ := at_T89 HR0.o x5_1 p103 q103; have hw103_2 := hx103_2; have hw103_1 := hx103_1; have hw103_0 := hx103_0; cases e103; replace hx103_0 := cz HB hx103_0; replace hx103_1 := cz HB hx103_1; replace hx103_2 := cz HB hx103_2; replace p103 := eq_true p103; replace q103 := eq_true q103; have p104 : 0 ≤ (x5_1 : Int) := dT am; have H := Hq_.o; clear Hq_; by_cases c6 : x5_1 < (l1.length : Int)
      ·rw [if_pos c6] at H; have c6b0 : decide (x5_1 < (l1.length : Int)) = true := dt c6; (try rw [c6b0]); clear c6; obtain ⟨t105, A7, H⟩ := bd H; have Hq_ := aK H; clear H; have q104 : x5_1 < (l1.length : Int) := dT am; obtain ⟨ad104, e104, hx104_0, hx104_1, hx104_2⟩ := at_T89 HR1.o x5_1 p104 q104; have hw104_2 := hx104_2; have hw104_1 := hx104_1; have hw104_0 := hx104_0; cases e104; replace hx104_0 := cz HB hx104_0; replace hx104_1 := cz HB hx104_1; replace hx104_2 := cz HB hx104_2; replace p104 := eq_true p104; replace q104 := eq_true q104; refine start_ (n := 10) (S := fun w' => w'.cell? (ad103.add ((x5_1).toNat * 3)) = some (.int .i64 ((rd_T89 l0 x5_1).f0)) ∧ w'.cell? ⟨(ad103.add ((x5_1).toNat * 3)).block, (ad103.add ((x5_1).toNat * 3)).off + 1, none⟩ = some (.string ((rd_T89 l0 x5_1).f1)) ∧ w'.cell? ⟨(ad103.add ((x5_1).toNat * 3)).block, (ad103.add ((x5_1).toNat * 3)).off + 2, none⟩ = some (.int .i64 ((rd_T89 l0 x5_1).f2)) ∧ w'.cell? (ad104.add ((x5_1).toNat * 3)) = some (.int .i64 ((rd_T89 l1 x5_1).f0)) ∧ w'.cell? ⟨(ad104.add ((x5_1).toNat * 3)).block, (ad104.add ((x5_1).toNat * 3)).off + 1, none⟩ = some (.string ((rd_T89 l1 x5_1).f1)) ∧ w'.cell? ⟨(ad104.add ((x5_1).toNat * 3)).block, (ad104.add ((x5_1).toNat * 3)).off + 2, none⟩ = some (.int .i64 ((rd_T89 l1 x5_1).f2))) (ds := []) (bo 10 0) (by kernel_rfl) rfl rfl ⟨(cy HB hw103_0), (cy HB hw103_1), (cy HB hw103_2), (cy HB hw104_0), (cy HB hw104_1), (cy HB hw104_2)⟩ (fun hHeld => ?_)
       refine with_tabW laws_eqInodeS.tab6 laws_eqInodeS.bits6 (fun HT_ HW_ => ?_); generalize wr.drew = wr1 at HB hx103_0 hx103_1 hx103_2 hx104_0 hx104_1 hx104_2 hHeld ⊢; refine pV 0 17 (bo 10 1) ?_; refine pV 1 18 (bo 10 3) ?_; refine pV 2 19 (bo 10 7) ?_; refine pV 4 21 (bo 10 23) ?_; refine pV 5 22 (bo 10 55) ?_; refine pV 6 23 (bo 10 119) ?_; refine tV 3 20 (bo 10 127) ?_; refine tV 7 24 (bo 10 255) ?_; refine o1 8 25 (bo 10 511) (fun K hK => ?_); refine goes_ Try.func103 (by kernel_rfl) rfl #[.agg #[.int .i64 ((rd_T89 l0 x5_1).f0), .string ((rd_T89 l0 x5_1).f1), .int .i64 ((rd_T89 l0 x5_1).f2)], .agg #[.int .i64 ((rd_T89 l1 x5_1).f0), .string ((rd_T89 l1 x5_1).f1), .int .i64 ((rd_T89 l1 x5_1).f2)]] (by rfl) rfl rfl sa ?_; (with_reducible refine (laws_eqInode.calls ((rd_T89 l0 x5_1).f0) ((rd_T89 l0 x5_1).f1) ((rd_T89 l0 x5_1).f2) ((rd_T89 l1 x5_1).f0) ((rd_T89 l1 x5_1).f1) ((rd_T89 l1 x5_1).f2) _ _ A7.o).mono ?_); rintro e wr2 ⟨rfl, hb⟩; refine ⟨_, rfl, ?_⟩; replace HB := bS HB hb; (try clear hb hb2 hk hi); refine hK.out _ _ ⟨(cy HB hw103_0), (cy HB hw103_1), (cy HB hw103_2), (cy HB hw104_0), (cy HB hw104_1), (cy HB hw104_2)⟩ (fun hHeld => ?_); clear hK K; refine nm 25 ?_; refine pV 9 26 (bo 10 1023) ?_; have H := Hq_.o; clear Hq_; by_cases c8 : t105 = true
       ·subst c8; replace H := iT H; have H' := aK H; clear H; refine done_ (done_of HT_.o (by kernel_rfl)) ?_; (try go_wp2)
        go_roundg k1
        case measure => have := HK1.o; omega
        case rel => exact ⟨(wrap64 (x5_1 + 1)), fa, H', ⟨by have := HK1.o; omega⟩, ⟨bl⟩⟩
       ·replace c8 := bF c8; subst c8; replace H := iF H; obtain rfl := oj H; refine done_ (done_of HT_.o (by kernel_rfl)) ?_; (try go_wp2)
        go_ret
        exact ⟨fe, bl⟩
      ·rw [if_neg c6] at H; exact absurd H (by simp)
     ·rw [if_neg c5] at H; exact absurd H (by simp)
    ·rw [if_neg c4] at H; have c4b0 : decide (x5_1 < (l0.length : Int)) = false := df c4; clear c4; obtain rfl := oj H; go_wp2
     go_ret
     exact ⟨fe, bl⟩
 ·rw [if_neg c3] at H; have c3b0 : ((l0.length : Int) == (l1.length : Int)) = false := bN c3; have c3b1 : ((l0.length : Int) != (l1.length : Int)) = true := bne_iff_ne.mpr c3; have c3b2 : (l0.length == l1.length) = false := by first | simpa using c3 | (simp at c3 ⊢; omega)
  obtain rfl := oj H
  go_enter Try.func55, Try.ntmps55
  go_wp2
  go_ret
  exact ⟨fe, bl⟩
/-! ### laws_eqLink: function 104 -/
def laws_eqLink.f (a0_0 : ByteArray) (a0_1 : Int) (a1_0 : ByteArray) (a1_1 : Int) : Option (Bool) := if a0_0.toList = a1_0.toList then (if a0_1 = a1_1 then (some true) else (some false)) else (some false)
set_option maxHeartbeats 8000000 in
set_option maxRecDepth 100000 in
theorem laws_eqLink.calls (a0_0 : ByteArray) (a0_1 : Int) (a1_0 : ByteArray) (a1_1 : Int) (r : Bool) (w : World) (h : laws_eqLink.f a0_0 a0_1 a1_0 a1_1 = some r) :
 Calls Try.prog 104 #[.agg #[.string a0_0, .int .i64 a0_1], .agg #[.string a1_0, .int .i64 a1_1]] w fun e w' => e = .returned (.bool r) ∧ Below w.heap.size w w' := by
 have hu93 := Try.underlying93; have HB := aK (Below.refl w.heap.size w); have H : (if a0_0.toList = a1_0.toList then (if a0_1 = a1_1 then (some true) else (some false)) else (some false)) = some r := h; clear h; by_cases c3 : a0_0.toList = a1_0.toList
 ·rw [if_pos c3] at H; have c3b0 : (a0_0.toList == a1_0.toList) = true := beq_iff_eq.mpr c3; have c3b1 : (a0_0.toList != a1_0.toList) = false := bE c3; clear c3; by_cases c4 : a0_1 = a1_1
  ·rw [if_pos c4] at H; have c4b0 : (a0_1 == a1_1) = true := beq_iff_eq.mpr c4; have c4b1 : (a0_1 != a1_1) = false := bE c4; clear c4; obtain rfl := oj H
   go_enter Try.func104, Try.ntmps104
   go_wp2_with (first | ((with_reducible refine gD 2 rfl ?_); refine boxZ 2 #[.string a0_0, .int .i64 a0_1] 93 ?_; intro gb106 hg wq1 hbox hb; have BK106 := aK hbox; have GW106 := gW HB hg; replace HB := bS HB hb; clear hb hbox hg) | ((with_reducible refine gD 3 rfl ?_); refine boxZ 3 #[.string a1_0, .int .i64 a1_1] 93 ?_; intro gb107 hg wq2 hbox hb; have BK107 := aK hbox; have GW107 := gW HB hg; replace HB := bS HB hb; have NB106_107 := nl BK106 hg; have NB107_106 := nr BK106 hg; replace BK106 := bv BK106 hb; clear hb hbox hg; have hnbq1 := NB106_107.o; have hncq1 := NB107_106.o; obtain ⟨_, _, _, _⟩ := cf2 BK106; obtain ⟨_, _, _, _⟩ := cf2 BK107))
   go_ret
   exact ⟨fe, bl⟩
  ·rw [if_neg c4] at H; have c4b0 : (a0_1 == a1_1) = false := bN c4; have c4b1 : (a0_1 != a1_1) = true := bne_iff_ne.mpr c4; obtain rfl := oj H
   go_enter Try.func104, Try.ntmps104
   go_wp2_with (first | ((with_reducible refine gD 2 rfl ?_); refine boxZ 2 #[.string a0_0, .int .i64 a0_1] 93 ?_; intro gb106 hg wq1 hbox hb; have BK106 := aK hbox; have GW106 := gW HB hg; replace HB := bS HB hb; clear hb hbox hg) | ((with_reducible refine gD 3 rfl ?_); refine boxZ 3 #[.string a1_0, .int .i64 a1_1] 93 ?_; intro gb107 hg wq2 hbox hb; have BK107 := aK hbox; have GW107 := gW HB hg; replace HB := bS HB hb; have NB106_107 := nl BK106 hg; have NB107_106 := nr BK106 hg; replace BK106 := bv BK106 hb; clear hb hbox hg; have hnbq1 := NB106_107.o; have hncq1 := NB107_106.o; obtain ⟨_, _, _, _⟩ := cf2 BK106; obtain ⟨_, _, _, _⟩ := cf2 BK107))
   go_ret
   exact ⟨fe, bl⟩
 ·rw [if_neg c3] at H; have c3b0 : (a0_0.toList == a1_0.toList) = false := bN c3; have c3b1 : (a0_0.toList != a1_0.toList) = true := bne_iff_ne.mpr c3; obtain rfl := oj H
  go_enter Try.func104, Try.ntmps104
  go_wp2_with (first | ((with_reducible refine gD 2 rfl ?_); refine boxZ 2 #[.string a0_0, .int .i64 a0_1] 93 ?_; intro gb106 hg wq1 hbox hb; have BK106 := aK hbox; have GW106 := gW HB hg; replace HB := bS HB hb; clear hb hbox hg) | ((with_reducible refine gD 3 rfl ?_); refine boxZ 3 #[.string a1_0, .int .i64 a1_1] 93 ?_; intro gb107 hg wq2 hbox hb; have BK107 := aK hbox; have GW107 := gW HB hg; replace HB := bS HB hb; have NB106_107 := nl BK106 hg; have NB107_106 := nr BK106 hg; replace BK106 := bv BK106 hb; clear hb hbox hg; have hnbq1 := NB106_107.o; have hncq1 := NB107_106.o; obtain ⟨_, _, _, _⟩ := cf2 BK106; obtain ⟨_, _, _, _⟩ := cf2 BK107))
  go_ret
  exact ⟨fe, bl⟩
/-! ### laws_eqLinkS: function 56 -/
def laws_eqLinkS.l0 : Nat → List (S93) → List (S93) → Int → Option (Bool)
 | 0, _, _, _ => none
 | k + 1, x0, x1, x5 => if x5 < (x0.length : Int) then (if 0 ≤ x5 then (if x5 < (x1.length : Int) then ((laws_eqLink.f ((rd_T93 x0 x5).f0) ((rd_T93 x0 x5).f1) ((rd_T93 x1 x5).f0) ((rd_T93 x1 x5).f1)).bind fun t110 => (if t110 = true then (laws_eqLinkS.l0 k x0 x1 (wrap64 (x5 + 1))) else (some false))) else (none)) else (none)) else (some true)
def laws_eqLinkS.f (k : Nat) (l0 : List (S93)) (l1 : List (S93)) : Option (Bool) := if (l0.length : Int) = (l1.length : Int) then (laws_eqLinkS.l0 k l0 l1 0) else (some false)
theorem laws_eqLinkS.mono_l : ∀ k, (∀ y0 y1 y2, LeO (laws_eqLinkS.l0 k y0 y1 y2) (laws_eqLinkS.l0 (k + 1) y0 y1 y2))
 | 0 => fun _ _ _ r h => by simp [laws_eqLinkS.l0] at h
 | k + 1 => by
  have ih0 := laws_eqLinkS.mono_l k
  ·intro y0 y1 y2
   unfold laws_eqLinkS.l0
   repeat' first
   | (with_reducible exact ih0 _ _ _)
   | (with_reducible exact LeO.refl _)
   | (with_reducible exact LeO.none _)
   | (with_reducible refine LeO.ite ?_ ?_)
   | (with_reducible refine LeO.bind ?_ (fun _ => ?_))
theorem laws_eqLinkS.mono : ∀ a0 a1 k, LeO (laws_eqLinkS.f k a0 a1) (laws_eqLinkS.f (k + 1) a0 a1) := by
 intro a0 a1 k; have ih0 := laws_eqLinkS.mono_l k; unfold laws_eqLinkS.f
 repeat' first
  | (with_reducible exact ih0 _ _ _)
  | (with_reducible exact LeO.refl _)
  | (with_reducible exact LeO.none _)
  | (with_reducible refine LeO.ite ?_ ?_)
  | (with_reducible refine LeO.bind ?_ (fun _ => ?_))
def laws_eqLinkS.T6 : Bool × List (List Nat × List Nat) := (true, [([], []), ([], []), ([0, 1], [0, 1]), ([2], [2]), ([], []), ([], []), ([4, 5], [4, 5]), ([6], [6]), ([3, 7], [3, 7]), ([8], [8])])
def laws_eqLinkS.B6 : List Nat := [0, 0, 3, 7, 0, 0, 48, 112, 255, 511]
theorem laws_eqLinkS.tab6 : rtab .any (opsOf Try.f56 6) = laws_eqLinkS.T6 := by kernel_rfl
theorem laws_eqLinkS.bits6 : waitsOk laws_eqLinkS.T6.2 laws_eqLinkS.B6 = true := by kernel_rfl
set_option maxHeartbeats 8000000 in
set_option maxRecDepth 100000 in
theorem laws_eqLinkS.calls (k : Nat) (A0 : Option Addr) (c0 : Nat) (l0 : List (S93)) (A1 : Option Addr) (c1 : Nat) (l1 : List (S93)) (r : Bool) (w : World) (hr0 : Kd.C k93 w A0 l0.length l0) (hc0 : l0.length ≤ c0) (hr1 : Kd.C k93 w A1 l1.length l1) (hc1 : l1.length ≤ c1) (h : laws_eqLinkS.f k l0 l1 = some r) :
 Calls Try.prog 56 #[.slice A0 l0.length c0, .slice A1 l1.length c1] w fun e w' => e = .returned (.bool r) ∧ Below w.heap.size w w' := by
 have hu93 := Try.underlying93; have HR0 := aK hr0; have HC0 := aK hc0; clear hr0 hc0; have HR1 := aK hr1; have HC1 := aK hc1; clear hr1 hc1; have HB := aK (Below.refl w.heap.size w); have H : (if (l0.length : Int) = (l1.length : Int) then (laws_eqLinkS.l0 k l0 l1 0) else (some false)) = some r := h; clear h; by_cases c3 : (l0.length : Int) = (l1.length : Int)
 ·rw [if_pos c3] at H; have c3b0 : ((l0.length : Int) == (l1.length : Int)) = true := beq_iff_eq.mpr c3; have c3b1 : ((l0.length : Int) != (l1.length : Int)) = false := bE c3; have c3b2 : (l0.length == l1.length) = true := by first | simpa using c3 | (simp at c3 ⊢; omega)
  clear c3; have H' := aK H; clear H
  go_enter Try.func56, Try.ntmps56
  go_wp2
  go_loopg [5] k (fun kq v5 w' => ∃ (x5_1 : Int), v5 = .int .i64 x5_1 ∧ Aside0 (laws_eqLinkS.l0 kq l0 l1 x5_1 = some r) ∧ Aside0 (kq ≤ k) ∧ Aside0 (Below w.heap.size w w'))
  case atStart => exact ⟨(0), fa, H', ⟨Nat.le_refl _⟩, ⟨bl⟩⟩
  case round =>
   clear H'; (try clear c1); (try clear p2); (try clear c3); (try clear c3b0); (try clear c3b1); (try clear c3b2); obtain ⟨x5_1, rfl, HA, HK1, HB⟩ := hrel; cases gk with
   | zero => exact absurd HA.o (by simp [laws_eqLinkS.l0])
   | succ k1 =>
    have H := HA.o; clear HA; simp only [laws_eqLinkS.l0] at H; by_cases c4 : x5_1 < (l0.length : Int)
    ·rw [if_pos c4] at H; have c4b0 : decide (x5_1 < (l0.length : Int)) = true := dt c4; clear c4; by_cases c5 : 0 ≤ x5_1
     ·rw [if_pos c5] at H; have c5b0 : decide (0 ≤ x5_1) = true := dt c5; clear c5; have Hq_ := aK H; clear H; (try go_wp2); replace HB := aK (below_drew1 HB.o); have p108 : 0 ≤ (x5_1 : Int) := dT am; have q108 : x5_1 < (l0.length : Int) := dT am; obtain ⟨ad108, e108, hx108_0, hx108_1⟩ := at_T93 HR0.o x5_1 p108 q108; have hw108_1 := hx108_1; have hw108_0 := hx108_0; cases e108; replace hx108_0 := cz HB hx108_0; replace hx108_1 := cz HB hx108_1; replace p108 := eq_true p108; replace q108 := eq_true q108; have p109 : 0 ≤ (x5_1 : Int) := dT am; have H := Hq_.o; clear Hq_; by_cases c6 : x5_1 < (l1.length : Int)
      ·rw [if_pos c6] at H; have c6b0 : decide (x5_1 < (l1.length : Int)) = true := dt c6; (try rw [c6b0]); clear c6; obtain ⟨t110, A7, H⟩ := bd H; have Hq_ := aK H; clear H; have q109 : x5_1 < (l1.length : Int) := dT am; obtain ⟨ad109, e109, hx109_0, hx109_1⟩ := at_T93 HR1.o x5_1 p109 q109; have hw109_1 := hx109_1; have hw109_0 := hx109_0; cases e109; replace hx109_0 := cz HB hx109_0; replace hx109_1 := cz HB hx109_1; replace p109 := eq_true p109; replace q109 := eq_true q109; refine start_ (n := 10) (S := fun w' => w'.cell? (ad108.add ((x5_1).toNat * 2)) = some (.string ((rd_T93 l0 x5_1).f0)) ∧ w'.cell? ⟨(ad108.add ((x5_1).toNat * 2)).block, (ad108.add ((x5_1).toNat * 2)).off + 1, none⟩ = some (.int .i64 ((rd_T93 l0 x5_1).f1)) ∧ w'.cell? (ad109.add ((x5_1).toNat * 2)) = some (.string ((rd_T93 l1 x5_1).f0)) ∧ w'.cell? ⟨(ad109.add ((x5_1).toNat * 2)).block, (ad109.add ((x5_1).toNat * 2)).off + 1, none⟩ = some (.int .i64 ((rd_T93 l1 x5_1).f1))) (ds := []) (bo 10 0) (by kernel_rfl) rfl rfl ⟨(cy HB hw108_0), (cy HB hw108_1), (cy HB hw109_0), (cy HB hw109_1)⟩ (fun hHeld => ?_); refine with_tabW laws_eqLinkS.tab6 laws_eqLinkS.bits6 (fun HT_ HW_ => ?_); generalize wr.drew = wr1 at HB hx108_0 hx108_1 hx109_0 hx109_1 hHeld ⊢; refine pV 0 17 (bo 10 1) ?_; refine pV 1 18 (bo 10 3) ?_; refine pV 2 19 (bo 10 7) ?_; refine pV 4 21 (bo 10 23) ?_; refine pV 5 22 (bo 10 55) ?_; refine pV 6 23 (bo 10 119) ?_; refine tV 3 20 (bo 10 127) ?_; refine tV 7 24 (bo 10 255) ?_
       refine o1 8 25 (bo 10 511) (fun K hK => ?_); refine goes_ Try.func104 (by kernel_rfl) rfl #[.agg #[.string ((rd_T93 l0 x5_1).f0), .int .i64 ((rd_T93 l0 x5_1).f1)], .agg #[.string ((rd_T93 l1 x5_1).f0), .int .i64 ((rd_T93 l1 x5_1).f1)]] (by rfl) rfl rfl sa ?_; (with_reducible refine (laws_eqLink.calls ((rd_T93 l0 x5_1).f0) ((rd_T93 l0 x5_1).f1) ((rd_T93 l1 x5_1).f0) ((rd_T93 l1 x5_1).f1) _ _ A7.o).mono ?_); rintro e wr2 ⟨rfl, hb⟩; refine ⟨_, rfl, ?_⟩; replace HB := bS HB hb; (try clear hb hb2 hk hi); refine hK.out _ _ ⟨(cy HB hw108_0), (cy HB hw108_1), (cy HB hw109_0), (cy HB hw109_1)⟩ (fun hHeld => ?_); clear hK K; refine nm 25 ?_; refine pV 9 26 (bo 10 1023) ?_; have H := Hq_.o; clear Hq_; by_cases c8 : t110 = true
       ·subst c8; replace H := iT H; have H' := aK H; clear H; refine done_ (done_of HT_.o (by kernel_rfl)) ?_; (try go_wp2)
        go_roundg k1
        case measure => have := HK1.o; omega
        case rel => exact ⟨(wrap64 (x5_1 + 1)), fa, H', ⟨by have := HK1.o; omega⟩, ⟨bl⟩⟩
       ·replace c8 := bF c8; subst c8; replace H := iF H; obtain rfl := oj H; refine done_ (done_of HT_.o (by kernel_rfl)) ?_; (try go_wp2)
        go_ret
        exact ⟨fe, bl⟩
      ·rw [if_neg c6] at H; exact absurd H (by simp)
     ·rw [if_neg c5] at H; exact absurd H (by simp)
    ·rw [if_neg c4] at H; have c4b0 : decide (x5_1 < (l0.length : Int)) = false := df c4; clear c4; obtain rfl := oj H; go_wp2
     go_ret
     exact ⟨fe, bl⟩
 ·rw [if_neg c3] at H; have c3b0 : ((l0.length : Int) == (l1.length : Int)) = false := bN c3; have c3b1 : ((l0.length : Int) != (l1.length : Int)) = true := bne_iff_ne.mpr c3; have c3b2 : (l0.length == l1.length) = false := by first | simpa using c3 | (simp at c3 ⊢; omega)
  obtain rfl := oj H
  go_enter Try.func56, Try.ntmps56
  go_wp2
  go_ret
  exact ⟨fe, bl⟩
/-! ### laws_eqMove: function 105 -/
def laws_eqMove.f (a0_0 : Int) (a0_1 : ByteArray) (a0_2 : ByteArray) (a0_3 : Int) (a1_0 : Int) (a1_1 : ByteArray) (a1_2 : ByteArray) (a1_3 : Int) : Option (Bool) := if a0_0 = a1_0 then (if a0_1.toList = a1_1.toList then (if a0_2.toList = a1_2.toList then (if a0_3 = a1_3 then (some true) else (some false)) else (some false)) else (some false)) else (some false)
set_option maxHeartbeats 8000000 in
set_option maxRecDepth 100000 in
theorem laws_eqMove.calls (a0_0 : Int) (a0_1 : ByteArray) (a0_2 : ByteArray) (a0_3 : Int) (a1_0 : Int) (a1_1 : ByteArray) (a1_2 : ByteArray) (a1_3 : Int) (r : Bool) (w : World) (h : laws_eqMove.f a0_0 a0_1 a0_2 a0_3 a1_0 a1_1 a1_2 a1_3 = some r) :
 Calls Try.prog 105 #[.agg #[.int .i64 a0_0, .string a0_1, .string a0_2, .int .i64 a0_3], .agg #[.int .i64 a1_0, .string a1_1, .string a1_2, .int .i64 a1_3]] w fun e w' => e = .returned (.bool r) ∧ Below w.heap.size w w' := by
 have hu95 := Try.underlying95; have HB := aK (Below.refl w.heap.size w); have H : (if a0_0 = a1_0 then (if a0_1.toList = a1_1.toList then (if a0_2.toList = a1_2.toList then (if a0_3 = a1_3 then (some true) else (some false)) else (some false)) else (some false)) else (some false)) = some r := h; clear h; by_cases c3 : a0_0 = a1_0
 ·rw [if_pos c3] at H; have c3b0 : (a0_0 == a1_0) = true := beq_iff_eq.mpr c3; have c3b1 : (a0_0 != a1_0) = false := bE c3; clear c3; by_cases c4 : a0_1.toList = a1_1.toList
  ·rw [if_pos c4] at H; have c4b0 : (a0_1.toList == a1_1.toList) = true := beq_iff_eq.mpr c4; have c4b1 : (a0_1.toList != a1_1.toList) = false := bE c4; clear c4; by_cases c5 : a0_2.toList = a1_2.toList
   ·rw [if_pos c5] at H; have c5b0 : (a0_2.toList == a1_2.toList) = true := beq_iff_eq.mpr c5; have c5b1 : (a0_2.toList != a1_2.toList) = false := bE c5; clear c5; by_cases c6 : a0_3 = a1_3
    ·rw [if_pos c6] at H; have c6b0 : (a0_3 == a1_3) = true := beq_iff_eq.mpr c6; have c6b1 : (a0_3 != a1_3) = false := bE c6; clear c6; obtain rfl := oj H
     go_enter Try.func105, Try.ntmps105
     go_wp2_with (first | ((with_reducible refine gD 2 rfl ?_); refine boxZ 2 #[.int .i64 a0_0, .string a0_1, .string a0_2, .int .i64 a0_3] 95 ?_; intro gb111 hg wq1 hbox hb; have BK111 := aK hbox; have GW111 := gW HB hg; replace HB := bS HB hb; clear hb hbox hg) | ((with_reducible refine gD 3 rfl ?_); refine boxZ 3 #[.int .i64 a1_0, .string a1_1, .string a1_2, .int .i64 a1_3] 95 ?_; intro gb112 hg wq2 hbox hb; have BK112 := aK hbox; have GW112 := gW HB hg; replace HB := bS HB hb; have NB111_112 := nl BK111 hg; have NB112_111 := nr BK111 hg; replace BK111 := bv BK111 hb; clear hb hbox hg; have hnbq1 := NB111_112.o; have hncq1 := NB112_111.o; obtain ⟨_, _, _, _, _, _, _, _⟩ := cf4 BK111; obtain ⟨_, _, _, _, _, _, _, _⟩ := cf4 BK112))
     go_ret
     exact ⟨fe, bl⟩
    ·rw [if_neg c6] at H; have c6b0 : (a0_3 == a1_3) = false := bN c6; have c6b1 : (a0_3 != a1_3) = true := bne_iff_ne.mpr c6; obtain rfl := oj H
     go_enter Try.func105, Try.ntmps105
     go_wp2_with (first | ((with_reducible refine gD 2 rfl ?_); refine boxZ 2 #[.int .i64 a0_0, .string a0_1, .string a0_2, .int .i64 a0_3] 95 ?_; intro gb111 hg wq1 hbox hb; have BK111 := aK hbox; have GW111 := gW HB hg; replace HB := bS HB hb; clear hb hbox hg) | ((with_reducible refine gD 3 rfl ?_); refine boxZ 3 #[.int .i64 a1_0, .string a1_1, .string a1_2, .int .i64 a1_3] 95 ?_; intro gb112 hg wq2 hbox hb; have BK112 := aK hbox; have GW112 := gW HB hg; replace HB := bS HB hb; have NB111_112 := nl BK111 hg; have NB112_111 := nr BK111 hg; replace BK111 := bv BK111 hb; clear hb hbox hg; have hnbq1 := NB111_112.o; have hncq1 := NB112_111.o; obtain ⟨_, _, _, _, _, _, _, _⟩ := cf4 BK111; obtain ⟨_, _, _, _, _, _, _, _⟩ := cf4 BK112))
     go_ret
     exact ⟨fe, bl⟩
   ·rw [if_neg c5] at H; have c5b0 : (a0_2.toList == a1_2.toList) = false := bN c5; have c5b1 : (a0_2.toList != a1_2.toList) = true := bne_iff_ne.mpr c5; obtain rfl := oj H
    go_enter Try.func105, Try.ntmps105
    go_wp2_with (first | ((with_reducible refine gD 2 rfl ?_); refine boxZ 2 #[.int .i64 a0_0, .string a0_1, .string a0_2, .int .i64 a0_3] 95 ?_; intro gb111 hg wq1 hbox hb; have BK111 := aK hbox; have GW111 := gW HB hg; replace HB := bS HB hb; clear hb hbox hg) | ((with_reducible refine gD 3 rfl ?_); refine boxZ 3 #[.int .i64 a1_0, .string a1_1, .string a1_2, .int .i64 a1_3] 95 ?_; intro gb112 hg wq2 hbox hb; have BK112 := aK hbox; have GW112 := gW HB hg; replace HB := bS HB hb; have NB111_112 := nl BK111 hg; have NB112_111 := nr BK111 hg; replace BK111 := bv BK111 hb; clear hb hbox hg; have hnbq1 := NB111_112.o; have hncq1 := NB112_111.o; obtain ⟨_, _, _, _, _, _, _, _⟩ := cf4 BK111; obtain ⟨_, _, _, _, _, _, _, _⟩ := cf4 BK112))
    go_ret
    exact ⟨fe, bl⟩
  ·rw [if_neg c4] at H; have c4b0 : (a0_1.toList == a1_1.toList) = false := bN c4; have c4b1 : (a0_1.toList != a1_1.toList) = true := bne_iff_ne.mpr c4; obtain rfl := oj H
   go_enter Try.func105, Try.ntmps105
   go_wp2_with (first | ((with_reducible refine gD 2 rfl ?_); refine boxZ 2 #[.int .i64 a0_0, .string a0_1, .string a0_2, .int .i64 a0_3] 95 ?_; intro gb111 hg wq1 hbox hb; have BK111 := aK hbox; have GW111 := gW HB hg; replace HB := bS HB hb; clear hb hbox hg) | ((with_reducible refine gD 3 rfl ?_); refine boxZ 3 #[.int .i64 a1_0, .string a1_1, .string a1_2, .int .i64 a1_3] 95 ?_; intro gb112 hg wq2 hbox hb; have BK112 := aK hbox; have GW112 := gW HB hg; replace HB := bS HB hb; have NB111_112 := nl BK111 hg; have NB112_111 := nr BK111 hg; replace BK111 := bv BK111 hb; clear hb hbox hg; have hnbq1 := NB111_112.o; have hncq1 := NB112_111.o; obtain ⟨_, _, _, _, _, _, _, _⟩ := cf4 BK111; obtain ⟨_, _, _, _, _, _, _, _⟩ := cf4 BK112))
   go_ret
   exact ⟨fe, bl⟩
 ·rw [if_neg c3] at H; have c3b0 : (a0_0 == a1_0) = false := bN c3; have c3b1 : (a0_0 != a1_0) = true := bne_iff_ne.mpr c3; obtain rfl := oj H
  go_enter Try.func105, Try.ntmps105
  go_wp2_with (first | ((with_reducible refine gD 2 rfl ?_); refine boxZ 2 #[.int .i64 a0_0, .string a0_1, .string a0_2, .int .i64 a0_3] 95 ?_; intro gb111 hg wq1 hbox hb; have BK111 := aK hbox; have GW111 := gW HB hg; replace HB := bS HB hb; clear hb hbox hg) | ((with_reducible refine gD 3 rfl ?_); refine boxZ 3 #[.int .i64 a1_0, .string a1_1, .string a1_2, .int .i64 a1_3] 95 ?_; intro gb112 hg wq2 hbox hb; have BK112 := aK hbox; have GW112 := gW HB hg; replace HB := bS HB hb; have NB111_112 := nl BK111 hg; have NB112_111 := nr BK111 hg; replace BK111 := bv BK111 hb; clear hb hbox hg; have hnbq1 := NB111_112.o; have hncq1 := NB112_111.o; obtain ⟨_, _, _, _, _, _, _, _⟩ := cf4 BK111; obtain ⟨_, _, _, _, _, _, _, _⟩ := cf4 BK112))
  go_ret
  exact ⟨fe, bl⟩
/-! ### laws_eqMoveS: function 57 -/
def laws_eqMoveS.l0 : Nat → List (S95) → List (S95) → Int → Option (Bool)
 | 0, _, _, _ => none
 | k + 1, x0, x1, x5 => if x5 < (x0.length : Int) then (if 0 ≤ x5 then (if x5 < (x1.length : Int) then ((laws_eqMove.f ((rd_T95 x0 x5).f0) ((rd_T95 x0 x5).f1) ((rd_T95 x0 x5).f2) ((rd_T95 x0 x5).f3) ((rd_T95 x1 x5).f0) ((rd_T95 x1 x5).f1) ((rd_T95 x1 x5).f2) ((rd_T95 x1 x5).f3)).bind fun t115 => (if t115 = true then (laws_eqMoveS.l0 k x0 x1 (wrap64 (x5 + 1))) else (some false))) else (none)) else (none)) else (some true)
def laws_eqMoveS.f (k : Nat) (l0 : List (S95)) (l1 : List (S95)) : Option (Bool) := if (l0.length : Int) = (l1.length : Int) then (laws_eqMoveS.l0 k l0 l1 0) else (some false)
theorem laws_eqMoveS.mono_l : ∀ k, (∀ y0 y1 y2, LeO (laws_eqMoveS.l0 k y0 y1 y2) (laws_eqMoveS.l0 (k + 1) y0 y1 y2))
 | 0 => fun _ _ _ r h => by simp [laws_eqMoveS.l0] at h
 | k + 1 => by
  have ih0 := laws_eqMoveS.mono_l k
  ·intro y0 y1 y2
   unfold laws_eqMoveS.l0
   repeat' first
   | (with_reducible exact ih0 _ _ _)
   | (with_reducible exact LeO.refl _)
   | (with_reducible exact LeO.none _)
   | (with_reducible refine LeO.ite ?_ ?_)
   | (with_reducible refine LeO.bind ?_ (fun _ => ?_))
theorem laws_eqMoveS.mono : ∀ a0 a1 k, LeO (laws_eqMoveS.f k a0 a1) (laws_eqMoveS.f (k + 1) a0 a1) := by
 intro a0 a1 k; have ih0 := laws_eqMoveS.mono_l k; unfold laws_eqMoveS.f
 repeat' first
  | (with_reducible exact ih0 _ _ _)
  | (with_reducible exact LeO.refl _)
  | (with_reducible exact LeO.none _)
  | (with_reducible refine LeO.ite ?_ ?_)
  | (with_reducible refine LeO.bind ?_ (fun _ => ?_))
def laws_eqMoveS.T6 : Bool × List (List Nat × List Nat) := (true, [([], []), ([], []), ([0, 1], [0, 1]), ([2], [2]), ([], []), ([], []), ([4, 5], [4, 5]), ([6], [6]), ([3, 7], [3, 7]), ([8], [8])])
def laws_eqMoveS.B6 : List Nat := [0, 0, 3, 7, 0, 0, 48, 112, 255, 511]
theorem laws_eqMoveS.tab6 : rtab .any (opsOf Try.f57 6) = laws_eqMoveS.T6 := by kernel_rfl
theorem laws_eqMoveS.bits6 : waitsOk laws_eqMoveS.T6.2 laws_eqMoveS.B6 = true := by kernel_rfl
set_option maxHeartbeats 8000000 in
set_option maxRecDepth 100000 in
theorem laws_eqMoveS.calls (k : Nat) (A0 : Option Addr) (c0 : Nat) (l0 : List (S95)) (A1 : Option Addr) (c1 : Nat) (l1 : List (S95)) (r : Bool) (w : World) (hr0 : Kd.C k95 w A0 l0.length l0) (hc0 : l0.length ≤ c0) (hr1 : Kd.C k95 w A1 l1.length l1) (hc1 : l1.length ≤ c1) (h : laws_eqMoveS.f k l0 l1 = some r) :
 Calls Try.prog 57 #[.slice A0 l0.length c0, .slice A1 l1.length c1] w fun e w' => e = .returned (.bool r) ∧ Below w.heap.size w w' := by
 have hu95 := Try.underlying95; have HR0 := aK hr0; have HC0 := aK hc0; clear hr0 hc0; have HR1 := aK hr1; have HC1 := aK hc1; clear hr1 hc1; have HB := aK (Below.refl w.heap.size w); have H : (if (l0.length : Int) = (l1.length : Int) then (laws_eqMoveS.l0 k l0 l1 0) else (some false)) = some r := h; clear h; by_cases c3 : (l0.length : Int) = (l1.length : Int)
 ·rw [if_pos c3] at H; have c3b0 : ((l0.length : Int) == (l1.length : Int)) = true := beq_iff_eq.mpr c3; have c3b1 : ((l0.length : Int) != (l1.length : Int)) = false := bE c3; have c3b2 : (l0.length == l1.length) = true := by first | simpa using c3 | (simp at c3 ⊢; omega)
  clear c3; have H' := aK H; clear H
  go_enter Try.func57, Try.ntmps57
  go_wp2
  go_loopg [5] k (fun kq v5 w' => ∃ (x5_1 : Int), v5 = .int .i64 x5_1 ∧ Aside0 (laws_eqMoveS.l0 kq l0 l1 x5_1 = some r) ∧ Aside0 (kq ≤ k) ∧ Aside0 (Below w.heap.size w w'))
  case atStart => exact ⟨(0), fa, H', ⟨Nat.le_refl _⟩, ⟨bl⟩⟩
  case round =>
   clear H'; (try clear c1); (try clear p2); (try clear c3); (try clear c3b0); (try clear c3b1); (try clear c3b2); obtain ⟨x5_1, rfl, HA, HK1, HB⟩ := hrel; cases gk with
   | zero => exact absurd HA.o (by simp [laws_eqMoveS.l0])
   | succ k1 =>
    have H := HA.o; clear HA; simp only [laws_eqMoveS.l0] at H; by_cases c4 : x5_1 < (l0.length : Int)
    ·rw [if_pos c4] at H; have c4b0 : decide (x5_1 < (l0.length : Int)) = true := dt c4; clear c4; by_cases c5 : 0 ≤ x5_1
     ·rw [if_pos c5] at H; have c5b0 : decide (0 ≤ x5_1) = true := dt c5; clear c5; have Hq_ := aK H; clear H; (try go_wp2); replace HB := aK (below_drew1 HB.o); have p113 : 0 ≤ (x5_1 : Int) := dT am; have q113 : x5_1 < (l0.length : Int) := dT am; obtain ⟨ad113, e113, hx113_0, hx113_1, hx113_2, hx113_3⟩ := at_T95 HR0.o x5_1 p113 q113; have hw113_3 := hx113_3; have hw113_2 := hx113_2; have hw113_1 := hx113_1; have hw113_0 := hx113_0; cases e113; replace hx113_0 := cz HB hx113_0; replace hx113_1 := cz HB hx113_1; replace hx113_2 := cz HB hx113_2; replace hx113_3 := cz HB hx113_3; replace p113 := eq_true p113; replace q113 := eq_true q113; have p114 : 0 ≤ (x5_1 : Int) := dT am; have H := Hq_.o; clear Hq_; by_cases c6 : x5_1 < (l1.length : Int)
      ·rw [if_pos c6] at H; have c6b0 : decide (x5_1 < (l1.length : Int)) = true := dt c6; (try rw [c6b0]); clear c6; obtain ⟨t115, A7, H⟩ := bd H; have Hq_ := aK H; clear H; have q114 : x5_1 < (l1.length : Int) := dT am; obtain ⟨ad114, e114, hx114_0, hx114_1, hx114_2, hx114_3⟩ := at_T95 HR1.o x5_1 p114 q114; have hw114_3 := hx114_3; have hw114_2 := hx114_2; have hw114_1 := hx114_1; have hw114_0 := hx114_0; cases e114; replace hx114_0 := cz HB hx114_0; replace hx114_1 := cz HB hx114_1; replace hx114_2 := cz HB hx114_2; replace hx114_3 := cz HB hx114_3; replace p114 := eq_true p114; replace q114 := eq_true q114
       refine start_ (n := 10) (S := fun w' => w'.cell? (ad113.add ((x5_1).toNat * 4)) = some (.int .i64 ((rd_T95 l0 x5_1).f0)) ∧ w'.cell? ⟨(ad113.add ((x5_1).toNat * 4)).block, (ad113.add ((x5_1).toNat * 4)).off + 1, none⟩ = some (.string ((rd_T95 l0 x5_1).f1)) ∧ w'.cell? ⟨(ad113.add ((x5_1).toNat * 4)).block, (ad113.add ((x5_1).toNat * 4)).off + 2, none⟩ = some (.string ((rd_T95 l0 x5_1).f2)) ∧ w'.cell? ⟨(ad113.add ((x5_1).toNat * 4)).block, (ad113.add ((x5_1).toNat * 4)).off + 3, none⟩ = some (.int .i64 ((rd_T95 l0 x5_1).f3)) ∧ w'.cell? (ad114.add ((x5_1).toNat * 4)) = some (.int .i64 ((rd_T95 l1 x5_1).f0)) ∧ w'.cell? ⟨(ad114.add ((x5_1).toNat * 4)).block, (ad114.add ((x5_1).toNat * 4)).off + 1, none⟩ = some (.string ((rd_T95 l1 x5_1).f1)) ∧ w'.cell? ⟨(ad114.add ((x5_1).toNat * 4)).block, (ad114.add ((x5_1).toNat * 4)).off + 2, none⟩ = some (.string ((rd_T95 l1 x5_1).f2)) ∧ w'.cell? ⟨(ad114.add ((x5_1).toNat * 4)).block, (ad114.add ((x5_1).toNat * 4)).off + 3, none⟩ = some (.int .i64 ((rd_T95 l1 x5_1).f3))) (ds := []) (bo 10 0) (by kernel_rfl) rfl rfl ⟨(cy HB hw113_0), (cy HB hw113_1), (cy HB hw113_2), (cy HB hw113_3), (cy HB hw114_0), (cy HB hw114_1), (cy HB hw114_2), (cy HB hw114_3)⟩ (fun hHeld => ?_); refine with_tabW laws_eqMoveS.tab6 laws_eqMoveS.bits6 (fun HT_ HW_ => ?_); generalize wr.drew = wr1 at HB hx113_0 hx113_1 hx113_2 hx113_3 hx114_0 hx114_1 hx114_2 hx114_3 hHeld ⊢; refine pV 0 17 (bo 10 1) ?_; refine pV 1 18 (bo 10 3) ?_; refine pV 2 19 (bo 10 7) ?_
       refine pV 4 21 (bo 10 23) ?_; refine pV 5 22 (bo 10 55) ?_; refine pV 6 23 (bo 10 119) ?_; refine tV 3 20 (bo 10 127) ?_; refine tV 7 24 (bo 10 255) ?_; refine o1 8 25 (bo 10 511) (fun K hK => ?_); refine goes_ Try.func105 (by kernel_rfl) rfl #[.agg #[.int .i64 ((rd_T95 l0 x5_1).f0), .string ((rd_T95 l0 x5_1).f1), .string ((rd_T95 l0 x5_1).f2), .int .i64 ((rd_T95 l0 x5_1).f3)], .agg #[.int .i64 ((rd_T95 l1 x5_1).f0), .string ((rd_T95 l1 x5_1).f1), .string ((rd_T95 l1 x5_1).f2), .int .i64 ((rd_T95 l1 x5_1).f3)]] (by rfl) rfl rfl sa ?_; (with_reducible refine (laws_eqMove.calls ((rd_T95 l0 x5_1).f0) ((rd_T95 l0 x5_1).f1) ((rd_T95 l0 x5_1).f2) ((rd_T95 l0 x5_1).f3) ((rd_T95 l1 x5_1).f0) ((rd_T95 l1 x5_1).f1) ((rd_T95 l1 x5_1).f2) ((rd_T95 l1 x5_1).f3) _ _ A7.o).mono ?_); rintro e wr2 ⟨rfl, hb⟩; refine ⟨_, rfl, ?_⟩; replace HB := bS HB hb; (try clear hb hb2 hk hi); refine hK.out _ _ ⟨(cy HB hw113_0), (cy HB hw113_1), (cy HB hw113_2), (cy HB hw113_3), (cy HB hw114_0), (cy HB hw114_1), (cy HB hw114_2), (cy HB hw114_3)⟩ (fun hHeld => ?_); clear hK K; refine nm 25 ?_; refine pV 9 26 (bo 10 1023) ?_; have H := Hq_.o; clear Hq_; by_cases c8 : t115 = true
       ·subst c8; replace H := iT H; have H' := aK H; clear H; refine done_ (done_of HT_.o (by kernel_rfl)) ?_; (try go_wp2)
        go_roundg k1
        case measure => have := HK1.o; omega
        case rel => exact ⟨(wrap64 (x5_1 + 1)), fa, H', ⟨by have := HK1.o; omega⟩, ⟨bl⟩⟩
       ·replace c8 := bF c8; subst c8; replace H := iF H; obtain rfl := oj H; refine done_ (done_of HT_.o (by kernel_rfl)) ?_; (try go_wp2)
        go_ret
        exact ⟨fe, bl⟩
      ·rw [if_neg c6] at H; exact absurd H (by simp)
     ·rw [if_neg c5] at H; exact absurd H (by simp)
    ·rw [if_neg c4] at H; have c4b0 : decide (x5_1 < (l0.length : Int)) = false := df c4; clear c4; obtain rfl := oj H; go_wp2
     go_ret
     exact ⟨fe, bl⟩
 ·rw [if_neg c3] at H; have c3b0 : ((l0.length : Int) == (l1.length : Int)) = false := bN c3; have c3b1 : ((l0.length : Int) != (l1.length : Int)) = true := bne_iff_ne.mpr c3; have c3b2 : (l0.length == l1.length) = false := by first | simpa using c3 | (simp at c3 ⊢; omega)
  obtain rfl := oj H
  go_enter Try.func57, Try.ntmps57
  go_wp2
  go_ret
  exact ⟨fe, bl⟩
end Go.Proofs.Ytjcmcamijaelbaa.PDisk
