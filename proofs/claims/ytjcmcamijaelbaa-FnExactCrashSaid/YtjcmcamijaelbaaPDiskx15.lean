/- Functions of the program, each with its contract, written by a program out of the translation. -/
import Derived.Test.YtjcmcamijaelbaaPDiskx0
import Derived.Test.YtjcmcamijaelbaaPDiskxH
import Derived.Test.YtjcmcamijaelbaaPDiskx7
import Derived.Test.YtjcmcamijaelbaaPDiskx12
import Derived.Test.YtjcmcamijaelbaaPDiskx13
import Derived.Test.YtjcmcamijaelbaaZap
namespace Go.Proofs.Ytjcmcamijaelbaa.PDisk
open Go.RowKit Go.Proofs.YtjcmcamijaelbaaW.PrintWords Go.Proofs.YtjcmcamijaelbaaW.PrintLast Go.Proofs.YtjcmcamijaelbaaW.PrintMore Go.Proofs.Ytjcmcamijaelbaa.Zip
attribute [local go_sem] max2_int min2_int max_two min_two max_three min_three max_four min_four   -- for this text's walks alone
set_option linter.unusedVariables false
set_option linter.unusedSimpArgs false
/-! ### impl_names: function 93 -/
def impl_names.l0 : Nat → List (S93) → List (S95) → Int → Int → Option ((List (S93)))
 | 0, _, _, _, _ => none
 | k + 1, x0, x9, x10, x11 => if x11 < x10 then (if 0 ≤ x11 then (if x11 < (x9.length : Int) then ((impl_applied.f k x0 ((rd_T95 x9 x11).f0) ((rd_T95 x9 x11).f1) ((rd_T95 x9 x11).f2) ((rd_T95 x9 x11).f3)).bind fun bt390 => (impl_names.l0 k bt390.1 x9 x10 (wrap64 (x11 + 1)))) else (none)) else (none)) else (some x0)
def impl_names.f (k : Nat) (l0 : List (S93)) (l1 : List (S95)) : Option ((List (S93))) := (impl_Link_138.f l0).bind fun t385 => (impl_names.l0 k t385 l1 (l1.length : Int) 0)
theorem impl_names.mono_l : ∀ k, (∀ y0 y1 y2 y3, LeO (impl_names.l0 k y0 y1 y2 y3) (impl_names.l0 (k + 1) y0 y1 y2 y3))
 | 0 => fun _ _ _ _ r h => by simp [impl_names.l0] at h
 | k + 1 => by
  have ih0 := impl_names.mono_l k
  ·intro y0 y1 y2 y3
   unfold impl_names.l0
   repeat' first
   | (with_reducible exact ih0 _ _ _ _)
   | (with_reducible exact impl_applied.mono _ _ _ _ _ _)
   | (with_reducible exact LeO.refl _)
   | (with_reducible exact LeO.none _)
   | (with_reducible refine LeO.ite ?_ ?_)
   | (with_reducible refine LeO.bind ?_ (fun _ => ?_))
theorem impl_names.mono : ∀ a0 a1 k, LeO (impl_names.f k a0 a1) (impl_names.f (k + 1) a0 a1) := by
 intro a0 a1 k; have ih0 := impl_names.mono_l k; unfold impl_names.f
 repeat' first
  | (with_reducible exact ih0 _ _ _ _)
  | (with_reducible exact impl_applied.mono _ _ _ _ _ _)
  | (with_reducible exact LeO.refl _)
  | (with_reducible exact LeO.none _)
  | (with_reducible refine LeO.ite ?_ ?_)
  | (with_reducible refine LeO.bind ?_ (fun _ => ?_))
set_option maxHeartbeats 8000000 in
set_option maxRecDepth 100000 in
theorem impl_names.calls (k : Nat) (A0 : Option Addr) (c0 : Nat) (l0 : List (S93)) (A1 : Option Addr) (c1 : Nat) (l1 : List (S95)) (r : List (S93)) (w : World) (hr0 : Kd.C k93 w A0 l0.length l0) (hc0 : l0.length ≤ c0) (hr1 : Kd.C k95 w A1 l1.length l1) (hc1 : l1.length ≤ c1) (h : impl_names.f k l0 l1 = some r) :
 Calls Try.prog 93 #[.slice A0 l0.length c0, .slice A1 l1.length c1] w fun e w' => ∃ v0_ : Value, e = .returned (v0_) ∧ Kd.R k93 93 w' w.heap.size (fun _ => True) v0_ r ∧ Below w.heap.size w w' := by
 have hu95 := Try.underlying95; have HR0 := aK hr0; have HC0 := aK hc0; clear hr0 hc0; have HR1 := aK hr1; have HC1 := aK hc1; clear hr1 hc1; have HB := aK (Below.refl w.heap.size w); have H : ((impl_Link_138.f l0).bind fun t385 => (impl_names.l0 k t385 l1 (l1.length : Int) 0)) = some r := h; clear h; obtain ⟨t385, A3, H⟩ := bd H; have H' := aK H; clear H
 go_enter Try.func93, Try.ntmps93
 go_wp2_with (first | ((with_reducible refine gC 138 rfl ?_); refine goesZ (some 8) rfl Try.func138 #[.slice A0 l0.length c0] ?_; (with_reducible refine (impl_Link_138.calls _ _ l0 t385 _ ?_ ?_ A3.o).mono ?_); exact ca HR0.o; exact HC0.o; rintro e w4 ⟨v386, rfl, ho0, hb⟩; refine ⟨_, rfl, ?_⟩; have HO387 := rl HB ho0; replace HB := bS HB hb; (try clear hb ho0)))
 go_loopg [0, 11] k (fun kq v0 v11 w' => ∃ (x0_1 : List (S93)) (x11_1 : Int), v11 = .int .i64 x11_1 ∧ Aside0 (impl_names.l0 kq x0_1 l1 (l1.length : Int) x11_1 = some r) ∧ Aside0 (kq ≤ k) ∧ Aside0 (Kd.R k93 93 w' w.heap.size (fun _ => True) v0 x0_1) ∧ Aside0 (Below w.heap.size w w'))
 case atStart => exact ⟨(t385), (0), fa, H', ⟨Nat.le_refl _⟩, ⟨rpR HO387.o⟩, ⟨bl⟩⟩
 case round =>
  clear H'; (try clear c1); (try clear p2); obtain ⟨x0_1, x11_1, rfl, HA, HK1, HO_0, HB⟩ := hrel; cases gk with
  | zero => exact absurd HA.o (by simp [impl_names.l0])
  | succ k1 =>
   have H := HA.o; clear HA; simp only [impl_names.l0] at H; by_cases c5 : x11_1 < (l1.length : Int)
   ·rw [if_pos c5] at H; have c5b0 : decide (x11_1 < (l1.length : Int)) = true := dt c5; clear c5; by_cases c6 : 0 ≤ x11_1
    ·rw [if_pos c6] at H; have c6b0 : decide (0 ≤ x11_1) = true := dt c6; clear c6; by_cases c7 : x11_1 < (l1.length : Int)
     ·rw [if_pos c7] at H; have c7b0 : decide (x11_1 < (l1.length : Int)) = true := dt c7; clear c7; replace H := oB H; obtain ⟨⟨t390, t393⟩, A80, H⟩ := H; replace H : (impl_names.l0 k1 t390 l1 (l1.length : Int) (wrap64 (x11_1 + 1))) = some r := H; have A8 := aK A80; clear A80; have H' := aK H; clear H; have pq1 : 0 ≤ (x11_1 : Int) := dT am; have qq1 : x11_1 < (l1.length : Int) := dT am; obtain ⟨adq1, eq1, hxq1_0, hxq1_1, hxq1_2, hxq1_3⟩ := at_T95 HR1.o x11_1 pq1 qq1; cases eq1; replace hxq1_0 := cz HB hxq1_0; replace hxq1_1 := cz HB hxq1_1; replace hxq1_2 := cz HB hxq1_2; replace hxq1_3 := cz HB hxq1_3; replace pq1 := eq_true pq1; replace qq1 := eq_true qq1
      go_wp2_with (first | ((with_reducible refine gD 6 rfl ?_); refine boxZ 6 #[.int .i64 0, .string (⟨#[]⟩ : ByteArray), .string (⟨#[]⟩ : ByteArray), .int .i64 0] 95 ?_; intro gbq1 hg wq1 hbox hb; replace HO_0 := rb HO_0 hb; have BKq1 := aK hbox; have GWq1 := gW HB hg; replace HB := bS HB hb; clear hb hbox hg; obtain ⟨_, _, _, _, _, _, _, _⟩ := cf4 BKq1; obtain ⟨Aoq1, coq1, rfl⟩ := rs HO_0) | ((with_reducible refine gC 89 rfl ?_); refine goesZ (some 18) rfl Try.func89 #[.slice Aoq1 x0_1.length coq1, .agg #[.int .i64 ((rd_T95 l1 x11_1).f0), .string ((rd_T95 l1 x11_1).f1), .string ((rd_T95 l1 x11_1).f2), .int .i64 ((rd_T95 l1 x11_1).f3)]] ?_; (with_reducible refine (impl_applied.calls k1 _ _ x0_1 ((rd_T95 l1 x11_1).f0) ((rd_T95 l1 x11_1).f1) ((rd_T95 l1 x11_1).f2) ((rd_T95 l1 x11_1).f3) t390 t393 _ ?_ ?_ A8.o).mono ?_); exact cR (rpR (f4 HO_0 BKq1)); exact cl HO_0; rintro e wq2 ⟨vq1, rfl, ho0, hb⟩; refine ⟨_, rfl, ?_⟩; have HOq1 := rl HB (Kd.R_new' ho0 (Kd.R_lt (rpR (f4 HO_0 BKq1)))); replace HO_0 := re (f4 HO_0 BKq1) ho0 hb; replace BKq1 := aK (blk_below (g := gbq1) (o := .cells #[.int .i64 ((rd_T95 l1 x11_1).f0), .string ((rd_T95 l1 x11_1).f1), .string ((rd_T95 l1 x11_1).f2), .int .i64 ((rd_T95 l1 x11_1).f3)] 95 (0, 0)) bkk hb); replace HB := bS HB hb; (try clear hb ho0)))
      go_roundg k1
      case measure => have := HK1.o; omega
      case rel => exact ⟨(t390), (wrap64 (x11_1 + 1)), fa, H', ⟨by have := HK1.o; omega⟩, ⟨rpR (rM HOq1.o (fun _ hk => trivial))⟩, ⟨bl⟩⟩
     ·rw [if_neg c7] at H; exact absurd H (by simp)
    ·rw [if_neg c6] at H; exact absurd H (by simp)
   ·rw [if_neg c5] at H; have c5b0 : decide (x11_1 < (l1.length : Int)) = false := df c5; clear c5; obtain rfl := oj H; go_wp2
    go_ret
    exact ⟨_, fe, rpR HO_0.o, bl⟩
/-! ### impl_find: function 91 -/
def impl_find.f (k : Nat) (a0_0 : Int) (a0_1 : Int) (l0_2 : List (S89)) (l0_3 : List (S93)) (l0_4 : List (S95)) (a1 : ByteArray) : Option (Int) := (impl_names.f k l0_3 l0_4).bind fun t395 => ((impl_linkAt.f t395 a1).bind fun bt398 => (if bt398.2 = true then (if 0 ≤ bt398.1 then (if bt398.1 < (t395.length : Int) then ((impl_inodeAt.f a0_0 a0_1 l0_2 l0_3 l0_4 ((rd_T93 t395 bt398.1).f1)).bind fun t401 => (some t401)) else (none)) else (none)) else (some (-1))))
theorem impl_find.mono : ∀ a0 a1 a2 a3 a4 a5 k, LeO (impl_find.f k a0 a1 a2 a3 a4 a5) (impl_find.f (k + 1) a0 a1 a2 a3 a4 a5) := by
 intro a0 a1 a2 a3 a4 a5 k; unfold impl_find.f
 repeat' first
  | (with_reducible exact impl_names.mono _ _ _)
  | (with_reducible exact LeO.refl _)
  | (with_reducible exact LeO.none _)
  | (with_reducible refine LeO.ite ?_ ?_)
  | (with_reducible refine LeO.bind ?_ (fun _ => ?_))
def impl_find.T5 : Bool × List (List Nat × List Nat) := (true, [([], []), ([], []), ([], []), ([1, 2], [1, 2]), ([3], [3]), ([4], [4]), ([0, 5], [0, 5]), ([6, 6, 0, 1, 2, 3, 4, 5, 6], [6])])
def impl_find.B5 : List Nat := [0, 0, 0, 6, 14, 30, 63, 127]
theorem impl_find.tab5 : rtab .any (opsOf Try.f91 5) = impl_find.T5 := by kernel_rfl
theorem impl_find.bits5 : waitsOk impl_find.T5.2 impl_find.B5 = true := by kernel_rfl
set_option maxHeartbeats 8000000 in
set_option maxRecDepth 100000 in
theorem impl_find.calls (k : Nat) (a0_0 : Int) (a0_1 : Int) (A0_2 : Option Addr) (c0_2 : Nat) (l0_2 : List (S89)) (A0_3 : Option Addr) (c0_3 : Nat) (l0_3 : List (S93)) (A0_4 : Option Addr) (c0_4 : Nat) (l0_4 : List (S95)) (a1 : ByteArray) (r : Int) (w : World) (hr0_2 : Kd.C k89 w A0_2 l0_2.length l0_2) (hc0_2 : l0_2.length ≤ c0_2) (hr0_3 : Kd.C k93 w A0_3 l0_3.length l0_3) (hc0_3 : l0_3.length ≤ c0_3) (hr0_4 : Kd.C k95 w A0_4 l0_4.length l0_4) (hc0_4 : l0_4.length ≤ c0_4) (h : impl_find.f k a0_0 a0_1 l0_2 l0_3 l0_4 a1 = some r) :
 Calls Try.prog 91 #[.agg #[.int .i64 a0_0, .int .i64 a0_1, .slice A0_2 l0_2.length c0_2, .slice A0_3 l0_3.length c0_3, .slice A0_4 l0_4.length c0_4], .string a1] w fun e w' => e = .returned (.int .i64 r) ∧ Below w.heap.size w w' := by
 have hu26 := Try.underlying26; have HR0_2 := aK hr0_2; have HC0_2 := aK hc0_2; clear hr0_2 hc0_2; have HR0_3 := aK hr0_3; have HC0_3 := aK hc0_3; clear hr0_3 hc0_3; have HR0_4 := aK hr0_4; have HC0_4 := aK hc0_4; clear hr0_4 hc0_4; have HB := aK (Below.refl w.heap.size w); have H : ((impl_names.f k l0_3 l0_4).bind fun t395 => ((impl_linkAt.f t395 a1).bind fun bt398 => (if bt398.2 = true then (if 0 ≤ bt398.1 then (if bt398.1 < (t395.length : Int) then ((impl_inodeAt.f a0_0 a0_1 l0_2 l0_3 l0_4 ((rd_T93 t395 bt398.1).f1)).bind fun t401 => (some t401)) else (none)) else (none)) else (some (-1))))) = some r := h; clear h; obtain ⟨t395, A3, H⟩ := bd H; replace H := oB H; obtain ⟨⟨t398, t399⟩, A40, H⟩ := H; replace H : (if t399 = true then (if 0 ≤ t398 then (if t398 < (t395.length : Int) then ((impl_inodeAt.f a0_0 a0_1 l0_2 l0_3 l0_4 ((rd_T93 t395 t398).f1)).bind fun t401 => (some t401)) else (none)) else (none)) else (some (-1))) = some r := H; have A4 := aK A40; clear A40; by_cases c5 : t399 = true
 ·subst c5; replace H := iT H; by_cases c6 : 0 ≤ t398
  ·rw [if_pos c6] at H; have c6b0 : decide (0 ≤ t398) = true := dt c6; clear c6; by_cases c7 : t398 < (t395.length : Int)
   ·rw [if_pos c7] at H; have c7b0 : decide (t398 < (t395.length : Int)) = true := dt c7; clear c7; obtain ⟨t401, A8, H⟩ := bd H; obtain rfl := oj H
    go_enter Try.func91, Try.ntmps91
    (try go_wp2_with (first | ((with_reducible refine gD 2 rfl ?_); refine boxZ 2 #[.int .i64 a0_0, .int .i64 a0_1, .slice A0_2 l0_2.length c0_2, .slice A0_3 l0_3.length c0_3, .slice A0_4 l0_4.length c0_4] 26 ?_; intro gb394 hg wq1 hbox hb; have BK394 := aK hbox; have GW394 := gW HB hg; replace HB := bS HB hb; clear hb hbox hg; obtain ⟨_, _, _, _, _, _, _, _, _, _⟩ := cf5 BK394) | ((with_reducible refine gC 93 rfl ?_); refine goesZ (some 12) rfl Try.func93 #[.slice A0_3 l0_3.length c0_3, .slice A0_4 l0_4.length c0_4] ?_; (with_reducible refine (impl_names.calls k _ _ l0_3 _ _ l0_4 t395 _ ?_ ?_ ?_ ?_ A3.o).mono ?_); exact cB HR0_3 HB; exact HC0_3.o; exact cB HR0_4 HB; exact HC0_4.o; rintro e wq2 ⟨v396, rfl, ho0, hb⟩; refine ⟨_, rfl, ?_⟩; have HO397 := rl HB ho0; replace BK394 := bv BK394 hb; replace HB := bS HB hb; (try clear hb ho0); obtain ⟨Aoq1, coq1, rfl⟩ := rs HO397) | ((with_reducible refine gC 135 rfl ?_); refine goesZ (some 16) rfl Try.func135 #[.slice Aoq1 t395.length coq1, .string a1] ?_; (with_reducible refine (impl_linkAt.calls _ _ t395 a1 t398 _ _ ?_ ?_ A4.o).mono ?_); exact ca (cR HO397.o); exact cl HO397; rintro e wq3 ⟨rfl, hb⟩; refine ⟨_, rfl, ?_⟩; replace HO397 := rb HO397 hb; replace BK394 := bv BK394 hb; replace HB := bS HB hb; (try clear hb)))); replace HO397 := aK (Kd.R_drew HO397.o); replace BK394 := aK (blk_drew BK394.o); replace HB := aK (below_drew1 HB.o); have pq1 : 0 ≤ (t398 : Int) := dT am; have qq1 : t398 < (t395.length : Int) := dT am
    obtain ⟨adq1, eq1, hxq1_0, hxq1_1⟩ := at_T93 (Kd.R_reads' HO397.o).2.2 t398 pq1 qq1; cases eq1; replace pq1 := eq_true pq1; replace qq1 := eq_true qq1; refine start_ (n := 8) (S := fun w' => w'.cell? ⟨gb394, 0, none⟩ = some (.int .i64 a0_0) ∧ w'.cell? ⟨gb394, 1, none⟩ = some (.int .i64 a0_1) ∧ w'.cell? ⟨gb394, 2, none⟩ = some (.slice A0_2 l0_2.length c0_2) ∧ w'.cell? ⟨gb394, 3, none⟩ = some (.slice A0_3 l0_3.length c0_3) ∧ w'.cell? ⟨gb394, 4, none⟩ = some (.slice A0_4 l0_4.length c0_4) ∧ w'.cell? (adq1.add ((t398).toNat * 2)) = some (.string ((rd_T93 t395 t398).f0)) ∧ w'.cell? ⟨(adq1.add ((t398).toNat * 2)).block, (adq1.add ((t398).toNat * 2)).off + 1, none⟩ = some (.int .i64 ((rd_T93 t395 t398).f1))) (ds := []) (bo 8 0) (by kernel_rfl) rfl rfl ⟨cb 0 BK394, cb 1 BK394, cb 2 BK394, cb 3 BK394, cb 4 BK394, hxq1_0, hxq1_1⟩ (fun hHeld => ?_); refine with_tabW impl_find.tab5 impl_find.bits5 (fun HT_ HW_ => ?_); generalize wq3.drew = wq4 at HO397 BK394 HB hxq1_0 hxq1_1 hHeld ⊢; refine pV 1 22 (bo 8 2) ?_; refine pV 2 23 (bo 8 6) ?_; refine pV 3 24 (bo 8 14) ?_; refine pV 4 25 (bo 8 30) ?_; refine tV 0 21 (bo 8 31) ?_; refine tV 5 26 (bo 8 63) ?_; refine o1 6 27 (bo 8 127) (fun K hK => ?_); refine goes_ Try.func87 (by kernel_rfl) rfl #[.agg #[.int .i64 a0_0, .int .i64 a0_1, .slice A0_2 l0_2.length c0_2, .slice A0_3 l0_3.length c0_3, .slice A0_4 l0_4.length c0_4], .int .i64 ((rd_T93 t395 t398).f1)] (by rfl) rfl rfl sa ?_
    (with_reducible refine (impl_inodeAt.calls a0_0 a0_1 _ _ l0_2 _ _ l0_3 _ _ l0_4 ((rd_T93 t395 t398).f1) t401 _ ?_ ?_ ?_ ?_ ?_ ?_ A8.o).mono ?_); exact cB HR0_2 HB; exact HC0_2.o; exact cB HR0_3 HB; exact HC0_3.o; exact cB HR0_4 HB; exact HC0_4.o; rintro e wq5 ⟨rfl, hb⟩; have HS5_ := (hb.cell (bL _ _ (hHeld.2.2.2.2.2.1))).trans (hHeld.2.2.2.2.2.1); have HS6_ := (hb.cell (bL _ _ (hHeld.2.2.2.2.2.2))).trans (hHeld.2.2.2.2.2.2); refine ⟨_, rfl, ?_⟩; replace HO397 := rb HO397 hb; replace BK394 := bv BK394 hb; replace HB := bS HB hb; (try clear hb hb2 hk hi); refine hK.out _ _ ⟨cb 0 BK394, cb 1 BK394, cb 2 BK394, cb 3 BK394, cb 4 BK394, HS5_, HS6_⟩ (fun hHeld => ?_); clear hK K; refine nm 27 ?_; refine pV 7 4 (bo 8 255) ?_; refine done_ (done_of HT_.o (by kernel_rfl)) ?_; (try go_wp2)
    go_ret
    exact ⟨fe, bl⟩
   ·rw [if_neg c7] at H; exact absurd H (by simp)
  ·rw [if_neg c6] at H; exact absurd H (by simp)
 ·replace c5 := bF c5; subst c5; replace H := iF H; obtain rfl := oj H
  go_enter Try.func91, Try.ntmps91
  go_wp2_with (first | ((with_reducible refine gD 2 rfl ?_); refine boxZ 2 #[.int .i64 a0_0, .int .i64 a0_1, .slice A0_2 l0_2.length c0_2, .slice A0_3 l0_3.length c0_3, .slice A0_4 l0_4.length c0_4] 26 ?_; intro gb394 hg wq1 hbox hb; have BK394 := aK hbox; have GW394 := gW HB hg; replace HB := bS HB hb; clear hb hbox hg; obtain ⟨_, _, _, _, _, _, _, _, _, _⟩ := cf5 BK394) | ((with_reducible refine gC 93 rfl ?_); refine goesZ (some 12) rfl Try.func93 #[.slice A0_3 l0_3.length c0_3, .slice A0_4 l0_4.length c0_4] ?_; (with_reducible refine (impl_names.calls k _ _ l0_3 _ _ l0_4 t395 _ ?_ ?_ ?_ ?_ A3.o).mono ?_); exact cB HR0_3 HB; exact HC0_3.o; exact cB HR0_4 HB; exact HC0_4.o; rintro e wq2 ⟨v396, rfl, ho0, hb⟩; refine ⟨_, rfl, ?_⟩; have HO397 := rl HB ho0; replace BK394 := bv BK394 hb; replace HB := bS HB hb; (try clear hb ho0); obtain ⟨Aoq1, coq1, rfl⟩ := rs HO397) | ((with_reducible refine gC 135 rfl ?_); refine goesZ (some 16) rfl Try.func135 #[.slice Aoq1 t395.length coq1, .string a1] ?_; (with_reducible refine (impl_linkAt.calls _ _ t395 a1 t398 _ _ ?_ ?_ A4.o).mono ?_); exact ca (cR HO397.o); exact cl HO397; rintro e wq3 ⟨rfl, hb⟩; refine ⟨_, rfl, ?_⟩; replace HO397 := rb HO397 hb; replace BK394 := bv BK394 hb; replace HB := bS HB hb; (try clear hb)))
  go_ret
  exact ⟨fe, bl⟩
/-! ### impl_Load: function 30 -/
def impl_Load.f (k : Nat) (a0_0 : Int) (a0_1 : Int) (l0_2 : List (S89)) (l0_3 : List (S93)) (l0_4 : List (S95)) (a1 : ByteArray) : Option (ByteArray × Bool) := (impl_DiskOk.f k a0_0 a0_1 l0_2 l0_3 l0_4).bind fun t403 => (if t403 = true then ((impl_find.f k a0_0 a0_1 l0_2 l0_3 l0_4 a1).bind fun t404 => (if t404 < 0 then (some ((⟨#[]⟩ : ByteArray), false)) else (if 0 ≤ t404 then (if t404 < (l0_2.length : Int) then (some ((rd_T89 l0_2 t404).f1, true)) else (none)) else (none)))) else (some ((⟨#[]⟩ : ByteArray), false)))
theorem impl_Load.mono : ∀ a0 a1 a2 a3 a4 a5 k, LeO (impl_Load.f k a0 a1 a2 a3 a4 a5) (impl_Load.f (k + 1) a0 a1 a2 a3 a4 a5) := by
 intro a0 a1 a2 a3 a4 a5 k; unfold impl_Load.f
 repeat' first
  | (with_reducible exact impl_DiskOk.mono _ _ _ _ _ _)
  | (with_reducible exact impl_find.mono _ _ _ _ _ _ _)
  | (with_reducible exact LeO.refl _)
  | (with_reducible exact LeO.none _)
  | (with_reducible refine LeO.ite ?_ ?_)
  | (with_reducible refine LeO.bind ?_ (fun _ => ?_))
set_option maxHeartbeats 8000000 in
set_option maxRecDepth 100000 in
theorem impl_Load.calls (k : Nat) (a0_0 : Int) (a0_1 : Int) (A0_2 : Option Addr) (c0_2 : Nat) (l0_2 : List (S89)) (A0_3 : Option Addr) (c0_3 : Nat) (l0_3 : List (S93)) (A0_4 : Option Addr) (c0_4 : Nat) (l0_4 : List (S95)) (a1 : ByteArray) (r1 : ByteArray) (r2 : Bool) (w : World) (hr0_2 : Kd.C k89 w A0_2 l0_2.length l0_2) (hc0_2 : l0_2.length ≤ c0_2) (hr0_3 : Kd.C k93 w A0_3 l0_3.length l0_3) (hc0_3 : l0_3.length ≤ c0_3) (hr0_4 : Kd.C k95 w A0_4 l0_4.length l0_4) (hc0_4 : l0_4.length ≤ c0_4) (h : impl_Load.f k a0_0 a0_1 l0_2 l0_3 l0_4 a1 = some (r1, r2)) :
 Calls Try.prog 30 #[.agg #[.int .i64 a0_0, .int .i64 a0_1, .slice A0_2 l0_2.length c0_2, .slice A0_3 l0_3.length c0_3, .slice A0_4 l0_4.length c0_4], .string a1] w fun e w' => e = .returned (.tuple #[.string r1, .bool r2]) ∧ Below w.heap.size w w' := by
 have hu26 := Try.underlying26; have HR0_2 := aK hr0_2; have HC0_2 := aK hc0_2; clear hr0_2 hc0_2; have HR0_3 := aK hr0_3; have HC0_3 := aK hc0_3; clear hr0_3 hc0_3; have HR0_4 := aK hr0_4; have HC0_4 := aK hc0_4; clear hr0_4 hc0_4; have HB := aK (Below.refl w.heap.size w); have H : ((impl_DiskOk.f k a0_0 a0_1 l0_2 l0_3 l0_4).bind fun t403 => (if t403 = true then ((impl_find.f k a0_0 a0_1 l0_2 l0_3 l0_4 a1).bind fun t404 => (if t404 < 0 then (some ((⟨#[]⟩ : ByteArray), false)) else (if 0 ≤ t404 then (if t404 < (l0_2.length : Int) then (some ((rd_T89 l0_2 t404).f1, true)) else (none)) else (none)))) else (some ((⟨#[]⟩ : ByteArray), false)))) = some (r1, r2) := h; clear h; obtain ⟨t403, A3, H⟩ := bd H; by_cases c4 : t403 = true
 ·subst c4; replace H := iT H; obtain ⟨t404, A5, H⟩ := bd H; by_cases c6 : t404 < 0
  ·rw [if_pos c6] at H; have c6b0 : decide (t404 < 0) = true := dt c6; clear c6; simp only [Option.some.injEq, Prod.mk.injEq] at H; obtain ⟨rfl, rfl⟩ := H
   go_enter Try.func30, Try.ntmps30
   go_wp2_with (first | ((with_reducible refine gD 2 rfl ?_); refine boxZ 2 #[.int .i64 a0_0, .int .i64 a0_1, .slice A0_2 l0_2.length c0_2, .slice A0_3 l0_3.length c0_3, .slice A0_4 l0_4.length c0_4] 26 ?_; intro gb402 hg wq1 hbox hb; have BK402 := aK hbox; have GW402 := gW HB hg; replace HB := bS HB hb; clear hb hbox hg; obtain ⟨_, _, _, _, _, _, _, _, _, _⟩ := cf5 BK402) | ((with_reducible refine gC 28 rfl ?_); refine goesZ (some 8) rfl Try.func28 #[.agg #[.int .i64 a0_0, .int .i64 a0_1, .slice A0_2 l0_2.length c0_2, .slice A0_3 l0_3.length c0_3, .slice A0_4 l0_4.length c0_4]] ?_; (with_reducible refine (impl_DiskOk.calls k a0_0 a0_1 _ _ l0_2 (fun k_ => k_ < w.heap.size) _ _ l0_3 _ _ l0_4 _ _ ?_ ?_ ?_ ?_ ?_ A3.o).mono ?_); exact cB HR0_2 HB; exact HC0_2.o; exact Kd.V_mk HC0_3.o (Kd.F_below (Kd.C_F k93_heap HR0_3.o) bl); exact cB HR0_4 HB; exact HC0_4.o; rintro e wq2 ⟨rfl, hb⟩; refine ⟨_, rfl, ?_⟩; replace BK402 := bv BK402 hb; replace HB := bS HB hb; (try clear hb); obtain ⟨_, _, _, _, _, _, _, _, _, _⟩ := cf5 BK402) | ((with_reducible refine gC 91 rfl ?_); refine goesZ (some 12) rfl Try.func91 #[.agg #[.int .i64 a0_0, .int .i64 a0_1, .slice A0_2 l0_2.length c0_2, .slice A0_3 l0_3.length c0_3, .slice A0_4 l0_4.length c0_4], .string a1] ?_; (with_reducible refine (impl_find.calls k a0_0 a0_1 _ _ l0_2 _ _ l0_3 _ _ l0_4 a1 t404 _ ?_ ?_ ?_ ?_ ?_ ?_ A5.o).mono ?_); exact cB HR0_2 HB; exact HC0_2.o; exact cB HR0_3 HB; exact HC0_3.o; exact cB HR0_4 HB; exact HC0_4.o; rintro e wq3 ⟨rfl, hb⟩; refine ⟨_, rfl, ?_⟩; replace BK402 := bv BK402 hb; replace HB := bS HB hb; (try clear hb)))
   go_ret2
   exact ⟨fe, bl⟩
  ·rw [if_neg c6] at H; have c6b0 : decide (t404 < 0) = false := df c6; clear c6; by_cases c12 : 0 ≤ t404
   ·rw [if_pos c12] at H; have c12b0 : decide (0 ≤ t404) = true := dt c12; clear c12; by_cases c13 : t404 < (l0_2.length : Int)
    ·rw [if_pos c13] at H; have c13b0 : decide (t404 < (l0_2.length : Int)) = true := dt c13; clear c13; simp only [Option.some.injEq, Prod.mk.injEq] at H; obtain ⟨rfl, rfl⟩ := H
     go_enter Try.func30, Try.ntmps30
     go_wp2_with (first | ((with_reducible refine gD 2 rfl ?_); refine boxZ 2 #[.int .i64 a0_0, .int .i64 a0_1, .slice A0_2 l0_2.length c0_2, .slice A0_3 l0_3.length c0_3, .slice A0_4 l0_4.length c0_4] 26 ?_; intro gb402 hg wq1 hbox hb; have BK402 := aK hbox; have GW402 := gW HB hg; replace HB := bS HB hb; clear hb hbox hg; obtain ⟨_, _, _, _, _, _, _, _, _, _⟩ := cf5 BK402) | ((with_reducible refine gC 28 rfl ?_); refine goesZ (some 8) rfl Try.func28 #[.agg #[.int .i64 a0_0, .int .i64 a0_1, .slice A0_2 l0_2.length c0_2, .slice A0_3 l0_3.length c0_3, .slice A0_4 l0_4.length c0_4]] ?_; (with_reducible refine (impl_DiskOk.calls k a0_0 a0_1 _ _ l0_2 (fun k_ => k_ < w.heap.size) _ _ l0_3 _ _ l0_4 _ _ ?_ ?_ ?_ ?_ ?_ A3.o).mono ?_); exact cB HR0_2 HB; exact HC0_2.o; exact Kd.V_mk HC0_3.o (Kd.F_below (Kd.C_F k93_heap HR0_3.o) bl); exact cB HR0_4 HB; exact HC0_4.o; rintro e wq2 ⟨rfl, hb⟩; refine ⟨_, rfl, ?_⟩; replace BK402 := bv BK402 hb; replace HB := bS HB hb; (try clear hb); obtain ⟨_, _, _, _, _, _, _, _, _, _⟩ := cf5 BK402) | ((with_reducible refine gC 91 rfl ?_); refine goesZ (some 12) rfl Try.func91 #[.agg #[.int .i64 a0_0, .int .i64 a0_1, .slice A0_2 l0_2.length c0_2, .slice A0_3 l0_3.length c0_3, .slice A0_4 l0_4.length c0_4], .string a1] ?_; (with_reducible refine (impl_find.calls k a0_0 a0_1 _ _ l0_2 _ _ l0_3 _ _ l0_4 a1 t404 _ ?_ ?_ ?_ ?_ ?_ ?_ A5.o).mono ?_); exact cB HR0_2 HB; exact HC0_2.o; exact cB HR0_3 HB; exact HC0_3.o; exact cB HR0_4 HB; exact HC0_4.o; rintro e wq3 ⟨rfl, hb⟩; refine ⟨_, rfl, ?_⟩; replace BK402 := bv BK402 hb; replace HB := bS HB hb; (try clear hb); obtain ⟨_, _, _, _, _, _, _, _, _, _⟩ := cf5 BK402; have pq1 : 0 ≤ (t404 : Int) := dT am; have qq1 : t404 < (l0_2.length : Int) := dT am; obtain ⟨adq1, eq1, hxq1_0, hxq1_1, hxq1_2⟩ := at_T89 HR0_2.o t404 pq1 qq1; cases eq1; replace hxq1_0 := (HB.out.cell (bL w _ hxq1_0)).trans hxq1_0; replace hxq1_1 := (HB.out.cell (bL w _ hxq1_1)).trans hxq1_1; replace hxq1_2 := (HB.out.cell (bL w _ hxq1_2)).trans hxq1_2; replace pq1 := eq_true pq1; replace qq1 := eq_true qq1))
     go_ret2
     exact ⟨fe, bl⟩
    ·rw [if_neg c13] at H; exact absurd H (by simp)
   ·rw [if_neg c12] at H; exact absurd H (by simp)
 ·replace c4 := bF c4; subst c4; replace H := iF H; simp only [Option.some.injEq, Prod.mk.injEq] at H; obtain ⟨rfl, rfl⟩ := H
  go_enter Try.func30, Try.ntmps30
  go_wp2_with (first | ((with_reducible refine gD 2 rfl ?_); refine boxZ 2 #[.int .i64 a0_0, .int .i64 a0_1, .slice A0_2 l0_2.length c0_2, .slice A0_3 l0_3.length c0_3, .slice A0_4 l0_4.length c0_4] 26 ?_; intro gb402 hg wq1 hbox hb; have BK402 := aK hbox; have GW402 := gW HB hg; replace HB := bS HB hb; clear hb hbox hg; obtain ⟨_, _, _, _, _, _, _, _, _, _⟩ := cf5 BK402) | ((with_reducible refine gC 28 rfl ?_); refine goesZ (some 8) rfl Try.func28 #[.agg #[.int .i64 a0_0, .int .i64 a0_1, .slice A0_2 l0_2.length c0_2, .slice A0_3 l0_3.length c0_3, .slice A0_4 l0_4.length c0_4]] ?_; (with_reducible refine (impl_DiskOk.calls k a0_0 a0_1 _ _ l0_2 (fun k_ => k_ < w.heap.size) _ _ l0_3 _ _ l0_4 _ _ ?_ ?_ ?_ ?_ ?_ A3.o).mono ?_); exact cB HR0_2 HB; exact HC0_2.o; exact Kd.V_mk HC0_3.o (Kd.F_below (Kd.C_F k93_heap HR0_3.o) bl); exact cB HR0_4 HB; exact HC0_4.o; rintro e wq2 ⟨rfl, hb⟩; refine ⟨_, rfl, ?_⟩; replace BK402 := bv BK402 hb; replace HB := bS HB hb; (try clear hb)))
  go_ret2
  exact ⟨fe, bl⟩
end Go.Proofs.Ytjcmcamijaelbaa.PDisk
