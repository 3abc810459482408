/- Functions of the program, each with its contract, written by a program out of the translation. -/
import Derived.Test.YtjcmcamijaelbaaPDiskx0
import Derived.Test.YtjcmcamijaelbaaPDiskxH
import Derived.Test.YtjcmcamijaelbaaPDiskx11
import Derived.Test.YtjcmcamijaelbaaPDiskx12
import Derived.Test.YtjcmcamijaelbaaPDiskx13
import Derived.Test.YtjcmcamijaelbaaZip
namespace Go.Proofs.Ytjcmcamijaelbaa.PDisk
open Go.RowKit Go.Proofs.YtjcmcamijaelbaaW.PrintWords Go.Proofs.YtjcmcamijaelbaaW.PrintLast Go.Proofs.YtjcmcamijaelbaaW.PrintMore Go.Proofs.Ytjcmcamijaelbaa.Zip
attribute [local go_sem] max2_int min2_int max_two min_two max_three min_three max_four min_four   -- for this text's walks alone
set_option linter.unusedVariables false
set_option linter.unusedSimpArgs false
/-! ### impl_names: function 93 -/
def impl_names.l0 : Nat → List (S93) → List (S95) → Int → Int → Option ((List (S93)))
 | 0, _, _, _, _ => none
 | k + 1, x0, x9, x10, x11 => if x11 < x10 then (if 0 ≤ x11 then (if x11 < (x9.length : Int) then ((impl_applied.f k x0 ((rd_T95 x9 x11).f0) ((rd_T95 x9 x11).f1) ((rd_T95 x9 x11).f2) ((rd_T95 x9 x11).f3)).bind fun bt390 => (impl_names.l0 k bt390.1 x9 x10 (wrap64 (x11 + 1)))) else (none)) else (none)) else (some x0)
def impl_names.f (k : Nat) (l0 : List (S93)) (l1 : List (S95)) : Option ((List (S93))) := (impl_Link_138.f l0).bind fun t385 => (impl_names.l0 k t385 l1 (l1.length : Int) 0)
theorem impl_names.mono_l : ∀ k, (∀ y0 y1 y2 y3, LeO (impl_names.l0 k y0 y1 y2 y3) (impl_names.l0 (k + 1) y0 y1 y2 y3))
 | 0 => fun _ _ _ _ r h => by simp [impl_names.l0] at h
 | k + 1 => by
  have ih0 := impl_names.mono_l k
  ·intro y0 y1 y2 y3
   unfold impl_names.l0
   repeat' first
   | (with_reducible exact ih0 _ _ _ _)
   | (with_reducible exact impl_applied.mono _ _ _ _ _ _)
   | (with_reducible exact LeO.refl _)
   | (with_reducible exact LeO.none _)
   | (with_reducible refine LeO.ite ?_ ?_)
   | (with_reducible refine LeO.bind ?_ (fun _ => ?_))
theorem impl_names.mono : ∀ a0 a1 k, LeO (impl_names.f k a0 a1) (impl_names.f (k + 1) a0 a1) := by
 intro a0 a1 k; have ih0 := impl_names.mono_l k; unfold impl_names.f
 repeat' first
  | (with_reducible exact ih0 _ _ _ _)
  | (with_reducible exact impl_applied.mono _ _ _ _ _ _)
  | (with_reducible exact LeO.refl _)
  | (with_reducible exact LeO.none _)
  | (with_reducible refine LeO.ite ?_ ?_)
  | (with_reducible refine LeO.bind ?_ (fun _ => ?_))
set_option maxHeartbeats 8000000 in
set_option maxRecDepth 100000 in
theorem impl_names.calls (k : Nat) (A0 : Option Addr) (c0 : Nat) (l0 : List (S93)) (A1 : Option Addr) (c1 : Nat) (l1 : List (S95)) (r : List (S93)) (w : World) (hr0 : Kd.C k93 w A0 l0.length l0) (hc0 : l0.length ≤ c0) (hr1 : Kd.C k95 w A1 l1.length l1) (hc1 : l1.length ≤ c1) (h : impl_names.f k l0 l1 = some r) :
 Calls Try.prog 93 #[.slice A0 l0.length c0, .slice A1 l1.length c1] w fun e w' => ∃ v0_ : Value, e = .returned (v0_) ∧ Kd.R k93 93 w' w.heap.size (fun _ => True) v0_ r ∧ Below w.heap.size w w' := by
 have hu95 := Try.underlying95; have HR0 := Aside0.mk hr0; have HC0 := Aside0.mk hc0; clear hr0 hc0; have HR1 := Aside0.mk hr1; have HC1 := Aside0.mk hc1; clear hr1 hc1; have HB := Aside0.mk (Below.refl w.heap.size w); have H : ((impl_Link_138.f l0).bind fun t385 => (impl_names.l0 k t385 l1 (l1.length : Int) 0)) = some r := h; clear h; obtain ⟨t385, A3, H⟩ := bd H; have H' := Aside0.mk H; clear H
 go_enter Try.func93, Try.ntmps93
 go_wp2_with (first | ((with_reducible refine gC 138 rfl ?_); refine goesZ (some 8) rfl Try.func138 #[.slice A0 l0.length c0] ?_; (with_reducible refine (impl_Link_138.calls _ _ l0 t385 _ ?side1 ?side2 A3.out).mono ?_); (case side1 => exact ca HR0.out); (case side2 => exact HC0.out); rintro e w4 ⟨v386, rfl, ho0, hb⟩; refine ⟨_, rfl, ?_⟩; have HO387 := Aside0.mk (Kd.R_lower ho0 (below_size bl)); replace HB := bs (w := w) hb; (try clear hb ho0)))
 go_loopg [0, 11] k (fun kq v0 v11 w' => ∃ (x0_1 : List (S93)) (x11_1 : Int), v11 = .int .i64 x11_1 ∧ Aside0 (impl_names.l0 kq x0_1 l1 (l1.length : Int) x11_1 = some r) ∧ Aside0 (kq ≤ k) ∧ Aside0 (Kd.R k93 93 w' w.heap.size (fun _ => True) v0 x0_1) ∧ Aside0 (Below w.heap.size w w'))
 case atStart => exact ⟨(t385), (0), fa, H', ⟨Nat.le_refl _⟩, ⟨rpR HO387.out⟩, ⟨bl⟩⟩
 case round =>
  clear H'; (try clear c1); (try clear p2); obtain ⟨x0_1, x11_1, rfl, HA, HK1, HO_0, HB⟩ := hrel
  cases gk with
  | zero => exact absurd HA.out (by simp [impl_names.l0])
  | succ k1 =>
   have H := HA.out; clear HA; simp only [impl_names.l0] at H; by_cases c5 : x11_1 < (l1.length : Int)
   ·rw [if_pos c5] at H; have c5b0 : decide (x11_1 < (l1.length : Int)) = true := decide_eq_true c5; clear c5; by_cases c6 : 0 ≤ x11_1
    ·rw [if_pos c6] at H; have c6b0 : decide (0 ≤ x11_1) = true := decide_eq_true c6; clear c6; by_cases c7 : x11_1 < (l1.length : Int)
     ·rw [if_pos c7] at H; have c7b0 : decide (x11_1 < (l1.length : Int)) = true := decide_eq_true c7; clear c7; replace H := Option.bind_eq_some_iff.mp H; obtain ⟨⟨t390, t393⟩, A80, H⟩ := H; replace H : (impl_names.l0 k1 t390 l1 (l1.length : Int) (wrap64 (x11_1 + 1))) = some r := H; have A8 := Aside0.mk A80; clear A80; have H' := Aside0.mk H; clear H; have p388 : 0 ≤ (x11_1 : Int) := of_decide_eq_true am; have q388 : x11_1 < (l1.length : Int) := of_decide_eq_true am; obtain ⟨ad388, e388, hx388_0, hx388_1, hx388_2, hx388_3⟩ := at_T95 HR1.out x11_1 p388 q388
      cases e388
      replace hx388_0 := cz HB hx388_0; replace hx388_1 := cz HB hx388_1; replace hx388_2 := cz HB hx388_2; replace hx388_3 := cz HB hx388_3; replace p388 := eq_true p388; replace q388 := eq_true q388
      go_wp2_with (first | ((with_reducible refine gD 6 rfl ?_); refine boxZ 6 #[.int .i64 0, .string (⟨#[]⟩ : ByteArray), .string (⟨#[]⟩ : ByteArray), .int .i64 0] 95 ?_; intro gb389 hg w9 hbox hb; replace HO_0 := Aside0.mk (Kd.R_below (rpR HO_0.out) hb); have BK389 := Aside0.mk hbox; have GW389 := gw (w := w) hg; have GE389 := gw (w := w) hg; replace HB := bs (w := w) hb; clear hb hbox hg; obtain ⟨Z10_0, Z10_1, Z10_2, Z10_3, Y10_0, Y10_1, Y10_2, Y10_3⟩ := cf4 BK389; obtain ⟨Ao11, co11, rfl⟩ := Kd.R_slice HO_0.out) | ((with_reducible refine gC 89 rfl ?_); refine goesZ (some 18) rfl Try.func89 #[.slice Ao11 x0_1.length co11, .agg #[.int .i64 ((rd_T95 l1 x11_1).f0), .string ((rd_T95 l1 x11_1).f1), .string ((rd_T95 l1 x11_1).f2), .int .i64 ((rd_T95 l1 x11_1).f3)]] ?_; (with_reducible refine (impl_applied.calls k1 _ _ x0_1 ((rd_T95 l1 x11_1).f0) ((rd_T95 l1 x11_1).f1) ((rd_T95 l1 x11_1).f2) ((rd_T95 l1 x11_1).f3) t390 t393 _ ?side1 ?side2 A8.out).mono ?_); (case side1 => refine (Kd.R_reads' (e := 93) (base := w.heap.size) (ok := fun k_ => True) (n := x0_1.length) (c := co11) ?_).2.2; exact (rpR (Kd.R_mono (Kd.R_far (p := ⟨gb389, 3, none⟩) (Kd.R_far (p := ⟨gb389, 2, none⟩) (Kd.R_far (p := ⟨gb389, 1, none⟩) (Kd.R_far (p := ⟨gb389, 0, none⟩) (Kd.R_types HO_0.out BK389.out (by decide)) (fun _ hk => hk.2) (.int .i64 ((rd_T95 l1 x11_1).f0))) (fun _ hk => hk.2) (.string ((rd_T95 l1 x11_1).f1))) (fun _ hk => hk.2) (.string ((rd_T95 l1 x11_1).f2))) (fun _ hk => hk.2) (.int .i64 ((rd_T95 l1 x11_1).f3))) (fun _ h_ => h_.1)))); (case side2 => exact (Kd.R_reads' HO_0.out).2.1); rintro e w12 ⟨v391, rfl, ho0, hb⟩; refine ⟨_, rfl, ?_⟩; have HO392 := Aside0.mk (Kd.R_lower (Kd.R_new' ho0 (Kd.R_lt (rpR (Kd.R_mono (Kd.R_far (p := ⟨gb389, 3, none⟩) (Kd.R_far (p := ⟨gb389, 2, none⟩) (Kd.R_far (p := ⟨gb389, 1, none⟩) (Kd.R_far (p := ⟨gb389, 0, none⟩) (Kd.R_types HO_0.out BK389.out (by decide)) (fun _ hk => hk.2) (.int .i64 ((rd_T95 l1 x11_1).f0))) (fun _ hk => hk.2) (.string ((rd_T95 l1 x11_1).f1))) (fun _ hk => hk.2) (.string ((rd_T95 l1 x11_1).f2))) (fun _ hk => hk.2) (.int .i64 ((rd_T95 l1 x11_1).f3))) (fun _ h_ => h_.1))))) (below_size bl)); replace HO_0 := Aside0.mk (Kd.R_elder' (rpR (Kd.R_mono (Kd.R_far (p := ⟨gb389, 3, none⟩) (Kd.R_far (p := ⟨gb389, 2, none⟩) (Kd.R_far (p := ⟨gb389, 1, none⟩) (Kd.R_far (p := ⟨gb389, 0, none⟩) (Kd.R_types HO_0.out BK389.out (by decide)) (fun _ hk => hk.2) (.int .i64 ((rd_T95 l1 x11_1).f0))) (fun _ hk => hk.2) (.string ((rd_T95 l1 x11_1).f1))) (fun _ hk => hk.2) (.string ((rd_T95 l1 x11_1).f2))) (fun _ hk => hk.2) (.int .i64 ((rd_T95 l1 x11_1).f3))) (fun _ h_ => h_.1))) (Kd.R_base ho0) hb); replace BK389 := Aside0.mk (blk_below (g := gb389) (o := .cells #[.int .i64 ((rd_T95 l1 x11_1).f0), .string ((rd_T95 l1 x11_1).f1), .string ((rd_T95 l1 x11_1).f2), .int .i64 ((rd_T95 l1 x11_1).f3)] 95 (0, 0)) bkk hb); replace HB := bs (w := w) hb; (try clear hb ho0)))
      go_roundg k1
      case measure => have := HK1.out; omega
      case rel => exact ⟨(t390), (wrap64 (x11_1 + 1)), fa, H', ⟨by have := HK1.out; omega⟩, ⟨rpR (Kd.R_mono HO392.out (fun _ hk => trivial))⟩, ⟨bl⟩⟩
     ·rw [if_neg c7] at H
      exact absurd H (by simp)
    ·rw [if_neg c6] at H
     exact absurd H (by simp)
   ·rw [if_neg c5] at H; have c5b0 : decide (x11_1 < (l1.length : Int)) = false := decide_eq_false c5; clear c5; obtain rfl := Option.some.inj H
    go_wp2
    go_ret
    exact ⟨_, fe, rpR HO_0.out, bl⟩
/-! ### impl_find: function 91 -/
def impl_find.f (k : Nat) (a0_0 : Int) (a0_1 : Int) (l0_2 : List (S89)) (l0_3 : List (S93)) (l0_4 : List (S95)) (a1 : ByteArray) : Option (Int) := (impl_names.f k l0_3 l0_4).bind fun t395 => ((impl_linkAt.f t395 a1).bind fun bt398 => (if bt398.2 = true then (if 0 ≤ bt398.1 then (if bt398.1 < (t395.length : Int) then ((impl_inodeAt.f a0_0 a0_1 l0_2 l0_3 l0_4 ((rd_T93 t395 bt398.1).f1)).bind fun t401 => (some t401)) else (none)) else (none)) else (some (-1))))
theorem impl_find.mono : ∀ a0 a1 a2 a3 a4 a5 k, LeO (impl_find.f k a0 a1 a2 a3 a4 a5) (impl_find.f (k + 1) a0 a1 a2 a3 a4 a5) := by
 intro a0 a1 a2 a3 a4 a5 k; unfold impl_find.f
 repeat' first
  | (with_reducible exact impl_names.mono _ _ _)
  | (with_reducible exact LeO.refl _)
  | (with_reducible exact LeO.none _)
  | (with_reducible refine LeO.ite ?_ ?_)
  | (with_reducible refine LeO.bind ?_ (fun _ => ?_))
def impl_find.T5 : Bool × List (List Nat × List Nat) := (true, [([], []), ([], []), ([], []), ([1, 2], [1, 2]), ([3], [3]), ([4], [4]), ([0, 5], [0, 5]), ([6, 6, 0, 1, 2, 3, 4, 5, 6], [6])])
def impl_find.B5 : List Nat := [0, 0, 0, 6, 14, 30, 63, 127]
theorem impl_find.tab5 : rtab .any (opsOf Try.f91 5) = impl_find.T5 := by kernel_rfl
theorem impl_find.bits5 : waitsOk impl_find.T5.2 impl_find.B5 = true := by kernel_rfl
set_option maxHeartbeats 8000000 in
set_option maxRecDepth 100000 in
theorem impl_find.calls (k : Nat) (a0_0 : Int) (a0_1 : Int) (A0_2 : Option Addr) (c0_2 : Nat) (l0_2 : List (S89)) (A0_3 : Option Addr) (c0_3 : Nat) (l0_3 : List (S93)) (A0_4 : Option Addr) (c0_4 : Nat) (l0_4 : List (S95)) (a1 : ByteArray) (r : Int) (w : World) (hr0_2 : Kd.C k89 w A0_2 l0_2.length l0_2) (hc0_2 : l0_2.length ≤ c0_2) (hr0_3 : Kd.C k93 w A0_3 l0_3.length l0_3) (hc0_3 : l0_3.length ≤ c0_3) (hr0_4 : Kd.C k95 w A0_4 l0_4.length l0_4) (hc0_4 : l0_4.length ≤ c0_4) (h : impl_find.f k a0_0 a0_1 l0_2 l0_3 l0_4 a1 = some r) :
 Calls Try.prog 91 #[.agg #[.int .i64 a0_0, .int .i64 a0_1, .slice A0_2 l0_2.length c0_2, .slice A0_3 l0_3.length c0_3, .slice A0_4 l0_4.length c0_4], .string a1] w fun e w' => e = .returned (.int .i64 r) ∧ Below w.heap.size w w' := by
 have hu26 := Try.underlying26; have HR0_2 := Aside0.mk hr0_2; have HC0_2 := Aside0.mk hc0_2; clear hr0_2 hc0_2; have HR0_3 := Aside0.mk hr0_3; have HC0_3 := Aside0.mk hc0_3; clear hr0_3 hc0_3; have HR0_4 := Aside0.mk hr0_4; have HC0_4 := Aside0.mk hc0_4; clear hr0_4 hc0_4; have HB := Aside0.mk (Below.refl w.heap.size w); have H : ((impl_names.f k l0_3 l0_4).bind fun t395 => ((impl_linkAt.f t395 a1).bind fun bt398 => (if bt398.2 = true then (if 0 ≤ bt398.1 then (if bt398.1 < (t395.length : Int) then ((impl_inodeAt.f a0_0 a0_1 l0_2 l0_3 l0_4 ((rd_T93 t395 bt398.1).f1)).bind fun t401 => (some t401)) else (none)) else (none)) else (some (-1))))) = some r := h; clear h; obtain ⟨t395, A3, H⟩ := bd H; replace H := Option.bind_eq_some_iff.mp H; obtain ⟨⟨t398, t399⟩, A40, H⟩ := H; replace H : (if t399 = true then (if 0 ≤ t398 then (if t398 < (t395.length : Int) then ((impl_inodeAt.f a0_0 a0_1 l0_2 l0_3 l0_4 ((rd_T93 t395 t398).f1)).bind fun t401 => (some t401)) else (none)) else (none)) else (some (-1))) = some r := H; have A4 := Aside0.mk A40; clear A40; by_cases c5 : t399 = true
 ·subst c5; replace H := iT H; by_cases c6 : 0 ≤ t398
  ·rw [if_pos c6] at H; have c6b0 : decide (0 ≤ t398) = true := decide_eq_true c6; clear c6; by_cases c7 : t398 < (t395.length : Int)
   ·rw [if_pos c7] at H; have c7b0 : decide (t398 < (t395.length : Int)) = true := decide_eq_true c7; clear c7; obtain ⟨t401, A8, H⟩ := bd H; obtain rfl := Option.some.inj H
    go_enter Try.func91, Try.ntmps91
    (try go_wp2_with (first | ((with_reducible refine gD 2 rfl ?_); refine boxZ 2 #[.int .i64 a0_0, .int .i64 a0_1, .slice A0_2 l0_2.length c0_2, .slice A0_3 l0_3.length c0_3, .slice A0_4 l0_4.length c0_4] 26 ?_; intro gb394 hg w9 hbox hb; have BK394 := Aside0.mk hbox; have GW394 := gw (w := w) hg; have GE394 := gw (w := w) hg; replace HB := bs (w := w) hb; clear hb hbox hg; obtain ⟨Z10_0, Z10_1, Z10_2, Z10_3, Z10_4, Y10_0, Y10_1, Y10_2, Y10_3, Y10_4⟩ := cf5 BK394) | ((with_reducible refine gC 93 rfl ?_); refine goesZ (some 12) rfl Try.func93 #[.slice A0_3 l0_3.length c0_3, .slice A0_4 l0_4.length c0_4] ?_; (with_reducible refine (impl_names.calls k _ _ l0_3 _ _ l0_4 t395 _ ?side1 ?side2 ?side3 ?side4 A3.out).mono ?_); (case side1 => exact ca (Kd.C_below HR0_3.out HB.out)); (case side2 => exact HC0_3.out); (case side3 => exact ca (Kd.C_below HR0_4.out HB.out)); (case side4 => exact HC0_4.out); rintro e w11 ⟨v396, rfl, ho0, hb⟩; refine ⟨_, rfl, ?_⟩; have HO397 := Aside0.mk (Kd.R_lower ho0 (below_size bl)); replace BK394 := bv BK394 hb; replace HB := bs (w := w) hb; (try clear hb ho0); obtain ⟨Ao12, co12, rfl⟩ := Kd.R_slice HO397.out) | ((with_reducible refine gC 135 rfl ?_); refine goesZ (some 16) rfl Try.func135 #[.slice Ao12 t395.length co12, .string a1] ?_; (with_reducible refine (impl_linkAt.calls _ _ t395 a1 t398 true _ ?side1 ?side2 A4.out).mono ?_); (case side1 => exact ca ((Kd.R_reads' HO397.out).2.2)); (case side2 => exact (Kd.R_reads' HO397.out).2.1); rintro e w13 ⟨rfl, hb⟩; refine ⟨_, rfl, ?_⟩; replace HO397 := Aside0.mk (Kd.R_below (rpR HO397.out) hb); replace BK394 := bv BK394 hb; replace HB := bs (w := w) hb; (try clear hb)))); replace HO397 := Aside0.mk (Kd.R_drew HO397.out); replace BK394 := Aside0.mk (blk_drew BK394.out); replace HB := Aside0.mk (below_drew1 HB.out)
    have p400 : 0 ≤ (t398 : Int) := of_decide_eq_true am; have q400 : t398 < (t395.length : Int) := of_decide_eq_true am; obtain ⟨ad400, e400, hx400_0, hx400_1⟩ := at_T93 (Kd.R_reads' HO397.out).2.2 t398 p400 q400
    cases e400
    replace p400 := eq_true p400; replace q400 := eq_true q400; refine start_ (n := 8) (S := fun w' => w'.cell? ⟨gb394, 0, none⟩ = some (.int .i64 a0_0) ∧ w'.cell? ⟨gb394, 1, none⟩ = some (.int .i64 a0_1) ∧ w'.cell? ⟨gb394, 2, none⟩ = some (.slice A0_2 l0_2.length c0_2) ∧ w'.cell? ⟨gb394, 3, none⟩ = some (.slice A0_3 l0_3.length c0_3) ∧ w'.cell? ⟨gb394, 4, none⟩ = some (.slice A0_4 l0_4.length c0_4) ∧ w'.cell? (ad400.add ((t398).toNat * 2)) = some (.string ((rd_T93 t395 t398).f0)) ∧ w'.cell? ⟨(ad400.add ((t398).toNat * 2)).block, (ad400.add ((t398).toNat * 2)).off + 1, none⟩ = some (.int .i64 ((rd_T93 t395 t398).f1))) (ds := []) (bo 8 0) (by kernel_rfl) rfl rfl ⟨cb 0 BK394, cb 1 BK394, cb 2 BK394, cb 3 BK394, cb 4 BK394, hx400_0, hx400_1⟩ (fun hHeld => ?_); refine with_tabW impl_find.tab5 impl_find.bits5 (fun HT_ HW_ => ?_); generalize w13.drew = w14 at HO397 BK394 HB hx400_0 hx400_1 hHeld ⊢; refine pV 1 22 (bo 8 2) ?_; refine pV 2 23 (bo 8 6) ?_; refine pV 3 24 (bo 8 14) ?_; refine pV 4 25 (bo 8 30) ?_; refine tV 0 21 (bo 8 31) ?_; refine tV 5 26 (bo 8 63) ?_; refine one_ (i := 6) (N := some 27) (bo 8 127) rfl rfl (one_of HT_.out (by kernel_rfl)) (by decide) (fun K hK => ?_); refine goes_ Try.func87 (by kernel_rfl) rfl #[.agg #[.int .i64 a0_0, .int .i64 a0_1, .slice A0_2 l0_2.length c0_2, .slice A0_3 l0_3.length c0_3, .slice A0_4 l0_4.length c0_4], .int .i64 ((rd_T93 t395 t398).f1)] (by rfl) rfl rfl sa ?_
    with_reducible refine (impl_inodeAt.calls a0_0 a0_1 _ _ l0_2 _ _ l0_3 _ _ l0_4 ((rd_T93 t395 t398).f1) t401 _ ?side1 ?side2 ?side3 ?side4 ?side5 ?side6 A8.out).mono ?_
    (case side1 => exact ca (Kd.C_below HR0_2.out HB.out)); (case side2 => exact HC0_2.out); (case side3 => exact ca (Kd.C_below HR0_3.out HB.out)); (case side4 => exact HC0_3.out); (case side5 => exact ca (Kd.C_below HR0_4.out HB.out)); (case side6 => exact HC0_4.out); rintro e w15 ⟨rfl, hb⟩; have HS5_ := (hb.cell (World.block_lt_of_cell? _ _ (hHeld.2.2.2.2.2.1))).trans (hHeld.2.2.2.2.2.1); have HS6_ := (hb.cell (World.block_lt_of_cell? _ _ (hHeld.2.2.2.2.2.2))).trans (hHeld.2.2.2.2.2.2); refine ⟨_, rfl, ?_⟩; replace HO397 := Aside0.mk (Kd.R_below (rpR HO397.out) hb); replace BK394 := bv BK394 hb; replace HB := bs (w := w) hb; (try clear hb hb2 hk hi); refine hK.out _ _ ⟨cb 0 BK394, cb 1 BK394, cb 2 BK394, cb 3 BK394, cb 4 BK394, HS5_, HS6_⟩ (fun hHeld => ?_); clear hK K; refine norm_ (a' := ?_) ?_ ?_
    rotate_left
    ·show Act.put _ (some 27) _ = _; simp only [Act.put, List.setIfInBounds_toArray, List.set_cons_zero, List.set_cons_succ, i64_w, i32_w]; rfl
    refine pV 7 4 (bo 8 255) ?_; refine done_ (done_of HT_.out (by kernel_rfl)) ?_; (try go_wp2)
    go_ret
    exact ⟨fe, bl⟩
   ·rw [if_neg c7] at H
    exact absurd H (by simp)
  ·rw [if_neg c6] at H
   exact absurd H (by simp)
 ·replace c5 := Bool.eq_false_iff.mpr c5; subst c5; replace H := iF H; obtain rfl := Option.some.inj H
  go_enter Try.func91, Try.ntmps91
  go_wp2_with (first | ((with_reducible refine gD 2 rfl ?_); refine boxZ 2 #[.int .i64 a0_0, .int .i64 a0_1, .slice A0_2 l0_2.length c0_2, .slice A0_3 l0_3.length c0_3, .slice A0_4 l0_4.length c0_4] 26 ?_; intro gb394 hg w16 hbox hb; have BK394 := Aside0.mk hbox; have GW394 := gw (w := w) hg; have GE394 := gw (w := w) hg; replace HB := bs (w := w) hb; clear hb hbox hg; obtain ⟨Z17_0, Z17_1, Z17_2, Z17_3, Z17_4, Y17_0, Y17_1, Y17_2, Y17_3, Y17_4⟩ := cf5 BK394) | ((with_reducible refine gC 93 rfl ?_); refine goesZ (some 12) rfl Try.func93 #[.slice A0_3 l0_3.length c0_3, .slice A0_4 l0_4.length c0_4] ?_; (with_reducible refine (impl_names.calls k _ _ l0_3 _ _ l0_4 t395 _ ?side1 ?side2 ?side3 ?side4 A3.out).mono ?_); (case side1 => exact ca (Kd.C_below HR0_3.out HB.out)); (case side2 => exact HC0_3.out); (case side3 => exact ca (Kd.C_below HR0_4.out HB.out)); (case side4 => exact HC0_4.out); rintro e w18 ⟨v396, rfl, ho0, hb⟩; refine ⟨_, rfl, ?_⟩; have HO397 := Aside0.mk (Kd.R_lower ho0 (below_size bl)); replace BK394 := bv BK394 hb; replace HB := bs (w := w) hb; (try clear hb ho0); obtain ⟨Ao19, co19, rfl⟩ := Kd.R_slice HO397.out) | ((with_reducible refine gC 135 rfl ?_); refine goesZ (some 16) rfl Try.func135 #[.slice Ao19 t395.length co19, .string a1] ?_; (with_reducible refine (impl_linkAt.calls _ _ t395 a1 t398 false _ ?side1 ?side2 A4.out).mono ?_); (case side1 => exact ca ((Kd.R_reads' HO397.out).2.2)); (case side2 => exact (Kd.R_reads' HO397.out).2.1); rintro e w20 ⟨rfl, hb⟩; refine ⟨_, rfl, ?_⟩; replace HO397 := Aside0.mk (Kd.R_below (rpR HO397.out) hb); replace BK394 := bv BK394 hb; replace HB := bs (w := w) hb; (try clear hb)))
  go_ret
  exact ⟨fe, bl⟩
/-! ### impl_Load: function 30 -/
def impl_Load.f (k : Nat) (a0_0 : Int) (a0_1 : Int) (l0_2 : List (S89)) (l0_3 : List (S93)) (l0_4 : List (S95)) (a1 : ByteArray) : Option (ByteArray × Bool) := (impl_DiskOk.f k a0_0 a0_1 l0_2 l0_3 l0_4).bind fun t403 => (if t403 = true then ((impl_find.f k a0_0 a0_1 l0_2 l0_3 l0_4 a1).bind fun t404 => (if t404 < 0 then (some ((⟨#[]⟩ : ByteArray), false)) else (if 0 ≤ t404 then (if t404 < (l0_2.length : Int) then (some ((rd_T89 l0_2 t404).f1, true)) else (none)) else (none)))) else (some ((⟨#[]⟩ : ByteArray), false)))
theorem impl_Load.mono : ∀ a0 a1 a2 a3 a4 a5 k, LeO (impl_Load.f k a0 a1 a2 a3 a4 a5) (impl_Load.f (k + 1) a0 a1 a2 a3 a4 a5) := by
 intro a0 a1 a2 a3 a4 a5 k; unfold impl_Load.f
 repeat' first
  | (with_reducible exact impl_DiskOk.mono _ _ _ _ _ _)
  | (with_reducible exact impl_find.mono _ _ _ _ _ _ _)
  | (with_reducible exact LeO.refl _)
  | (with_reducible exact LeO.none _)
  | (with_reducible refine LeO.ite ?_ ?_)
  | (with_reducible refine LeO.bind ?_ (fun _ => ?_))
set_option maxHeartbeats 8000000 in
set_option maxRecDepth 100000 in
theorem impl_Load.calls (k : Nat) (a0_0 : Int) (a0_1 : Int) (A0_2 : Option Addr) (c0_2 : Nat) (l0_2 : List (S89)) (A0_3 : Option Addr) (c0_3 : Nat) (l0_3 : List (S93)) (A0_4 : Option Addr) (c0_4 : Nat) (l0_4 : List (S95)) (a1 : ByteArray) (r1 : ByteArray) (r2 : Bool) (w : World) (hr0_2 : Kd.C k89 w A0_2 l0_2.length l0_2) (hc0_2 : l0_2.length ≤ c0_2) (hr0_3 : Kd.C k93 w A0_3 l0_3.length l0_3) (hc0_3 : l0_3.length ≤ c0_3) (hr0_4 : Kd.C k95 w A0_4 l0_4.length l0_4) (hc0_4 : l0_4.length ≤ c0_4) (h : impl_Load.f k a0_0 a0_1 l0_2 l0_3 l0_4 a1 = some (r1, r2)) :
 Calls Try.prog 30 #[.agg #[.int .i64 a0_0, .int .i64 a0_1, .slice A0_2 l0_2.length c0_2, .slice A0_3 l0_3.length c0_3, .slice A0_4 l0_4.length c0_4], .string a1] w fun e w' => e = .returned (.tuple #[.string r1, .bool r2]) ∧ Below w.heap.size w w' := by
 have hu26 := Try.underlying26; have HR0_2 := Aside0.mk hr0_2; have HC0_2 := Aside0.mk hc0_2; clear hr0_2 hc0_2; have HR0_3 := Aside0.mk hr0_3; have HC0_3 := Aside0.mk hc0_3; clear hr0_3 hc0_3; have HR0_4 := Aside0.mk hr0_4; have HC0_4 := Aside0.mk hc0_4; clear hr0_4 hc0_4; have HB := Aside0.mk (Below.refl w.heap.size w); have H : ((impl_DiskOk.f k a0_0 a0_1 l0_2 l0_3 l0_4).bind fun t403 => (if t403 = true then ((impl_find.f k a0_0 a0_1 l0_2 l0_3 l0_4 a1).bind fun t404 => (if t404 < 0 then (some ((⟨#[]⟩ : ByteArray), false)) else (if 0 ≤ t404 then (if t404 < (l0_2.length : Int) then (some ((rd_T89 l0_2 t404).f1, true)) else (none)) else (none)))) else (some ((⟨#[]⟩ : ByteArray), false)))) = some (r1, r2) := h; clear h; obtain ⟨t403, A3, H⟩ := bd H; by_cases c4 : t403 = true
 ·subst c4; replace H := iT H; obtain ⟨t404, A5, H⟩ := bd H; by_cases c6 : t404 < 0
  ·rw [if_pos c6] at H; have c6b0 : decide (t404 < 0) = true := decide_eq_true c6; clear c6; simp only [Option.some.injEq, Prod.mk.injEq] at H; obtain ⟨rfl, rfl⟩ := H
   go_enter Try.func30, Try.ntmps30
   go_wp2_with (first | ((with_reducible refine gD 2 rfl ?_); refine boxZ 2 #[.int .i64 a0_0, .int .i64 a0_1, .slice A0_2 l0_2.length c0_2, .slice A0_3 l0_3.length c0_3, .slice A0_4 l0_4.length c0_4] 26 ?_; intro gb402 hg w7 hbox hb; have BK402 := Aside0.mk hbox; have GW402 := gw (w := w) hg; have GE402 := gw (w := w) hg; replace HB := bs (w := w) hb; clear hb hbox hg; obtain ⟨Z8_0, Z8_1, Z8_2, Z8_3, Z8_4, Y8_0, Y8_1, Y8_2, Y8_3, Y8_4⟩ := cf5 BK402) | ((with_reducible refine gC 28 rfl ?_); refine goesZ (some 8) rfl Try.func28 #[.agg #[.int .i64 a0_0, .int .i64 a0_1, .slice A0_2 l0_2.length c0_2, .slice A0_3 l0_3.length c0_3, .slice A0_4 l0_4.length c0_4]] ?_; (with_reducible refine (impl_DiskOk.calls k a0_0 a0_1 _ _ l0_2 (fun k_ => k_ < w.heap.size) _ _ l0_3 _ _ l0_4 true _ ?side1 ?side2 ?side3 ?side4 ?side5 A3.out).mono ?_); (case side1 => exact ca (Kd.C_below HR0_2.out HB.out)); (case side2 => exact HC0_2.out); (case side3 => exact Kd.V_mk HC0_3.out (Kd.F_below (Kd.C_F k93_heap HR0_3.out) bl)); (case side4 => exact ca (Kd.C_below HR0_4.out HB.out)); (case side5 => exact HC0_4.out); rintro e w9 ⟨rfl, hb⟩; refine ⟨_, rfl, ?_⟩; replace BK402 := bv BK402 hb; replace HB := bs (w := w) hb; (try clear hb); obtain ⟨Z10_0, Z10_1, Z10_2, Z10_3, Z10_4, Y10_0, Y10_1, Y10_2, Y10_3, Y10_4⟩ := cf5 BK402) | ((with_reducible refine gC 91 rfl ?_); refine goesZ (some 12) rfl Try.func91 #[.agg #[.int .i64 a0_0, .int .i64 a0_1, .slice A0_2 l0_2.length c0_2, .slice A0_3 l0_3.length c0_3, .slice A0_4 l0_4.length c0_4], .string a1] ?_; (with_reducible refine (impl_find.calls k a0_0 a0_1 _ _ l0_2 _ _ l0_3 _ _ l0_4 a1 t404 _ ?side1 ?side2 ?side3 ?side4 ?side5 ?side6 A5.out).mono ?_); (case side1 => exact ca (Kd.C_below HR0_2.out HB.out)); (case side2 => exact HC0_2.out); (case side3 => exact ca (Kd.C_below HR0_3.out HB.out)); (case side4 => exact HC0_3.out); (case side5 => exact ca (Kd.C_below HR0_4.out HB.out)); (case side6 => exact HC0_4.out); rintro e w11 ⟨rfl, hb⟩; refine ⟨_, rfl, ?_⟩; replace BK402 := bv BK402 hb; replace HB := bs (w := w) hb; (try clear hb)))
   go_ret2
   exact ⟨fe, bl⟩
  ·rw [if_neg c6] at H; have c6b0 : decide (t404 < 0) = false := decide_eq_false c6; clear c6; by_cases c12 : 0 ≤ t404
   ·rw [if_pos c12] at H; have c12b0 : decide (0 ≤ t404) = true := decide_eq_true c12; clear c12; by_cases c13 : t404 < (l0_2.length : Int)
    ·rw [if_pos c13] at H; have c13b0 : decide (t404 < (l0_2.length : Int)) = true := decide_eq_true c13; clear c13; simp only [Option.some.injEq, Prod.mk.injEq] at H; obtain ⟨rfl, rfl⟩ := H
     go_enter Try.func30, Try.ntmps30
     go_wp2_with (first | ((with_reducible refine gD 2 rfl ?_); refine boxZ 2 #[.int .i64 a0_0, .int .i64 a0_1, .slice A0_2 l0_2.length c0_2, .slice A0_3 l0_3.length c0_3, .slice A0_4 l0_4.length c0_4] 26 ?_; intro gb402 hg w14 hbox hb; have BK402 := Aside0.mk hbox; have GW402 := gw (w := w) hg; have GE402 := gw (w := w) hg; replace HB := bs (w := w) hb; clear hb hbox hg; obtain ⟨Z15_0, Z15_1, Z15_2, Z15_3, Z15_4, Y15_0, Y15_1, Y15_2, Y15_3, Y15_4⟩ := cf5 BK402) | ((with_reducible refine gC 28 rfl ?_); refine goesZ (some 8) rfl Try.func28 #[.agg #[.int .i64 a0_0, .int .i64 a0_1, .slice A0_2 l0_2.length c0_2, .slice A0_3 l0_3.length c0_3, .slice A0_4 l0_4.length c0_4]] ?_; (with_reducible refine (impl_DiskOk.calls k a0_0 a0_1 _ _ l0_2 (fun k_ => k_ < w.heap.size) _ _ l0_3 _ _ l0_4 true _ ?side1 ?side2 ?side3 ?side4 ?side5 A3.out).mono ?_); (case side1 => exact ca (Kd.C_below HR0_2.out HB.out)); (case side2 => exact HC0_2.out); (case side3 => exact Kd.V_mk HC0_3.out (Kd.F_below (Kd.C_F k93_heap HR0_3.out) bl)); (case side4 => exact ca (Kd.C_below HR0_4.out HB.out)); (case side5 => exact HC0_4.out); rintro e w16 ⟨rfl, hb⟩; refine ⟨_, rfl, ?_⟩; replace BK402 := bv BK402 hb; replace HB := bs (w := w) hb; (try clear hb); obtain ⟨Z17_0, Z17_1, Z17_2, Z17_3, Z17_4, Y17_0, Y17_1, Y17_2, Y17_3, Y17_4⟩ := cf5 BK402) | ((with_reducible refine gC 91 rfl ?_); refine goesZ (some 12) rfl Try.func91 #[.agg #[.int .i64 a0_0, .int .i64 a0_1, .slice A0_2 l0_2.length c0_2, .slice A0_3 l0_3.length c0_3, .slice A0_4 l0_4.length c0_4], .string a1] ?_; (with_reducible refine (impl_find.calls k a0_0 a0_1 _ _ l0_2 _ _ l0_3 _ _ l0_4 a1 t404 _ ?side1 ?side2 ?side3 ?side4 ?side5 ?side6 A5.out).mono ?_); (case side1 => exact ca (Kd.C_below HR0_2.out HB.out)); (case side2 => exact HC0_2.out); (case side3 => exact ca (Kd.C_below HR0_3.out HB.out)); (case side4 => exact HC0_3.out); (case side5 => exact ca (Kd.C_below HR0_4.out HB.out)); (case side6 => exact HC0_4.out); rintro e w18 ⟨rfl, hb⟩; refine ⟨_, rfl, ?_⟩; replace BK402 := bv BK402 hb; replace HB := bs (w := w) hb; (try clear hb); obtain ⟨Z19_0, Z19_1, Z19_2, Z19_3, Z19_4, Y19_0, Y19_1, Y19_2, Y19_3, Y19_4⟩ := cf5 BK402; have p405 : 0 ≤ (t404 : Int) := of_decide_eq_true am; have q405 : t404 < (l0_2.length : Int) := of_decide_eq_true am; obtain ⟨ad405, e405, hx405_0, hx405_1, hx405_2⟩ := at_T89 HR0_2.out t404 p405 q405; cases e405; replace hx405_0 := (HB.out.cell (World.block_lt_of_cell? w _ hx405_0)).trans hx405_0; replace hx405_1 := (HB.out.cell (World.block_lt_of_cell? w _ hx405_1)).trans hx405_1; replace hx405_2 := (HB.out.cell (World.block_lt_of_cell? w _ hx405_2)).trans hx405_2; replace p405 := eq_true p405; replace q405 := eq_true q405))
     go_ret2
     exact ⟨fe, bl⟩
    ·rw [if_neg c13] at H
     exact absurd H (by simp)
   ·rw [if_neg c12] at H
    exact absurd H (by simp)
 ·replace c4 := Bool.eq_false_iff.mpr c4; subst c4; replace H := iF H; simp only [Option.some.injEq, Prod.mk.injEq] at H; obtain ⟨rfl, rfl⟩ := H
  go_enter Try.func30, Try.ntmps30
  go_wp2_with (first | ((with_reducible refine gD 2 rfl ?_); refine boxZ 2 #[.int .i64 a0_0, .int .i64 a0_1, .slice A0_2 l0_2.length c0_2, .slice A0_3 l0_3.length c0_3, .slice A0_4 l0_4.length c0_4] 26 ?_; intro gb402 hg w20 hbox hb; have BK402 := Aside0.mk hbox; have GW402 := gw (w := w) hg; have GE402 := gw (w := w) hg; replace HB := bs (w := w) hb; clear hb hbox hg; obtain ⟨Z21_0, Z21_1, Z21_2, Z21_3, Z21_4, Y21_0, Y21_1, Y21_2, Y21_3, Y21_4⟩ := cf5 BK402) | ((with_reducible refine gC 28 rfl ?_); refine goesZ (some 8) rfl Try.func28 #[.agg #[.int .i64 a0_0, .int .i64 a0_1, .slice A0_2 l0_2.length c0_2, .slice A0_3 l0_3.length c0_3, .slice A0_4 l0_4.length c0_4]] ?_; (with_reducible refine (impl_DiskOk.calls k a0_0 a0_1 _ _ l0_2 (fun k_ => k_ < w.heap.size) _ _ l0_3 _ _ l0_4 false _ ?side1 ?side2 ?side3 ?side4 ?side5 A3.out).mono ?_); (case side1 => exact ca (Kd.C_below HR0_2.out HB.out)); (case side2 => exact HC0_2.out); (case side3 => exact Kd.V_mk HC0_3.out (Kd.F_below (Kd.C_F k93_heap HR0_3.out) bl)); (case side4 => exact ca (Kd.C_below HR0_4.out HB.out)); (case side5 => exact HC0_4.out); rintro e w22 ⟨rfl, hb⟩; refine ⟨_, rfl, ?_⟩; replace BK402 := bv BK402 hb; replace HB := bs (w := w) hb; (try clear hb)))
  go_ret2
  exact ⟨fe, bl⟩
end Go.Proofs.Ytjcmcamijaelbaa.PDisk
