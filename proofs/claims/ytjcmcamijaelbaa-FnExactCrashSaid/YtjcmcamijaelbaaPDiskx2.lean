/- Functions of the program, each with its contract, written by a program out of the translation. -/
import Derived.Test.YtjcmcamijaelbaaPDiskx0
import Derived.Test.YtjcmcamijaelbaaPDiskx1
import Derived.Test.YtjcmcamijaelbaaZap
namespace Go.Proofs.Ytjcmcamijaelbaa.PDisk
open Go.RowKit Go.Proofs.YtjcmcamijaelbaaW.PrintWords Go.Proofs.YtjcmcamijaelbaaW.PrintLast Go.Proofs.YtjcmcamijaelbaaW.PrintMore Go.Proofs.Ytjcmcamijaelbaa.Zip
attribute [local go_sem] max2_int min2_int max_two min_two max_three min_three max_four min_four   -- for this text's walks alone
set_option linter.unusedVariables false
set_option linter.unusedSimpArgs false
/-! ### laws_eqDisk: function 17 -/
def laws_eqDisk.f (k : Nat) (a0_0 : Int) (a0_1 : Int) (l0_2 : List (S89)) (l0_3 : List (S93)) (l0_4 : List (S95)) (a1_0 : Int) (a1_1 : Int) (l1_2 : List (S89)) (l1_3 : List (S93)) (l1_4 : List (S95)) : Option (Bool) := if a0_0 = a1_0 then (if a0_1 = a1_1 then ((laws_eqInodeS.f k l0_2 l1_2).bind fun t118 => (if t118 = true then ((laws_eqLinkS.f k l0_3 l1_3).bind fun t119 => (if t119 = true then ((laws_eqMoveS.f k l0_4 l1_4).bind fun t120 => (if t120 = true then (some true) else (some false))) else (some false))) else (some false))) else (some false)) else (some false)
theorem laws_eqDisk.mono : ∀ a0 a1 a2 a3 a4 a5 a6 a7 a8 a9 k, LeO (laws_eqDisk.f k a0 a1 a2 a3 a4 a5 a6 a7 a8 a9) (laws_eqDisk.f (k + 1) a0 a1 a2 a3 a4 a5 a6 a7 a8 a9) := by
 intro a0 a1 a2 a3 a4 a5 a6 a7 a8 a9 k; unfold laws_eqDisk.f
 repeat' first
  | (with_reducible exact laws_eqInodeS.mono _ _ _)
  | (with_reducible exact laws_eqLinkS.mono _ _ _)
  | (with_reducible exact laws_eqMoveS.mono _ _ _)
  | (with_reducible exact LeO.refl _)
  | (with_reducible exact LeO.none _)
  | (with_reducible refine LeO.ite ?_ ?_)
  | (with_reducible refine LeO.bind ?_ (fun _ => ?_))
set_option maxHeartbeats 8000000 in
set_option maxRecDepth 100000 in
theorem laws_eqDisk.calls (k : Nat) (a0_0 : Int) (a0_1 : Int) (A0_2 : Option Addr) (c0_2 : Nat) (l0_2 : List (S89)) (A0_3 : Option Addr) (c0_3 : Nat) (l0_3 : List (S93)) (A0_4 : Option Addr) (c0_4 : Nat) (l0_4 : List (S95)) (a1_0 : Int) (a1_1 : Int) (A1_2 : Option Addr) (c1_2 : Nat) (l1_2 : List (S89)) (A1_3 : Option Addr) (c1_3 : Nat) (l1_3 : List (S93)) (A1_4 : Option Addr) (c1_4 : Nat) (l1_4 : List (S95)) (r : Bool) (w : World) (hr0_2 : Kd.C k89 w A0_2 l0_2.length l0_2) (hc0_2 : l0_2.length ≤ c0_2) (hr0_3 : Kd.C k93 w A0_3 l0_3.length l0_3) (hc0_3 : l0_3.length ≤ c0_3) (hr0_4 : Kd.C k95 w A0_4 l0_4.length l0_4) (hc0_4 : l0_4.length ≤ c0_4) (hr1_2 : Kd.C k89 w A1_2 l1_2.length l1_2) (hc1_2 : l1_2.length ≤ c1_2) (hr1_3 : Kd.C k93 w A1_3 l1_3.length l1_3) (hc1_3 : l1_3.length ≤ c1_3) (hr1_4 : Kd.C k95 w A1_4 l1_4.length l1_4) (hc1_4 : l1_4.length ≤ c1_4) (h : laws_eqDisk.f k a0_0 a0_1 l0_2 l0_3 l0_4 a1_0 a1_1 l1_2 l1_3 l1_4 = some r) :
 Calls Try.prog 17 #[.agg #[.int .i64 a0_0, .int .i64 a0_1, .slice A0_2 l0_2.length c0_2, .slice A0_3 l0_3.length c0_3, .slice A0_4 l0_4.length c0_4], .agg #[.int .i64 a1_0, .int .i64 a1_1, .slice A1_2 l1_2.length c1_2, .slice A1_3 l1_3.length c1_3, .slice A1_4 l1_4.length c1_4]] w fun e w' => e = .returned (.bool r) ∧ Below w.heap.size w w' := by
 have hu26 := Try.underlying26; have HR0_2 := aK hr0_2; have HC0_2 := aK hc0_2; clear hr0_2 hc0_2; have HR0_3 := aK hr0_3; have HC0_3 := aK hc0_3; clear hr0_3 hc0_3; have HR0_4 := aK hr0_4; have HC0_4 := aK hc0_4; clear hr0_4 hc0_4; have HR1_2 := aK hr1_2; have HC1_2 := aK hc1_2; clear hr1_2 hc1_2; have HR1_3 := aK hr1_3; have HC1_3 := aK hc1_3; clear hr1_3 hc1_3; have HR1_4 := aK hr1_4; have HC1_4 := aK hc1_4; clear hr1_4 hc1_4; have HB := aK (Below.refl w.heap.size w); have H : (if a0_0 = a1_0 then (if a0_1 = a1_1 then ((laws_eqInodeS.f k l0_2 l1_2).bind fun t118 => (if t118 = true then ((laws_eqLinkS.f k l0_3 l1_3).bind fun t119 => (if t119 = true then ((laws_eqMoveS.f k l0_4 l1_4).bind fun t120 => (if t120 = true then (some true) else (some false))) else (some false))) else (some false))) else (some false)) else (some false)) = some r := h; clear h; by_cases c3 : a0_0 = a1_0
 ·rw [if_pos c3] at H; have c3b0 : (a0_0 == a1_0) = true := beq_iff_eq.mpr c3; have c3b1 : (a0_0 != a1_0) = false := bE c3; clear c3; by_cases c4 : a0_1 = a1_1
  ·rw [if_pos c4] at H; have c4b0 : (a0_1 == a1_1) = true := beq_iff_eq.mpr c4; have c4b1 : (a0_1 != a1_1) = false := bE c4; clear c4; obtain ⟨t118, A5, H⟩ := bd H; by_cases c6 : t118 = true
   ·subst c6; replace H := iT H; obtain ⟨t119, A7, H⟩ := bd H; by_cases c8 : t119 = true
    ·subst c8; replace H := iT H; obtain ⟨t120, A9, H⟩ := bd H; by_cases c10 : t120 = true
     ·subst c10; replace H := iT H; obtain rfl := oj H
      go_enter Try.func17, Try.ntmps17
      go_wp2_with (first | ((with_reducible refine gD 2 rfl ?_); refine boxZ 2 #[.int .i64 a0_0, .int .i64 a0_1, .slice A0_2 l0_2.length c0_2, .slice A0_3 l0_3.length c0_3, .slice A0_4 l0_4.length c0_4] 26 ?_; intro gb116 hg wq1 hbox hb; have BK116 := aK hbox; have GW116 := gW HB hg; replace HB := bS HB hb; clear hb hbox hg) | ((with_reducible refine gD 3 rfl ?_); refine boxZ 3 #[.int .i64 a1_0, .int .i64 a1_1, .slice A1_2 l1_2.length c1_2, .slice A1_3 l1_3.length c1_3, .slice A1_4 l1_4.length c1_4] 26 ?_; intro gb117 hg wq2 hbox hb; have BK117 := aK hbox; have GW117 := gW HB hg; replace HB := bS HB hb; have NB116_117 := nl BK116 hg; have NB117_116 := nr BK116 hg; replace BK116 := bv BK116 hb; clear hb hbox hg; have hnbq1 := NB116_117.o; have hncq1 := NB117_116.o; obtain ⟨_, _, _, _, _, _, _, _, _, _⟩ := cf5 BK116; obtain ⟨_, _, _, _, _, _, _, _, _, _⟩ := cf5 BK117) | ((with_reducible refine gC 55 rfl ?_); refine goesZ (some 19) rfl Try.func55 #[.slice A0_2 l0_2.length c0_2, .slice A1_2 l1_2.length c1_2] ?_; (with_reducible refine (laws_eqInodeS.calls k _ _ l0_2 _ _ l1_2 _ _ ?_ ?_ ?_ ?_ A5.o).mono ?_); exact cB HR0_2 HB; exact HC0_2.o; exact cB HR1_2 HB; exact HC1_2.o; rintro e wq3 ⟨rfl, hb⟩; refine ⟨_, rfl, ?_⟩; replace BK116 := bv BK116 hb; replace BK117 := bv BK117 hb; replace HB := bS HB hb; (try clear hb); obtain ⟨_, _, _, _, _, _, _, _, _, _⟩ := cf5 BK116; obtain ⟨_, _, _, _, _, _, _, _, _, _⟩ := cf5 BK117) | ((with_reducible refine gC 56 rfl ?_); refine goesZ (some 25) rfl Try.func56 #[.slice A0_3 l0_3.length c0_3, .slice A1_3 l1_3.length c1_3] ?_; (with_reducible refine (laws_eqLinkS.calls k _ _ l0_3 _ _ l1_3 _ _ ?_ ?_ ?_ ?_ A7.o).mono ?_); exact cB HR0_3 HB; exact HC0_3.o; exact cB HR1_3 HB; exact HC1_3.o; rintro e wq4 ⟨rfl, hb⟩; refine ⟨_, rfl, ?_⟩; replace BK116 := bv BK116 hb; replace BK117 := bv BK117 hb; replace HB := bS HB hb; (try clear hb); obtain ⟨_, _, _, _, _, _, _, _, _, _⟩ := cf5 BK116; obtain ⟨_, _, _, _, _, _, _, _, _, _⟩ := cf5 BK117) | ((with_reducible refine gC 57 rfl ?_); refine goesZ (some 31) rfl Try.func57 #[.slice A0_4 l0_4.length c0_4, .slice A1_4 l1_4.length c1_4] ?_; (with_reducible refine (laws_eqMoveS.calls k _ _ l0_4 _ _ l1_4 _ _ ?_ ?_ ?_ ?_ A9.o).mono ?_); exact cB HR0_4 HB; exact HC0_4.o; exact cB HR1_4 HB; exact HC1_4.o; rintro e wq5 ⟨rfl, hb⟩; refine ⟨_, rfl, ?_⟩; replace BK116 := bv BK116 hb; replace BK117 := bv BK117 hb; replace HB := bS HB hb; (try clear hb)))
      go_ret
      exact ⟨fe, bl⟩
     ·replace c10 := bF c10; subst c10; replace H := iF H; obtain rfl := oj H
      go_enter Try.func17, Try.ntmps17
      go_wp2_with (first | ((with_reducible refine gD 2 rfl ?_); refine boxZ 2 #[.int .i64 a0_0, .int .i64 a0_1, .slice A0_2 l0_2.length c0_2, .slice A0_3 l0_3.length c0_3, .slice A0_4 l0_4.length c0_4] 26 ?_; intro gb116 hg wq1 hbox hb; have BK116 := aK hbox; have GW116 := gW HB hg; replace HB := bS HB hb; clear hb hbox hg) | ((with_reducible refine gD 3 rfl ?_); refine boxZ 3 #[.int .i64 a1_0, .int .i64 a1_1, .slice A1_2 l1_2.length c1_2, .slice A1_3 l1_3.length c1_3, .slice A1_4 l1_4.length c1_4] 26 ?_; intro gb117 hg wq2 hbox hb; have BK117 := aK hbox; have GW117 := gW HB hg; replace HB := bS HB hb; have NB116_117 := nl BK116 hg; have NB117_116 := nr BK116 hg; replace BK116 := bv BK116 hb; clear hb hbox hg; have hnbq1 := NB116_117.o; have hncq1 := NB117_116.o; obtain ⟨_, _, _, _, _, _, _, _, _, _⟩ := cf5 BK116; obtain ⟨_, _, _, _, _, _, _, _, _, _⟩ := cf5 BK117) | ((with_reducible refine gC 55 rfl ?_); refine goesZ (some 19) rfl Try.func55 #[.slice A0_2 l0_2.length c0_2, .slice A1_2 l1_2.length c1_2] ?_; (with_reducible refine (laws_eqInodeS.calls k _ _ l0_2 _ _ l1_2 _ _ ?_ ?_ ?_ ?_ A5.o).mono ?_); exact cB HR0_2 HB; exact HC0_2.o; exact cB HR1_2 HB; exact HC1_2.o; rintro e wq3 ⟨rfl, hb⟩; refine ⟨_, rfl, ?_⟩; replace BK116 := bv BK116 hb; replace BK117 := bv BK117 hb; replace HB := bS HB hb; (try clear hb); obtain ⟨_, _, _, _, _, _, _, _, _, _⟩ := cf5 BK116; obtain ⟨_, _, _, _, _, _, _, _, _, _⟩ := cf5 BK117) | ((with_reducible refine gC 56 rfl ?_); refine goesZ (some 25) rfl Try.func56 #[.slice A0_3 l0_3.length c0_3, .slice A1_3 l1_3.length c1_3] ?_; (with_reducible refine (laws_eqLinkS.calls k _ _ l0_3 _ _ l1_3 _ _ ?_ ?_ ?_ ?_ A7.o).mono ?_); exact cB HR0_3 HB; exact HC0_3.o; exact cB HR1_3 HB; exact HC1_3.o; rintro e wq4 ⟨rfl, hb⟩; refine ⟨_, rfl, ?_⟩; replace BK116 := bv BK116 hb; replace BK117 := bv BK117 hb; replace HB := bS HB hb; (try clear hb); obtain ⟨_, _, _, _, _, _, _, _, _, _⟩ := cf5 BK116; obtain ⟨_, _, _, _, _, _, _, _, _, _⟩ := cf5 BK117) | ((with_reducible refine gC 57 rfl ?_); refine goesZ (some 31) rfl Try.func57 #[.slice A0_4 l0_4.length c0_4, .slice A1_4 l1_4.length c1_4] ?_; (with_reducible refine (laws_eqMoveS.calls k _ _ l0_4 _ _ l1_4 _ _ ?_ ?_ ?_ ?_ A9.o).mono ?_); exact cB HR0_4 HB; exact HC0_4.o; exact cB HR1_4 HB; exact HC1_4.o; rintro e wq5 ⟨rfl, hb⟩; refine ⟨_, rfl, ?_⟩; replace BK116 := bv BK116 hb; replace BK117 := bv BK117 hb; replace HB := bS HB hb; (try clear hb)))
      go_ret
      exact ⟨fe, bl⟩
    ·replace c8 := bF c8; subst c8; replace H := iF H; obtain rfl := oj H
     go_enter Try.func17, Try.ntmps17
     go_wp2_with (first | ((with_reducible refine gD 2 rfl ?_); refine boxZ 2 #[.int .i64 a0_0, .int .i64 a0_1, .slice A0_2 l0_2.length c0_2, .slice A0_3 l0_3.length c0_3, .slice A0_4 l0_4.length c0_4] 26 ?_; intro gb116 hg wq1 hbox hb; have BK116 := aK hbox; have GW116 := gW HB hg; replace HB := bS HB hb; clear hb hbox hg) | ((with_reducible refine gD 3 rfl ?_); refine boxZ 3 #[.int .i64 a1_0, .int .i64 a1_1, .slice A1_2 l1_2.length c1_2, .slice A1_3 l1_3.length c1_3, .slice A1_4 l1_4.length c1_4] 26 ?_; intro gb117 hg wq2 hbox hb; have BK117 := aK hbox; have GW117 := gW HB hg; replace HB := bS HB hb; have NB116_117 := nl BK116 hg; have NB117_116 := nr BK116 hg; replace BK116 := bv BK116 hb; clear hb hbox hg; have hnbq1 := NB116_117.o; have hncq1 := NB117_116.o; obtain ⟨_, _, _, _, _, _, _, _, _, _⟩ := cf5 BK116; obtain ⟨_, _, _, _, _, _, _, _, _, _⟩ := cf5 BK117) | ((with_reducible refine gC 55 rfl ?_); refine goesZ (some 19) rfl Try.func55 #[.slice A0_2 l0_2.length c0_2, .slice A1_2 l1_2.length c1_2] ?_; (with_reducible refine (laws_eqInodeS.calls k _ _ l0_2 _ _ l1_2 _ _ ?_ ?_ ?_ ?_ A5.o).mono ?_); exact cB HR0_2 HB; exact HC0_2.o; exact cB HR1_2 HB; exact HC1_2.o; rintro e wq3 ⟨rfl, hb⟩; refine ⟨_, rfl, ?_⟩; replace BK116 := bv BK116 hb; replace BK117 := bv BK117 hb; replace HB := bS HB hb; (try clear hb); obtain ⟨_, _, _, _, _, _, _, _, _, _⟩ := cf5 BK116; obtain ⟨_, _, _, _, _, _, _, _, _, _⟩ := cf5 BK117) | ((with_reducible refine gC 56 rfl ?_); refine goesZ (some 25) rfl Try.func56 #[.slice A0_3 l0_3.length c0_3, .slice A1_3 l1_3.length c1_3] ?_; (with_reducible refine (laws_eqLinkS.calls k _ _ l0_3 _ _ l1_3 _ _ ?_ ?_ ?_ ?_ A7.o).mono ?_); exact cB HR0_3 HB; exact HC0_3.o; exact cB HR1_3 HB; exact HC1_3.o; rintro e wq4 ⟨rfl, hb⟩; refine ⟨_, rfl, ?_⟩; replace BK116 := bv BK116 hb; replace BK117 := bv BK117 hb; replace HB := bS HB hb; (try clear hb)))
     go_ret
     exact ⟨fe, bl⟩
   ·replace c6 := bF c6; subst c6; replace H := iF H; obtain rfl := oj H
    go_enter Try.func17, Try.ntmps17
    go_wp2_with (first | ((with_reducible refine gD 2 rfl ?_); refine boxZ 2 #[.int .i64 a0_0, .int .i64 a0_1, .slice A0_2 l0_2.length c0_2, .slice A0_3 l0_3.length c0_3, .slice A0_4 l0_4.length c0_4] 26 ?_; intro gb116 hg wq1 hbox hb; have BK116 := aK hbox; have GW116 := gW HB hg; replace HB := bS HB hb; clear hb hbox hg) | ((with_reducible refine gD 3 rfl ?_); refine boxZ 3 #[.int .i64 a1_0, .int .i64 a1_1, .slice A1_2 l1_2.length c1_2, .slice A1_3 l1_3.length c1_3, .slice A1_4 l1_4.length c1_4] 26 ?_; intro gb117 hg wq2 hbox hb; have BK117 := aK hbox; have GW117 := gW HB hg; replace HB := bS HB hb; have NB116_117 := nl BK116 hg; have NB117_116 := nr BK116 hg; replace BK116 := bv BK116 hb; clear hb hbox hg; have hnbq1 := NB116_117.o; have hncq1 := NB117_116.o; obtain ⟨_, _, _, _, _, _, _, _, _, _⟩ := cf5 BK116; obtain ⟨_, _, _, _, _, _, _, _, _, _⟩ := cf5 BK117) | ((with_reducible refine gC 55 rfl ?_); refine goesZ (some 19) rfl Try.func55 #[.slice A0_2 l0_2.length c0_2, .slice A1_2 l1_2.length c1_2] ?_; (with_reducible refine (laws_eqInodeS.calls k _ _ l0_2 _ _ l1_2 _ _ ?_ ?_ ?_ ?_ A5.o).mono ?_); exact cB HR0_2 HB; exact HC0_2.o; exact cB HR1_2 HB; exact HC1_2.o; rintro e wq3 ⟨rfl, hb⟩; refine ⟨_, rfl, ?_⟩; replace BK116 := bv BK116 hb; replace BK117 := bv BK117 hb; replace HB := bS HB hb; (try clear hb)))
    go_ret
    exact ⟨fe, bl⟩
  ·rw [if_neg c4] at H; have c4b0 : (a0_1 == a1_1) = false := bN c4; have c4b1 : (a0_1 != a1_1) = true := bne_iff_ne.mpr c4; obtain rfl := oj H
   go_enter Try.func17, Try.ntmps17
   go_wp2_with (first | ((with_reducible refine gD 2 rfl ?_); refine boxZ 2 #[.int .i64 a0_0, .int .i64 a0_1, .slice A0_2 l0_2.length c0_2, .slice A0_3 l0_3.length c0_3, .slice A0_4 l0_4.length c0_4] 26 ?_; intro gb116 hg wq1 hbox hb; have BK116 := aK hbox; have GW116 := gW HB hg; replace HB := bS HB hb; clear hb hbox hg) | ((with_reducible refine gD 3 rfl ?_); refine boxZ 3 #[.int .i64 a1_0, .int .i64 a1_1, .slice A1_2 l1_2.length c1_2, .slice A1_3 l1_3.length c1_3, .slice A1_4 l1_4.length c1_4] 26 ?_; intro gb117 hg wq2 hbox hb; have BK117 := aK hbox; have GW117 := gW HB hg; replace HB := bS HB hb; have NB116_117 := nl BK116 hg; have NB117_116 := nr BK116 hg; replace BK116 := bv BK116 hb; clear hb hbox hg; have hnbq1 := NB116_117.o; have hncq1 := NB117_116.o; obtain ⟨_, _, _, _, _, _, _, _, _, _⟩ := cf5 BK116; obtain ⟨_, _, _, _, _, _, _, _, _, _⟩ := cf5 BK117))
   go_ret
   exact ⟨fe, bl⟩
 ·rw [if_neg c3] at H; have c3b0 : (a0_0 == a1_0) = false := bN c3; have c3b1 : (a0_0 != a1_0) = true := bne_iff_ne.mpr c3; obtain rfl := oj H
  go_enter Try.func17, Try.ntmps17
  go_wp2_with (first | ((with_reducible refine gD 2 rfl ?_); refine boxZ 2 #[.int .i64 a0_0, .int .i64 a0_1, .slice A0_2 l0_2.length c0_2, .slice A0_3 l0_3.length c0_3, .slice A0_4 l0_4.length c0_4] 26 ?_; intro gb116 hg wq1 hbox hb; have BK116 := aK hbox; have GW116 := gW HB hg; replace HB := bS HB hb; clear hb hbox hg) | ((with_reducible refine gD 3 rfl ?_); refine boxZ 3 #[.int .i64 a1_0, .int .i64 a1_1, .slice A1_2 l1_2.length c1_2, .slice A1_3 l1_3.length c1_3, .slice A1_4 l1_4.length c1_4] 26 ?_; intro gb117 hg wq2 hbox hb; have BK117 := aK hbox; have GW117 := gW HB hg; replace HB := bS HB hb; have NB116_117 := nl BK116 hg; have NB117_116 := nr BK116 hg; replace BK116 := bv BK116 hb; clear hb hbox hg; have hnbq1 := NB116_117.o; have hncq1 := NB117_116.o; obtain ⟨_, _, _, _, _, _, _, _, _, _⟩ := cf5 BK116; obtain ⟨_, _, _, _, _, _, _, _, _, _⟩ := cf5 BK117))
  go_ret
  exact ⟨fe, bl⟩
/-! ### laws_szInode: function 123 -/
def laws_szInode.f (a0_0 : Int) (a0_1 : ByteArray) (a0_2 : Int) (a1 : Int) : Option (Int) := if (wrap64 (a1 - (a0_1.size : Int))) < 0 then (some (-1)) else (some (wrap64 (a1 - (a0_1.size : Int))))
set_option maxHeartbeats 8000000 in
set_option maxRecDepth 100000 in
theorem laws_szInode.calls (a0_0 : Int) (a0_1 : ByteArray) (a0_2 : Int) (a1 : Int) (r : Int) (w : World) (h : laws_szInode.f a0_0 a0_1 a0_2 a1 = some r) :
 Calls Try.prog 123 #[.agg #[.int .i64 a0_0, .string a0_1, .int .i64 a0_2], .int .i64 a1] w fun e w' => e = .returned (.int .i64 r) ∧ Below w.heap.size w w' := by
 have hu134 := Try.underlying134; have HB := aK (Below.refl w.heap.size w); have H : (if (wrap64 (a1 - (a0_1.size : Int))) < 0 then (some (-1)) else (some (wrap64 (a1 - (a0_1.size : Int))))) = some r := h; clear h; by_cases c3 : (wrap64 (a1 - (a0_1.size : Int))) < 0
 ·rw [if_pos c3] at H; have c3b0 : decide ((wrap64 (a1 - (a0_1.size : Int))) < 0) = true := dt c3; clear c3; obtain rfl := oj H
  go_enter Try.func123, Try.ntmps123
  go_wp2_with (first | ((with_reducible refine gD 2 rfl ?_); refine boxZ 2 #[.int .i64 a0_0, .string a0_1, .int .i64 a0_2] 134 ?_; intro gb121 hg wq1 hbox hb; have BK121 := aK hbox; have GW121 := gW HB hg; replace HB := bS HB hb; clear hb hbox hg; obtain ⟨_, _, _, _, _, _⟩ := cf3 BK121))
  go_ret
  exact ⟨fe, bl⟩
 ·rw [if_neg c3] at H; have c3b0 : decide ((wrap64 (a1 - (a0_1.size : Int))) < 0) = false := df c3; clear c3; obtain rfl := oj H
  go_enter Try.func123, Try.ntmps123
  go_wp2_with (first | ((with_reducible refine gD 2 rfl ?_); refine boxZ 2 #[.int .i64 a0_0, .string a0_1, .int .i64 a0_2] 134 ?_; intro gb121 hg wq1 hbox hb; have BK121 := aK hbox; have GW121 := gW HB hg; replace HB := bS HB hb; clear hb hbox hg; obtain ⟨_, _, _, _, _, _⟩ := cf3 BK121))
  go_ret
  exact ⟨fe, bl⟩
/-! ### laws_szInodeS: function 73 -/
def laws_szInodeS.l0 : Nat → List (S134) → Int → Int → Option (Int)
 | 0, _, _, _ => none
 | k + 1, x0, x1, x5 => if x5 < (x0.length : Int) then (if 0 ≤ x5 then ((laws_szInode.f ((rd_T134 x0 x5).f0) ((rd_T134 x0 x5).f1) ((rd_T134 x0 x5).f2) x1).bind fun t123 => (if t123 < 0 then (some (-1)) else (laws_szInodeS.l0 k x0 t123 (wrap64 (x5 + 1))))) else (none)) else (some x1)
def laws_szInodeS.f (k : Nat) (l0 : List (S134)) (a1 : Int) : Option (Int) := if (wrap64 (a1 - (l0.length : Int))) < 0 then (some (-1)) else (laws_szInodeS.l0 k l0 (wrap64 (a1 - (l0.length : Int))) 0)
theorem laws_szInodeS.mono_l : ∀ k, (∀ y0 y1 y2, LeO (laws_szInodeS.l0 k y0 y1 y2) (laws_szInodeS.l0 (k + 1) y0 y1 y2))
 | 0 => fun _ _ _ r h => by simp [laws_szInodeS.l0] at h
 | k + 1 => by
  have ih0 := laws_szInodeS.mono_l k
  ·intro y0 y1 y2
   unfold laws_szInodeS.l0
   repeat' first
   | (with_reducible exact ih0 _ _ _)
   | (with_reducible exact LeO.refl _)
   | (with_reducible exact LeO.none _)
   | (with_reducible refine LeO.ite ?_ ?_)
   | (with_reducible refine LeO.bind ?_ (fun _ => ?_))
theorem laws_szInodeS.mono : ∀ a0 a1 k, LeO (laws_szInodeS.f k a0 a1) (laws_szInodeS.f (k + 1) a0 a1) := by
 intro a0 a1 k; have ih0 := laws_szInodeS.mono_l k; unfold laws_szInodeS.f
 repeat' first
  | (with_reducible exact ih0 _ _ _)
  | (with_reducible exact LeO.refl _)
  | (with_reducible exact LeO.none _)
  | (with_reducible refine LeO.ite ?_ ?_)
  | (with_reducible refine LeO.bind ?_ (fun _ => ?_))
set_option maxHeartbeats 8000000 in
set_option maxRecDepth 100000 in
theorem laws_szInodeS.calls (k : Nat) (A0 : Option Addr) (c0 : Nat) (l0 : List (S134)) (a1 : Int) (r : Int) (w : World) (hr0 : Kd.C k134 w A0 l0.length l0) (hc0 : l0.length ≤ c0) (h : laws_szInodeS.f k l0 a1 = some r) :
 Calls Try.prog 73 #[.slice A0 l0.length c0, .int .i64 a1] w fun e w' => e = .returned (.int .i64 r) ∧ Below w.heap.size w w' := by
 have hu134 := Try.underlying134; have HR0 := aK hr0; have HC0 := aK hc0; clear hr0 hc0; have HB := aK (Below.refl w.heap.size w); have H : (if (wrap64 (a1 - (l0.length : Int))) < 0 then (some (-1)) else (laws_szInodeS.l0 k l0 (wrap64 (a1 - (l0.length : Int))) 0)) = some r := h; clear h; by_cases c3 : (wrap64 (a1 - (l0.length : Int))) < 0
 ·rw [if_pos c3] at H; have c3b0 : decide ((wrap64 (a1 - (l0.length : Int))) < 0) = true := dt c3; clear c3; obtain rfl := oj H
  go_enter Try.func73, Try.ntmps73
  go_wp2
  go_ret
  exact ⟨fe, bl⟩
 ·rw [if_neg c3] at H; have c3b0 : decide ((wrap64 (a1 - (l0.length : Int))) < 0) = false := df c3; clear c3; have H' := aK H; clear H
  go_enter Try.func73, Try.ntmps73
  go_wp2
  go_loopg [1, 5] k (fun kq v1 v5 w' => ∃ (x1_1 : Int) (x5_1 : Int), v1 = .int .i64 x1_1 ∧ v5 = .int .i64 x5_1 ∧ Aside0 (laws_szInodeS.l0 kq l0 x1_1 x5_1 = some r) ∧ Aside0 (kq ≤ k) ∧ Aside0 (Below w.heap.size w w'))
  case atStart => exact ⟨(wrap64 (a1 - (l0.length : Int))), (0), fa, fa, H', ⟨Nat.le_refl _⟩, ⟨bl⟩⟩
  case round =>
   clear H'; (try clear p2); (try clear c3); (try clear c3b0); obtain ⟨x1_1, x5_1, rfl, rfl, HA, HK1, HB⟩ := hrel; cases gk with
   | zero => exact absurd HA.o (by simp [laws_szInodeS.l0])
   | succ k1 =>
    have H := HA.o; clear HA; simp only [laws_szInodeS.l0] at H; by_cases c4 : x5_1 < (l0.length : Int)
    ·rw [if_pos c4] at H; have c4b0 : decide (x5_1 < (l0.length : Int)) = true := dt c4; clear c4; by_cases c5 : 0 ≤ x5_1
     ·rw [if_pos c5] at H; have c5b0 : decide (0 ≤ x5_1) = true := dt c5; clear c5; obtain ⟨t123, A6, H⟩ := bd H; have Hq_ := aK H; clear H; have p122 : 0 ≤ (x5_1 : Int) := dT am; have q122 : x5_1 < (l0.length : Int) := dT am; obtain ⟨ad122, e122, hx122_0, hx122_1, hx122_2⟩ := at_T134 HR0.o x5_1 p122 q122; cases e122; replace hx122_0 := cz HB hx122_0; replace hx122_1 := cz HB hx122_1; replace hx122_2 := cz HB hx122_2; replace p122 := eq_true p122; replace q122 := eq_true q122; have H := Hq_.o; clear Hq_; by_cases c7 : t123 < 0
      ·rw [if_pos c7] at H; have c7b0 : decide (t123 < 0) = true := dt c7; (try rw [c7b0]); clear c7; obtain rfl := oj H; go_wp2_with (first | ((with_reducible refine gC 123 rfl ?_); refine goesZ (some 23) rfl Try.func123 #[.agg #[.int .i64 ((rd_T134 l0 x5_1).f0), .string ((rd_T134 l0 x5_1).f1), .int .i64 ((rd_T134 l0 x5_1).f2)], .int .i64 x1_1] ?_; (with_reducible refine (laws_szInode.calls ((rd_T134 l0 x5_1).f0) ((rd_T134 l0 x5_1).f1) ((rd_T134 l0 x5_1).f2) x1_1 t123 _ A6.o).mono ?_); rintro e wr1 ⟨rfl, hb⟩; refine ⟨_, rfl, ?_⟩; replace HB := bS HB hb; (try clear hb)))
       go_ret
       exact ⟨fe, bl⟩
      ·rw [if_neg c7] at H; have c7b0 : decide (t123 < 0) = false := df c7; (try rw [c7b0]); clear c7; have H' := aK H; clear H; go_wp2_with (first | ((with_reducible refine gC 123 rfl ?_); refine goesZ (some 23) rfl Try.func123 #[.agg #[.int .i64 ((rd_T134 l0 x5_1).f0), .string ((rd_T134 l0 x5_1).f1), .int .i64 ((rd_T134 l0 x5_1).f2)], .int .i64 x1_1] ?_; (with_reducible refine (laws_szInode.calls ((rd_T134 l0 x5_1).f0) ((rd_T134 l0 x5_1).f1) ((rd_T134 l0 x5_1).f2) x1_1 t123 _ A6.o).mono ?_); rintro e wr1 ⟨rfl, hb⟩; refine ⟨_, rfl, ?_⟩; replace HB := bS HB hb; (try clear hb)))
       go_roundg k1
       case measure => have := HK1.o; omega
       case rel => exact ⟨(t123), (wrap64 (x5_1 + 1)), fa, fa, H', ⟨by have := HK1.o; omega⟩, ⟨bl⟩⟩
     ·rw [if_neg c5] at H; exact absurd H (by simp)
    ·rw [if_neg c4] at H; have c4b0 : decide (x5_1 < (l0.length : Int)) = false := df c4; clear c4; obtain rfl := oj H; go_wp2
     go_ret
     exact ⟨fe, bl⟩
/-! ### laws_szLink: function 124 -/
def laws_szLink.f (a0_0 : ByteArray) (a0_1 : Int) (a1 : Int) : Option (Int) := if (wrap64 (a1 - (a0_0.size : Int))) < 0 then (some (-1)) else (some (wrap64 (a1 - (a0_0.size : Int))))
set_option maxHeartbeats 8000000 in
set_option maxRecDepth 100000 in
theorem laws_szLink.calls (a0_0 : ByteArray) (a0_1 : Int) (a1 : Int) (r : Int) (w : World) (h : laws_szLink.f a0_0 a0_1 a1 = some r) :
 Calls Try.prog 124 #[.agg #[.string a0_0, .int .i64 a0_1], .int .i64 a1] w fun e w' => e = .returned (.int .i64 r) ∧ Below w.heap.size w w' := by
 have hu136 := Try.underlying136; have HB := aK (Below.refl w.heap.size w); have H : (if (wrap64 (a1 - (a0_0.size : Int))) < 0 then (some (-1)) else (some (wrap64 (a1 - (a0_0.size : Int))))) = some r := h; clear h; by_cases c3 : (wrap64 (a1 - (a0_0.size : Int))) < 0
 ·rw [if_pos c3] at H; have c3b0 : decide ((wrap64 (a1 - (a0_0.size : Int))) < 0) = true := dt c3; clear c3; obtain rfl := oj H
  go_enter Try.func124, Try.ntmps124
  go_wp2_with (first | ((with_reducible refine gD 2 rfl ?_); refine boxZ 2 #[.string a0_0, .int .i64 a0_1] 136 ?_; intro gb124 hg wq1 hbox hb; have BK124 := aK hbox; have GW124 := gW HB hg; replace HB := bS HB hb; clear hb hbox hg; obtain ⟨_, _, _, _⟩ := cf2 BK124))
  go_ret
  exact ⟨fe, bl⟩
 ·rw [if_neg c3] at H; have c3b0 : decide ((wrap64 (a1 - (a0_0.size : Int))) < 0) = false := df c3; clear c3; obtain rfl := oj H
  go_enter Try.func124, Try.ntmps124
  go_wp2_with (first | ((with_reducible refine gD 2 rfl ?_); refine boxZ 2 #[.string a0_0, .int .i64 a0_1] 136 ?_; intro gb124 hg wq1 hbox hb; have BK124 := aK hbox; have GW124 := gW HB hg; replace HB := bS HB hb; clear hb hbox hg; obtain ⟨_, _, _, _⟩ := cf2 BK124))
  go_ret
  exact ⟨fe, bl⟩
/-! ### laws_szLinkS: function 74 -/
def laws_szLinkS.l0 : Nat → List (S136) → Int → Int → Option (Int)
 | 0, _, _, _ => none
 | k + 1, x0, x1, x5 => if x5 < (x0.length : Int) then (if 0 ≤ x5 then ((laws_szLink.f ((rd_T136 x0 x5).f0) ((rd_T136 x0 x5).f1) x1).bind fun t126 => (if t126 < 0 then (some (-1)) else (laws_szLinkS.l0 k x0 t126 (wrap64 (x5 + 1))))) else (none)) else (some x1)
def laws_szLinkS.f (k : Nat) (l0 : List (S136)) (a1 : Int) : Option (Int) := if (wrap64 (a1 - (l0.length : Int))) < 0 then (some (-1)) else (laws_szLinkS.l0 k l0 (wrap64 (a1 - (l0.length : Int))) 0)
theorem laws_szLinkS.mono_l : ∀ k, (∀ y0 y1 y2, LeO (laws_szLinkS.l0 k y0 y1 y2) (laws_szLinkS.l0 (k + 1) y0 y1 y2))
 | 0 => fun _ _ _ r h => by simp [laws_szLinkS.l0] at h
 | k + 1 => by
  have ih0 := laws_szLinkS.mono_l k
  ·intro y0 y1 y2
   unfold laws_szLinkS.l0
   repeat' first
   | (with_reducible exact ih0 _ _ _)
   | (with_reducible exact LeO.refl _)
   | (with_reducible exact LeO.none _)
   | (with_reducible refine LeO.ite ?_ ?_)
   | (with_reducible refine LeO.bind ?_ (fun _ => ?_))
theorem laws_szLinkS.mono : ∀ a0 a1 k, LeO (laws_szLinkS.f k a0 a1) (laws_szLinkS.f (k + 1) a0 a1) := by
 intro a0 a1 k; have ih0 := laws_szLinkS.mono_l k; unfold laws_szLinkS.f
 repeat' first
  | (with_reducible exact ih0 _ _ _)
  | (with_reducible exact LeO.refl _)
  | (with_reducible exact LeO.none _)
  | (with_reducible refine LeO.ite ?_ ?_)
  | (with_reducible refine LeO.bind ?_ (fun _ => ?_))
set_option maxHeartbeats 8000000 in
set_option maxRecDepth 100000 in
theorem laws_szLinkS.calls (k : Nat) (A0 : Option Addr) (c0 : Nat) (l0 : List (S136)) (a1 : Int) (r : Int) (w : World) (hr0 : Kd.C k136 w A0 l0.length l0) (hc0 : l0.length ≤ c0) (h : laws_szLinkS.f k l0 a1 = some r) :
 Calls Try.prog 74 #[.slice A0 l0.length c0, .int .i64 a1] w fun e w' => e = .returned (.int .i64 r) ∧ Below w.heap.size w w' := by
 have hu136 := Try.underlying136; have HR0 := aK hr0; have HC0 := aK hc0; clear hr0 hc0; have HB := aK (Below.refl w.heap.size w); have H : (if (wrap64 (a1 - (l0.length : Int))) < 0 then (some (-1)) else (laws_szLinkS.l0 k l0 (wrap64 (a1 - (l0.length : Int))) 0)) = some r := h; clear h; by_cases c3 : (wrap64 (a1 - (l0.length : Int))) < 0
 ·rw [if_pos c3] at H; have c3b0 : decide ((wrap64 (a1 - (l0.length : Int))) < 0) = true := dt c3; clear c3; obtain rfl := oj H
  go_enter Try.func74, Try.ntmps74
  go_wp2
  go_ret
  exact ⟨fe, bl⟩
 ·rw [if_neg c3] at H; have c3b0 : decide ((wrap64 (a1 - (l0.length : Int))) < 0) = false := df c3; clear c3; have H' := aK H; clear H
  go_enter Try.func74, Try.ntmps74
  go_wp2
  go_loopg [1, 5] k (fun kq v1 v5 w' => ∃ (x1_1 : Int) (x5_1 : Int), v1 = .int .i64 x1_1 ∧ v5 = .int .i64 x5_1 ∧ Aside0 (laws_szLinkS.l0 kq l0 x1_1 x5_1 = some r) ∧ Aside0 (kq ≤ k) ∧ Aside0 (Below w.heap.size w w'))
  case atStart => exact ⟨(wrap64 (a1 - (l0.length : Int))), (0), fa, fa, H', ⟨Nat.le_refl _⟩, ⟨bl⟩⟩
  case round =>
   clear H'; (try clear p2); (try clear c3); (try clear c3b0); obtain ⟨x1_1, x5_1, rfl, rfl, HA, HK1, HB⟩ := hrel; cases gk with
   | zero => exact absurd HA.o (by simp [laws_szLinkS.l0])
   | succ k1 =>
    have H := HA.o; clear HA; simp only [laws_szLinkS.l0] at H; by_cases c4 : x5_1 < (l0.length : Int)
    ·rw [if_pos c4] at H; have c4b0 : decide (x5_1 < (l0.length : Int)) = true := dt c4; clear c4; by_cases c5 : 0 ≤ x5_1
     ·rw [if_pos c5] at H; have c5b0 : decide (0 ≤ x5_1) = true := dt c5; clear c5; obtain ⟨t126, A6, H⟩ := bd H; have Hq_ := aK H; clear H; have p125 : 0 ≤ (x5_1 : Int) := dT am; have q125 : x5_1 < (l0.length : Int) := dT am; obtain ⟨ad125, e125, hx125_0, hx125_1⟩ := at_T136 HR0.o x5_1 p125 q125; cases e125; replace hx125_0 := cz HB hx125_0; replace hx125_1 := cz HB hx125_1; replace p125 := eq_true p125; replace q125 := eq_true q125; have H := Hq_.o; clear Hq_; by_cases c7 : t126 < 0
      ·rw [if_pos c7] at H; have c7b0 : decide (t126 < 0) = true := dt c7; (try rw [c7b0]); clear c7; obtain rfl := oj H; go_wp2_with (first | ((with_reducible refine gC 124 rfl ?_); refine goesZ (some 23) rfl Try.func124 #[.agg #[.string ((rd_T136 l0 x5_1).f0), .int .i64 ((rd_T136 l0 x5_1).f1)], .int .i64 x1_1] ?_; (with_reducible refine (laws_szLink.calls ((rd_T136 l0 x5_1).f0) ((rd_T136 l0 x5_1).f1) x1_1 t126 _ A6.o).mono ?_); rintro e wr1 ⟨rfl, hb⟩; refine ⟨_, rfl, ?_⟩; replace HB := bS HB hb; (try clear hb)))
       go_ret
       exact ⟨fe, bl⟩
      ·rw [if_neg c7] at H; have c7b0 : decide (t126 < 0) = false := df c7; (try rw [c7b0]); clear c7; have H' := aK H; clear H; go_wp2_with (first | ((with_reducible refine gC 124 rfl ?_); refine goesZ (some 23) rfl Try.func124 #[.agg #[.string ((rd_T136 l0 x5_1).f0), .int .i64 ((rd_T136 l0 x5_1).f1)], .int .i64 x1_1] ?_; (with_reducible refine (laws_szLink.calls ((rd_T136 l0 x5_1).f0) ((rd_T136 l0 x5_1).f1) x1_1 t126 _ A6.o).mono ?_); rintro e wr1 ⟨rfl, hb⟩; refine ⟨_, rfl, ?_⟩; replace HB := bS HB hb; (try clear hb)))
       go_roundg k1
       case measure => have := HK1.o; omega
       case rel => exact ⟨(t126), (wrap64 (x5_1 + 1)), fa, fa, H', ⟨by have := HK1.o; omega⟩, ⟨bl⟩⟩
     ·rw [if_neg c5] at H; exact absurd H (by simp)
    ·rw [if_neg c4] at H; have c4b0 : decide (x5_1 < (l0.length : Int)) = false := df c4; clear c4; obtain rfl := oj H; go_wp2
     go_ret
     exact ⟨fe, bl⟩
/-! ### laws_szMove: function 125 -/
def laws_szMove.f (a0_0 : Int) (a0_1 : ByteArray) (a0_2 : ByteArray) (a0_3 : Int) (a1 : Int) : Option (Int) := if (wrap64 (a1 - (a0_1.size : Int))) < 0 then (some (-1)) else (if (wrap64 ((wrap64 (a1 - (a0_1.size : Int))) - (a0_2.size : Int))) < 0 then (some (-1)) else (some (wrap64 ((wrap64 (a1 - (a0_1.size : Int))) - (a0_2.size : Int)))))
set_option maxHeartbeats 8000000 in
set_option maxRecDepth 100000 in
theorem laws_szMove.calls (a0_0 : Int) (a0_1 : ByteArray) (a0_2 : ByteArray) (a0_3 : Int) (a1 : Int) (r : Int) (w : World) (h : laws_szMove.f a0_0 a0_1 a0_2 a0_3 a1 = some r) :
 Calls Try.prog 125 #[.agg #[.int .i64 a0_0, .string a0_1, .string a0_2, .int .i64 a0_3], .int .i64 a1] w fun e w' => e = .returned (.int .i64 r) ∧ Below w.heap.size w w' := by
 have hu138 := Try.underlying138; have HB := aK (Below.refl w.heap.size w); have H : (if (wrap64 (a1 - (a0_1.size : Int))) < 0 then (some (-1)) else (if (wrap64 ((wrap64 (a1 - (a0_1.size : Int))) - (a0_2.size : Int))) < 0 then (some (-1)) else (some (wrap64 ((wrap64 (a1 - (a0_1.size : Int))) - (a0_2.size : Int)))))) = some r := h; clear h; by_cases c3 : (wrap64 (a1 - (a0_1.size : Int))) < 0
 ·rw [if_pos c3] at H; have c3b0 : decide ((wrap64 (a1 - (a0_1.size : Int))) < 0) = true := dt c3; clear c3; obtain rfl := oj H
  go_enter Try.func125, Try.ntmps125
  go_wp2_with (first | ((with_reducible refine gD 2 rfl ?_); refine boxZ 2 #[.int .i64 a0_0, .string a0_1, .string a0_2, .int .i64 a0_3] 138 ?_; intro gb127 hg wq1 hbox hb; have BK127 := aK hbox; have GW127 := gW HB hg; replace HB := bS HB hb; clear hb hbox hg; obtain ⟨_, _, _, _, _, _, _, _⟩ := cf4 BK127))
  go_ret
  exact ⟨fe, bl⟩
 ·rw [if_neg c3] at H; have c3b0 : decide ((wrap64 (a1 - (a0_1.size : Int))) < 0) = false := df c3; clear c3; by_cases c6 : (wrap64 ((wrap64 (a1 - (a0_1.size : Int))) - (a0_2.size : Int))) < 0
  ·rw [if_pos c6] at H; have c6b0 : decide ((wrap64 ((wrap64 (a1 - (a0_1.size : Int))) - (a0_2.size : Int))) < 0) = true := dt c6; clear c6; obtain rfl := oj H
   go_enter Try.func125, Try.ntmps125
   go_wp2_with (first | ((with_reducible refine gD 2 rfl ?_); refine boxZ 2 #[.int .i64 a0_0, .string a0_1, .string a0_2, .int .i64 a0_3] 138 ?_; intro gb127 hg wq1 hbox hb; have BK127 := aK hbox; have GW127 := gW HB hg; replace HB := bS HB hb; clear hb hbox hg; obtain ⟨_, _, _, _, _, _, _, _⟩ := cf4 BK127))
   go_ret
   exact ⟨fe, bl⟩
  ·rw [if_neg c6] at H; have c6b0 : decide ((wrap64 ((wrap64 (a1 - (a0_1.size : Int))) - (a0_2.size : Int))) < 0) = false := df c6; clear c6; obtain rfl := oj H
   go_enter Try.func125, Try.ntmps125
   go_wp2_with (first | ((with_reducible refine gD 2 rfl ?_); refine boxZ 2 #[.int .i64 a0_0, .string a0_1, .string a0_2, .int .i64 a0_3] 138 ?_; intro gb127 hg wq1 hbox hb; have BK127 := aK hbox; have GW127 := gW HB hg; replace HB := bS HB hb; clear hb hbox hg; obtain ⟨_, _, _, _, _, _, _, _⟩ := cf4 BK127))
   go_ret
   exact ⟨fe, bl⟩
/-! ### laws_szMoveS: function 75 -/
def laws_szMoveS.l0 : Nat → List (S138) → Int → Int → Option (Int)
 | 0, _, _, _ => none
 | k + 1, x0, x1, x5 => if x5 < (x0.length : Int) then (if 0 ≤ x5 then ((laws_szMove.f ((rd_T138 x0 x5).f0) ((rd_T138 x0 x5).f1) ((rd_T138 x0 x5).f2) ((rd_T138 x0 x5).f3) x1).bind fun t129 => (if t129 < 0 then (some (-1)) else (laws_szMoveS.l0 k x0 t129 (wrap64 (x5 + 1))))) else (none)) else (some x1)
def laws_szMoveS.f (k : Nat) (l0 : List (S138)) (a1 : Int) : Option (Int) := if (wrap64 (a1 - (l0.length : Int))) < 0 then (some (-1)) else (laws_szMoveS.l0 k l0 (wrap64 (a1 - (l0.length : Int))) 0)
theorem laws_szMoveS.mono_l : ∀ k, (∀ y0 y1 y2, LeO (laws_szMoveS.l0 k y0 y1 y2) (laws_szMoveS.l0 (k + 1) y0 y1 y2))
 | 0 => fun _ _ _ r h => by simp [laws_szMoveS.l0] at h
 | k + 1 => by
  have ih0 := laws_szMoveS.mono_l k
  ·intro y0 y1 y2
   unfold laws_szMoveS.l0
   repeat' first
   | (with_reducible exact ih0 _ _ _)
   | (with_reducible exact LeO.refl _)
   | (with_reducible exact LeO.none _)
   | (with_reducible refine LeO.ite ?_ ?_)
   | (with_reducible refine LeO.bind ?_ (fun _ => ?_))
theorem laws_szMoveS.mono : ∀ a0 a1 k, LeO (laws_szMoveS.f k a0 a1) (laws_szMoveS.f (k + 1) a0 a1) := by
 intro a0 a1 k; have ih0 := laws_szMoveS.mono_l k; unfold laws_szMoveS.f
 repeat' first
  | (with_reducible exact ih0 _ _ _)
  | (with_reducible exact LeO.refl _)
  | (with_reducible exact LeO.none _)
  | (with_reducible refine LeO.ite ?_ ?_)
  | (with_reducible refine LeO.bind ?_ (fun _ => ?_))
set_option maxHeartbeats 8000000 in
set_option maxRecDepth 100000 in
theorem laws_szMoveS.calls (k : Nat) (A0 : Option Addr) (c0 : Nat) (l0 : List (S138)) (a1 : Int) (r : Int) (w : World) (hr0 : Kd.C k138 w A0 l0.length l0) (hc0 : l0.length ≤ c0) (h : laws_szMoveS.f k l0 a1 = some r) :
 Calls Try.prog 75 #[.slice A0 l0.length c0, .int .i64 a1] w fun e w' => e = .returned (.int .i64 r) ∧ Below w.heap.size w w' := by
 have hu138 := Try.underlying138; have HR0 := aK hr0; have HC0 := aK hc0; clear hr0 hc0; have HB := aK (Below.refl w.heap.size w); have H : (if (wrap64 (a1 - (l0.length : Int))) < 0 then (some (-1)) else (laws_szMoveS.l0 k l0 (wrap64 (a1 - (l0.length : Int))) 0)) = some r := h; clear h; by_cases c3 : (wrap64 (a1 - (l0.length : Int))) < 0
 ·rw [if_pos c3] at H; have c3b0 : decide ((wrap64 (a1 - (l0.length : Int))) < 0) = true := dt c3; clear c3; obtain rfl := oj H
  go_enter Try.func75, Try.ntmps75
  go_wp2
  go_ret
  exact ⟨fe, bl⟩
 ·rw [if_neg c3] at H; have c3b0 : decide ((wrap64 (a1 - (l0.length : Int))) < 0) = false := df c3; clear c3; have H' := aK H; clear H
  go_enter Try.func75, Try.ntmps75
  go_wp2
  go_loopg [1, 5] k (fun kq v1 v5 w' => ∃ (x1_1 : Int) (x5_1 : Int), v1 = .int .i64 x1_1 ∧ v5 = .int .i64 x5_1 ∧ Aside0 (laws_szMoveS.l0 kq l0 x1_1 x5_1 = some r) ∧ Aside0 (kq ≤ k) ∧ Aside0 (Below w.heap.size w w'))
  case atStart => exact ⟨(wrap64 (a1 - (l0.length : Int))), (0), fa, fa, H', ⟨Nat.le_refl _⟩, ⟨bl⟩⟩
  case round =>
   clear H'; (try clear p2); (try clear c3); (try clear c3b0); obtain ⟨x1_1, x5_1, rfl, rfl, HA, HK1, HB⟩ := hrel; cases gk with
   | zero => exact absurd HA.o (by simp [laws_szMoveS.l0])
   | succ k1 =>
    have H := HA.o; clear HA; simp only [laws_szMoveS.l0] at H; by_cases c4 : x5_1 < (l0.length : Int)
    ·rw [if_pos c4] at H; have c4b0 : decide (x5_1 < (l0.length : Int)) = true := dt c4; clear c4; by_cases c5 : 0 ≤ x5_1
     ·rw [if_pos c5] at H; have c5b0 : decide (0 ≤ x5_1) = true := dt c5; clear c5; obtain ⟨t129, A6, H⟩ := bd H; have Hq_ := aK H; clear H; have p128 : 0 ≤ (x5_1 : Int) := dT am; have q128 : x5_1 < (l0.length : Int) := dT am; obtain ⟨ad128, e128, hx128_0, hx128_1, hx128_2, hx128_3⟩ := at_T138 HR0.o x5_1 p128 q128; cases e128; replace hx128_0 := cz HB hx128_0; replace hx128_1 := cz HB hx128_1; replace hx128_2 := cz HB hx128_2; replace hx128_3 := cz HB hx128_3; replace p128 := eq_true p128; replace q128 := eq_true q128; have H := Hq_.o; clear Hq_; by_cases c7 : t129 < 0
      ·rw [if_pos c7] at H; have c7b0 : decide (t129 < 0) = true := dt c7; (try rw [c7b0]); clear c7; obtain rfl := oj H; go_wp2_with (first | ((with_reducible refine gC 125 rfl ?_); refine goesZ (some 23) rfl Try.func125 #[.agg #[.int .i64 ((rd_T138 l0 x5_1).f0), .string ((rd_T138 l0 x5_1).f1), .string ((rd_T138 l0 x5_1).f2), .int .i64 ((rd_T138 l0 x5_1).f3)], .int .i64 x1_1] ?_; (with_reducible refine (laws_szMove.calls ((rd_T138 l0 x5_1).f0) ((rd_T138 l0 x5_1).f1) ((rd_T138 l0 x5_1).f2) ((rd_T138 l0 x5_1).f3) x1_1 t129 _ A6.o).mono ?_); rintro e wr1 ⟨rfl, hb⟩; refine ⟨_, rfl, ?_⟩; replace HB := bS HB hb; (try clear hb)))
       go_ret
       exact ⟨fe, bl⟩
      ·rw [if_neg c7] at H; have c7b0 : decide (t129 < 0) = false := df c7; (try rw [c7b0]); clear c7; have H' := aK H; clear H; go_wp2_with (first | ((with_reducible refine gC 125 rfl ?_); refine goesZ (some 23) rfl Try.func125 #[.agg #[.int .i64 ((rd_T138 l0 x5_1).f0), .string ((rd_T138 l0 x5_1).f1), .string ((rd_T138 l0 x5_1).f2), .int .i64 ((rd_T138 l0 x5_1).f3)], .int .i64 x1_1] ?_; (with_reducible refine (laws_szMove.calls ((rd_T138 l0 x5_1).f0) ((rd_T138 l0 x5_1).f1) ((rd_T138 l0 x5_1).f2) ((rd_T138 l0 x5_1).f3) x1_1 t129 _ A6.o).mono ?_); rintro e wr1 ⟨rfl, hb⟩; refine ⟨_, rfl, ?_⟩; replace HB := bS HB hb; (try clear hb)))
       go_roundg k1
       case measure => have := HK1.o; omega
       case rel => exact ⟨(t129), (wrap64 (x5_1 + 1)), fa, fa, H', ⟨by have := HK1.o; omega⟩, ⟨bl⟩⟩
     ·rw [if_neg c5] at H; exact absurd H (by simp)
    ·rw [if_neg c4] at H; have c4b0 : decide (x5_1 < (l0.length : Int)) = false := df c4; clear c4; obtain rfl := oj H; go_wp2
     go_ret
     exact ⟨fe, bl⟩
/-! ### laws_szDisk: function 25 -/
def laws_szDisk.f (k : Nat) (a0_0 : Int) (a0_1 : Int) (l0_2 : List (S134)) (l0_3 : List (S136)) (l0_4 : List (S138)) (a1 : Int) : Option (Int) := (laws_szInodeS.f k l0_2 a1).bind fun t131 => (if t131 < 0 then (some (-1)) else ((laws_szLinkS.f k l0_3 t131).bind fun t132 => (if t132 < 0 then (some (-1)) else ((laws_szMoveS.f k l0_4 t132).bind fun t133 => (if t133 < 0 then (some (-1)) else (some t133))))))
theorem laws_szDisk.mono : ∀ a0 a1 a2 a3 a4 a5 k, LeO (laws_szDisk.f k a0 a1 a2 a3 a4 a5) (laws_szDisk.f (k + 1) a0 a1 a2 a3 a4 a5) := by
 intro a0 a1 a2 a3 a4 a5 k; unfold laws_szDisk.f
 repeat' first
  | (with_reducible exact laws_szInodeS.mono _ _ _)
  | (with_reducible exact laws_szLinkS.mono _ _ _)
  | (with_reducible exact laws_szMoveS.mono _ _ _)
  | (with_reducible exact LeO.refl _)
  | (with_reducible exact LeO.none _)
  | (with_reducible refine LeO.ite ?_ ?_)
  | (with_reducible refine LeO.bind ?_ (fun _ => ?_))
set_option maxHeartbeats 8000000 in
set_option maxRecDepth 100000 in
theorem laws_szDisk.calls (k : Nat) (a0_0 : Int) (a0_1 : Int) (A0_2 : Option Addr) (c0_2 : Nat) (l0_2 : List (S134)) (A0_3 : Option Addr) (c0_3 : Nat) (l0_3 : List (S136)) (A0_4 : Option Addr) (c0_4 : Nat) (l0_4 : List (S138)) (a1 : Int) (r : Int) (w : World) (hr0_2 : Kd.C k134 w A0_2 l0_2.length l0_2) (hc0_2 : l0_2.length ≤ c0_2) (hr0_3 : Kd.C k136 w A0_3 l0_3.length l0_3) (hc0_3 : l0_3.length ≤ c0_3) (hr0_4 : Kd.C k138 w A0_4 l0_4.length l0_4) (hc0_4 : l0_4.length ≤ c0_4) (h : laws_szDisk.f k a0_0 a0_1 l0_2 l0_3 l0_4 a1 = some r) :
 Calls Try.prog 25 #[.agg #[.int .i64 a0_0, .int .i64 a0_1, .slice A0_2 l0_2.length c0_2, .slice A0_3 l0_3.length c0_3, .slice A0_4 l0_4.length c0_4], .int .i64 a1] w fun e w' => e = .returned (.int .i64 r) ∧ Below w.heap.size w w' := by
 have hu44 := Try.underlying44; have HR0_2 := aK hr0_2; have HC0_2 := aK hc0_2; clear hr0_2 hc0_2; have HR0_3 := aK hr0_3; have HC0_3 := aK hc0_3; clear hr0_3 hc0_3; have HR0_4 := aK hr0_4; have HC0_4 := aK hc0_4; clear hr0_4 hc0_4; have HB := aK (Below.refl w.heap.size w); have H : ((laws_szInodeS.f k l0_2 a1).bind fun t131 => (if t131 < 0 then (some (-1)) else ((laws_szLinkS.f k l0_3 t131).bind fun t132 => (if t132 < 0 then (some (-1)) else ((laws_szMoveS.f k l0_4 t132).bind fun t133 => (if t133 < 0 then (some (-1)) else (some t133))))))) = some r := h; clear h; obtain ⟨t131, A3, H⟩ := bd H; by_cases c4 : t131 < 0
 ·rw [if_pos c4] at H; have c4b0 : decide (t131 < 0) = true := dt c4; clear c4; obtain rfl := oj H
  go_enter Try.func25, Try.ntmps25
  go_wp2_with (first | ((with_reducible refine gD 2 rfl ?_); refine boxZ 2 #[.int .i64 a0_0, .int .i64 a0_1, .slice A0_2 l0_2.length c0_2, .slice A0_3 l0_3.length c0_3, .slice A0_4 l0_4.length c0_4] 44 ?_; intro gb130 hg wq1 hbox hb; have BK130 := aK hbox; have GW130 := gW HB hg; replace HB := bS HB hb; clear hb hbox hg; obtain ⟨_, _, _, _, _, _, _, _, _, _⟩ := cf5 BK130) | ((with_reducible refine gC 73 rfl ?_); refine goesZ (some 8) rfl Try.func73 #[.slice A0_2 l0_2.length c0_2, .int .i64 a1] ?_; (with_reducible refine (laws_szInodeS.calls k _ _ l0_2 a1 t131 _ ?_ ?_ A3.o).mono ?_); exact cB HR0_2 HB; exact HC0_2.o; rintro e wq2 ⟨rfl, hb⟩; refine ⟨_, rfl, ?_⟩; replace BK130 := bv BK130 hb; replace HB := bS HB hb; (try clear hb)))
  go_ret
  exact ⟨fe, bl⟩
 ·rw [if_neg c4] at H; have c4b0 : decide (t131 < 0) = false := df c4; clear c4; obtain ⟨t132, A8, H⟩ := bd H; by_cases c9 : t132 < 0
  ·rw [if_pos c9] at H; have c9b0 : decide (t132 < 0) = true := dt c9; clear c9; obtain rfl := oj H
   go_enter Try.func25, Try.ntmps25
   go_wp2_with (first | ((with_reducible refine gD 2 rfl ?_); refine boxZ 2 #[.int .i64 a0_0, .int .i64 a0_1, .slice A0_2 l0_2.length c0_2, .slice A0_3 l0_3.length c0_3, .slice A0_4 l0_4.length c0_4] 44 ?_; intro gb130 hg wq1 hbox hb; have BK130 := aK hbox; have GW130 := gW HB hg; replace HB := bS HB hb; clear hb hbox hg; obtain ⟨_, _, _, _, _, _, _, _, _, _⟩ := cf5 BK130) | ((with_reducible refine gC 73 rfl ?_); refine goesZ (some 8) rfl Try.func73 #[.slice A0_2 l0_2.length c0_2, .int .i64 a1] ?_; (with_reducible refine (laws_szInodeS.calls k _ _ l0_2 a1 t131 _ ?_ ?_ A3.o).mono ?_); exact cB HR0_2 HB; exact HC0_2.o; rintro e wq2 ⟨rfl, hb⟩; refine ⟨_, rfl, ?_⟩; replace BK130 := bv BK130 hb; replace HB := bS HB hb; (try clear hb); obtain ⟨_, _, _, _, _, _, _, _, _, _⟩ := cf5 BK130) | ((with_reducible refine gC 74 rfl ?_); refine goesZ (some 14) rfl Try.func74 #[.slice A0_3 l0_3.length c0_3, .int .i64 t131] ?_; (with_reducible refine (laws_szLinkS.calls k _ _ l0_3 t131 t132 _ ?_ ?_ A8.o).mono ?_); exact cB HR0_3 HB; exact HC0_3.o; rintro e wq3 ⟨rfl, hb⟩; refine ⟨_, rfl, ?_⟩; replace BK130 := bv BK130 hb; replace HB := bS HB hb; (try clear hb)))
   go_ret
   exact ⟨fe, bl⟩
  ·rw [if_neg c9] at H; have c9b0 : decide (t132 < 0) = false := df c9; clear c9; obtain ⟨t133, A15, H⟩ := bd H; by_cases c16 : t133 < 0
   ·rw [if_pos c16] at H; have c16b0 : decide (t133 < 0) = true := dt c16; clear c16; obtain rfl := oj H
    go_enter Try.func25, Try.ntmps25
    go_wp2_with (first | ((with_reducible refine gD 2 rfl ?_); refine boxZ 2 #[.int .i64 a0_0, .int .i64 a0_1, .slice A0_2 l0_2.length c0_2, .slice A0_3 l0_3.length c0_3, .slice A0_4 l0_4.length c0_4] 44 ?_; intro gb130 hg wq1 hbox hb; have BK130 := aK hbox; have GW130 := gW HB hg; replace HB := bS HB hb; clear hb hbox hg; obtain ⟨_, _, _, _, _, _, _, _, _, _⟩ := cf5 BK130) | ((with_reducible refine gC 73 rfl ?_); refine goesZ (some 8) rfl Try.func73 #[.slice A0_2 l0_2.length c0_2, .int .i64 a1] ?_; (with_reducible refine (laws_szInodeS.calls k _ _ l0_2 a1 t131 _ ?_ ?_ A3.o).mono ?_); exact cB HR0_2 HB; exact HC0_2.o; rintro e wq2 ⟨rfl, hb⟩; refine ⟨_, rfl, ?_⟩; replace BK130 := bv BK130 hb; replace HB := bS HB hb; (try clear hb); obtain ⟨_, _, _, _, _, _, _, _, _, _⟩ := cf5 BK130) | ((with_reducible refine gC 74 rfl ?_); refine goesZ (some 14) rfl Try.func74 #[.slice A0_3 l0_3.length c0_3, .int .i64 t131] ?_; (with_reducible refine (laws_szLinkS.calls k _ _ l0_3 t131 t132 _ ?_ ?_ A8.o).mono ?_); exact cB HR0_3 HB; exact HC0_3.o; rintro e wq3 ⟨rfl, hb⟩; refine ⟨_, rfl, ?_⟩; replace BK130 := bv BK130 hb; replace HB := bS HB hb; (try clear hb); obtain ⟨_, _, _, _, _, _, _, _, _, _⟩ := cf5 BK130) | ((with_reducible refine gC 75 rfl ?_); refine goesZ (some 20) rfl Try.func75 #[.slice A0_4 l0_4.length c0_4, .int .i64 t132] ?_; (with_reducible refine (laws_szMoveS.calls k _ _ l0_4 t132 t133 _ ?_ ?_ A15.o).mono ?_); exact cB HR0_4 HB; exact HC0_4.o; rintro e wq4 ⟨rfl, hb⟩; refine ⟨_, rfl, ?_⟩; replace BK130 := bv BK130 hb; replace HB := bS HB hb; (try clear hb)))
    go_ret
    exact ⟨fe, bl⟩
   ·rw [if_neg c16] at H; have c16b0 : decide (t133 < 0) = false := df c16; clear c16; obtain rfl := oj H
    go_enter Try.func25, Try.ntmps25
    go_wp2_with (first | ((with_reducible refine gD 2 rfl ?_); refine boxZ 2 #[.int .i64 a0_0, .int .i64 a0_1, .slice A0_2 l0_2.length c0_2, .slice A0_3 l0_3.length c0_3, .slice A0_4 l0_4.length c0_4] 44 ?_; intro gb130 hg wq1 hbox hb; have BK130 := aK hbox; have GW130 := gW HB hg; replace HB := bS HB hb; clear hb hbox hg; obtain ⟨_, _, _, _, _, _, _, _, _, _⟩ := cf5 BK130) | ((with_reducible refine gC 73 rfl ?_); refine goesZ (some 8) rfl Try.func73 #[.slice A0_2 l0_2.length c0_2, .int .i64 a1] ?_; (with_reducible refine (laws_szInodeS.calls k _ _ l0_2 a1 t131 _ ?_ ?_ A3.o).mono ?_); exact cB HR0_2 HB; exact HC0_2.o; rintro e wq2 ⟨rfl, hb⟩; refine ⟨_, rfl, ?_⟩; replace BK130 := bv BK130 hb; replace HB := bS HB hb; (try clear hb); obtain ⟨_, _, _, _, _, _, _, _, _, _⟩ := cf5 BK130) | ((with_reducible refine gC 74 rfl ?_); refine goesZ (some 14) rfl Try.func74 #[.slice A0_3 l0_3.length c0_3, .int .i64 t131] ?_; (with_reducible refine (laws_szLinkS.calls k _ _ l0_3 t131 t132 _ ?_ ?_ A8.o).mono ?_); exact cB HR0_3 HB; exact HC0_3.o; rintro e wq3 ⟨rfl, hb⟩; refine ⟨_, rfl, ?_⟩; replace BK130 := bv BK130 hb; replace HB := bS HB hb; (try clear hb); obtain ⟨_, _, _, _, _, _, _, _, _, _⟩ := cf5 BK130) | ((with_reducible refine gC 75 rfl ?_); refine goesZ (some 20) rfl Try.func75 #[.slice A0_4 l0_4.length c0_4, .int .i64 t132] ?_; (with_reducible refine (laws_szMoveS.calls k _ _ l0_4 t132 t133 _ ?_ ?_ A15.o).mono ?_); exact cB HR0_4 HB; exact HC0_4.o; rintro e wq4 ⟨rfl, hb⟩; refine ⟨_, rfl, ?_⟩; replace BK130 := bv BK130 hb; replace HB := bS HB hb; (try clear hb)))
    go_ret
    exact ⟨fe, bl⟩
end Go.Proofs.Ytjcmcamijaelbaa.PDisk
