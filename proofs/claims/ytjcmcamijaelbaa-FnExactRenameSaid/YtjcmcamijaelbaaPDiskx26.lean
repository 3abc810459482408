/- Functions of the program, each with its contract, written by a program out of the translation. -/
import Derived.Test.YtjcmcamijaelbaaPDiskx0
import Derived.Test.YtjcmcamijaelbaaPDiskx3
import Derived.Test.YtjcmcamijaelbaaPDiskx14
import Derived.Test.YtjcmcamijaelbaaZap
namespace Go.Proofs.Ytjcmcamijaelbaa.PDisk
open Go.RowKit Go.Proofs.YtjcmcamijaelbaaW.PrintWords Go.Proofs.YtjcmcamijaelbaaW.PrintLast Go.Proofs.YtjcmcamijaelbaaW.PrintMore Go.Proofs.Ytjcmcamijaelbaa.Zip
attribute [local go_sem] max2_int min2_int max_two min_two max_three min_three max_four min_four   -- for this text's walks alone
set_option linter.unusedVariables false
set_option linter.unusedSimpArgs false
/-! ### spec_l4Named: function 99 -/
def spec_l4Named.f (k : Nat) (a0_0 : Int) (a0_1 : Int) (l0_2 : List (S89)) (l0_3 : List (S93)) (l0_4 : List (S95)) (a1 : ByteArray) : Option (Int) := (spec_l4Name.f k a1).bind fun t367 => (if t367 = true then ((spec_l4Find.f k a0_0 a0_1 l0_2 l0_3 l0_4 a1).bind fun t368 => (if t368 < 0 then (some 2) else (some 0))) else (some 1))
theorem spec_l4Named.mono : ∀ a0 a1 a2 a3 a4 a5 k, LeO (spec_l4Named.f k a0 a1 a2 a3 a4 a5) (spec_l4Named.f (k + 1) a0 a1 a2 a3 a4 a5) := by
 intro a0 a1 a2 a3 a4 a5 k; unfold spec_l4Named.f
 repeat' first
  | (with_reducible exact spec_l4Find.mono _ _ _ _ _ _ _)
  | (with_reducible exact spec_l4Name.mono _ _)
  | (with_reducible exact LeO.refl _)
  | (with_reducible exact LeO.none _)
  | (with_reducible refine LeO.ite ?_ ?_)
  | (with_reducible refine LeO.bind ?_ (fun _ => ?_))
set_option maxHeartbeats 8000000 in
set_option maxRecDepth 100000 in
theorem spec_l4Named.calls (k : Nat) (a0_0 : Int) (a0_1 : Int) (A0_2 : Option Addr) (c0_2 : Nat) (l0_2 : List (S89)) (A0_3 : Option Addr) (c0_3 : Nat) (l0_3 : List (S93)) (A0_4 : Option Addr) (c0_4 : Nat) (l0_4 : List (S95)) (a1 : ByteArray) (r : Int) (w : World) (hr0_2 : Kd.C k89 w A0_2 l0_2.length l0_2) (hc0_2 : l0_2.length ≤ c0_2) (hr0_3 : Kd.C k93 w A0_3 l0_3.length l0_3) (hc0_3 : l0_3.length ≤ c0_3) (hr0_4 : Kd.C k95 w A0_4 l0_4.length l0_4) (hc0_4 : l0_4.length ≤ c0_4) (h : spec_l4Named.f k a0_0 a0_1 l0_2 l0_3 l0_4 a1 = some r) :
 Calls Try.prog 99 #[.agg #[.int .i64 a0_0, .int .i64 a0_1, .slice A0_2 l0_2.length c0_2, .slice A0_3 l0_3.length c0_3, .slice A0_4 l0_4.length c0_4], .string a1] w fun e w' => e = .returned (.int .i64 r) ∧ Below w.heap.size w w' := by
 have hu26 := Try.underlying26; have HR0_2 := aK hr0_2; have HC0_2 := aK hc0_2; clear hr0_2 hc0_2; have HR0_3 := aK hr0_3; have HC0_3 := aK hc0_3; clear hr0_3 hc0_3; have HR0_4 := aK hr0_4; have HC0_4 := aK hc0_4; clear hr0_4 hc0_4; have HB := aK (Below.refl w.heap.size w); have H : ((spec_l4Name.f k a1).bind fun t367 => (if t367 = true then ((spec_l4Find.f k a0_0 a0_1 l0_2 l0_3 l0_4 a1).bind fun t368 => (if t368 < 0 then (some 2) else (some 0))) else (some 1))) = some r := h; clear h; obtain ⟨t367, A3, H⟩ := bd H; by_cases c4 : t367 = true
 ·subst c4; replace H := iT H; obtain ⟨t368, A5, H⟩ := bd H; by_cases c6 : t368 < 0
  ·rw [if_pos c6] at H; have c6b0 : decide (t368 < 0) = true := dt c6; clear c6; obtain rfl := oj H
   go_enter Try.func99, Try.ntmps99
   go_wp2_with (first | ((with_reducible refine gD 2 rfl ?_); refine boxZ 2 #[.int .i64 a0_0, .int .i64 a0_1, .slice A0_2 l0_2.length c0_2, .slice A0_3 l0_3.length c0_3, .slice A0_4 l0_4.length c0_4] 26 ?_; intro gb366 hg wq1 hbox hb; have BK366 := aK hbox; have GW366 := gW HB hg; replace HB := bS HB hb; clear hb hbox hg) | ((with_reducible refine gC 79 rfl ?_); refine goesZ (some 6) rfl Try.func79 #[.string a1] ?_; (with_reducible refine (spec_l4Name.calls k a1 _ _ A3.o).mono ?_); rintro e w' ⟨rfl, ⟨nd, rfl⟩⟩; refine ⟨_, rfl, ?_⟩; obtain ⟨_, _, _, _, _, _, _, _, _, _⟩ := cf5 BK366) | ((with_reducible refine gC 90 rfl ?_); refine goesZ (some 10) rfl Try.func90 #[.agg #[.int .i64 a0_0, .int .i64 a0_1, .slice A0_2 l0_2.length c0_2, .slice A0_3 l0_3.length c0_3, .slice A0_4 l0_4.length c0_4], .string a1] ?_; (with_reducible refine (spec_l4Find.calls k a0_0 a0_1 _ _ l0_2 _ _ l0_3 _ _ l0_4 a1 t368 _ ?_ ?_ ?_ ?_ ?_ ?_ A5.o).mono ?_); exact ca (Kd.C_below HR0_2.o bl); exact HC0_2.o; exact ca (Kd.C_below HR0_3.o bl); exact HC0_3.o; exact ca (Kd.C_below HR0_4.o bl); exact HC0_4.o; rintro e wq2 ⟨rfl, hb⟩; refine ⟨_, rfl, ?_⟩; replace BK366 := bv BK366 hb; replace HB := bS HB hb; (try clear hb)))
   go_ret
   exact ⟨fe, bl⟩
  ·rw [if_neg c6] at H; have c6b0 : decide (t368 < 0) = false := df c6; clear c6; obtain rfl := oj H
   go_enter Try.func99, Try.ntmps99
   go_wp2_with (first | ((with_reducible refine gD 2 rfl ?_); refine boxZ 2 #[.int .i64 a0_0, .int .i64 a0_1, .slice A0_2 l0_2.length c0_2, .slice A0_3 l0_3.length c0_3, .slice A0_4 l0_4.length c0_4] 26 ?_; intro gb366 hg wq1 hbox hb; have BK366 := aK hbox; have GW366 := gW HB hg; replace HB := bS HB hb; clear hb hbox hg) | ((with_reducible refine gC 79 rfl ?_); refine goesZ (some 6) rfl Try.func79 #[.string a1] ?_; (with_reducible refine (spec_l4Name.calls k a1 _ _ A3.o).mono ?_); rintro e w' ⟨rfl, ⟨nd, rfl⟩⟩; refine ⟨_, rfl, ?_⟩; obtain ⟨_, _, _, _, _, _, _, _, _, _⟩ := cf5 BK366) | ((with_reducible refine gC 90 rfl ?_); refine goesZ (some 10) rfl Try.func90 #[.agg #[.int .i64 a0_0, .int .i64 a0_1, .slice A0_2 l0_2.length c0_2, .slice A0_3 l0_3.length c0_3, .slice A0_4 l0_4.length c0_4], .string a1] ?_; (with_reducible refine (spec_l4Find.calls k a0_0 a0_1 _ _ l0_2 _ _ l0_3 _ _ l0_4 a1 t368 _ ?_ ?_ ?_ ?_ ?_ ?_ A5.o).mono ?_); exact ca (Kd.C_below HR0_2.o bl); exact HC0_2.o; exact ca (Kd.C_below HR0_3.o bl); exact HC0_3.o; exact ca (Kd.C_below HR0_4.o bl); exact HC0_4.o; rintro e wq2 ⟨rfl, hb⟩; refine ⟨_, rfl, ?_⟩; replace BK366 := bv BK366 hb; replace HB := bS HB hb; (try clear hb)))
   go_ret
   exact ⟨fe, bl⟩
 ·replace c4 := bF c4; subst c4; replace H := iF H; obtain rfl := oj H
  go_enter Try.func99, Try.ntmps99
  go_wp2_with (first | ((with_reducible refine gD 2 rfl ?_); refine boxZ 2 #[.int .i64 a0_0, .int .i64 a0_1, .slice A0_2 l0_2.length c0_2, .slice A0_3 l0_3.length c0_3, .slice A0_4 l0_4.length c0_4] 26 ?_; intro gb366 hg wq1 hbox hb; have BK366 := aK hbox; have GW366 := gW HB hg; replace HB := bS HB hb; clear hb hbox hg) | ((with_reducible refine gC 79 rfl ?_); refine goesZ (some 6) rfl Try.func79 #[.string a1] ?_; (with_reducible refine (spec_l4Name.calls k a1 _ _ A3.o).mono ?_); rintro e w' ⟨rfl, ⟨nd, rfl⟩⟩; refine ⟨_, rfl, ?_⟩))
  go_ret
  exact ⟨fe, bl⟩
end Go.Proofs.Ytjcmcamijaelbaa.PDisk
