-- PRINTED by print.py (a twelfth state) out of the translation. Not trusted: Lean checks it.
import Derived.Test.YtjcmcamijaelbaaPFnExactNewDiskx0
import Derived.Test.YtjcmcamijaelbaaPFnExactNewDiskx1
import Derived.Test.YtjcmcamijaelbaaPFnExactNewDiskx3
import Derived.Test.YtjcmcamijaelbaaPFnExactNewDiskx4
import Derived.Test.YtjcmcamijaelbaaPFnExactNewDiskx5
import Derived.Test.YtjcmcamijaelbaaZip
namespace Go.Proofs.Ytjcmcamijaelbaa.PFnExactNewDisk
open Go.RowKit Go.Proofs.YtjcmcamijaelbaaW.PrintWords Go.Proofs.YtjcmcamijaelbaaW.PrintLast Go.Proofs.YtjcmcamijaelbaaW.PrintMore Go.Proofs.Ytjcmcamijaelbaa.Zip
attribute [local go_sem] max2_int min2_int max_two min_two max_three min_three max_four min_four   -- for this text's walks alone
set_option linter.unusedVariables false
set_option linter.unusedSimpArgs false

/-! ### laws_heldDisk: function 19 -/
def laws_heldDisk.f (k : Nat) (a0_0 : Int) (a0_1 : Int) (l0_2 : List (S89)) (l0_3 : List (S93)) (l0_4 : List (S95)) (a1 : Int) : Option (Int) := (laws_heldInodeS.f k l0_2 a1).bind fun t162 => (if t162 < 0 then (some (-1)) else ((laws_heldLinkS.f k l0_3 t162).bind fun t163 => (if t163 < 0 then (some (-1)) else ((laws_heldMoveS.f k l0_4 t163).bind fun t164 => (if t164 < 0 then (some (-1)) else (some t164))))))
theorem laws_heldDisk.mono : ∀ a0 a1 a2 a3 a4 a5 k, LeO (laws_heldDisk.f k a0 a1 a2 a3 a4 a5) (laws_heldDisk.f (k + 1) a0 a1 a2 a3 a4 a5) := by
 intro a0 a1 a2 a3 a4 a5 k
 unfold laws_heldDisk.f
 repeat' first
  | (with_reducible exact laws_heldInodeS.mono _ _ _)
  | (with_reducible exact laws_heldLinkS.mono _ _ _)
  | (with_reducible exact laws_heldMoveS.mono _ _ _)
  | (with_reducible exact LeO.refl _)
  | (with_reducible exact LeO.none _)
  | (with_reducible refine LeO.ite ?_ ?_)
  | (with_reducible refine LeO.bind ?_ (fun _ => ?_))
  | exact laws_heldInodeS.mono _ _ _
  | exact laws_heldLinkS.mono _ _ _
  | exact laws_heldMoveS.mono _ _ _
  | exact LeO.none _
  | refine LeO.ite ?_ ?_
  | refine LeO.bind ?_ (fun _ => ?_)
set_option maxHeartbeats 8000000 in
set_option maxRecDepth 100000 in
theorem laws_heldDisk.calls (k : Nat) (a0_0 : Int) (a0_1 : Int) (A0_2 : Option Addr) (c0_2 : Nat) (l0_2 : List (S89)) (A0_3 : Option Addr) (c0_3 : Nat) (l0_3 : List (S93)) (A0_4 : Option Addr) (c0_4 : Nat) (l0_4 : List (S95)) (a1 : Int) (r : Int) (w : World) (hr0_2 : Kd.C k89 w A0_2 l0_2.length l0_2) (hc0_2 : l0_2.length ≤ c0_2) (hr0_3 : Kd.C k93 w A0_3 l0_3.length l0_3) (hc0_3 : l0_3.length ≤ c0_3) (hr0_4 : Kd.C k95 w A0_4 l0_4.length l0_4) (hc0_4 : l0_4.length ≤ c0_4) (h : laws_heldDisk.f k a0_0 a0_1 l0_2 l0_3 l0_4 a1 = some r) :
 Calls Try.prog 19 #[.agg #[.int .i64 a0_0, .int .i64 a0_1, .slice A0_2 l0_2.length c0_2, .slice A0_3 l0_3.length c0_3, .slice A0_4 l0_4.length c0_4], .int .i64 a1] w fun e w' => e = .returned (.int .i64 r) ∧ Below w.heap.size w w' := by
 have hu26 := Try.underlying26
 have HR0_2 := Aside0.mk hr0_2
 have HC0_2 := Aside0.mk hc0_2
 clear hr0_2 hc0_2
 have HR0_3 := Aside0.mk hr0_3
 have HC0_3 := Aside0.mk hc0_3
 clear hr0_3 hc0_3
 have HR0_4 := Aside0.mk hr0_4
 have HC0_4 := Aside0.mk hc0_4
 clear hr0_4 hc0_4
 have HB := Aside0.mk (Below.refl w.heap.size w)
 have H : ((laws_heldInodeS.f k l0_2 a1).bind fun t162 => (if t162 < 0 then (some (-1)) else ((laws_heldLinkS.f k l0_3 t162).bind fun t163 => (if t163 < 0 then (some (-1)) else ((laws_heldMoveS.f k l0_4 t163).bind fun t164 => (if t164 < 0 then (some (-1)) else (some t164))))))) = some r := h
 clear h
 obtain ⟨t162, A3, H⟩ := bd H
 by_cases c4 : t162 < 0
 ·rw [if_pos c4] at H
  have c4b0 : decide (t162 < 0) = true := decide_eq_true c4
  clear c4
  obtain rfl := Option.some.inj H
  go_enter Try.func19, Try.ntmps19
  go_wp2_with (first | ((with_reducible refine gD 2 rfl ?_); refine boxZ 2 #[.int .i64 a0_0, .int .i64 a0_1, .slice A0_2 l0_2.length c0_2, .slice A0_3 l0_3.length c0_3, .slice A0_4 l0_4.length c0_4] 26 ?_; intro gb161 hg w5 hbox hb; have BK161 := Aside0.mk hbox; have GW161 := gw (w := w) hg; have GE161 := gw (w := w) hg; replace HB := bs (w := w) hb; clear hb hbox hg; obtain ⟨Z6_0, Z6_1, Z6_2, Z6_3, Z6_4, Y6_0, Y6_1, Y6_2, Y6_3, Y6_4⟩ := cf5 BK161) | ((with_reducible refine gC 61 rfl ?_); refine goesZ (some 8) rfl Try.func61 #[.slice A0_2 l0_2.length c0_2, .int .i64 a1] ?_; (with_reducible refine (laws_heldInodeS.calls k _ _ l0_2 a1 t162 _ ?side1 ?side2 A3.out).mono ?_); (case side1 => exact ca (Kd.C_below HR0_2.out HB.out)); (case side2 => exact HC0_2.out); rintro e w7 ⟨rfl, hb⟩; refine ⟨_, rfl, ?_⟩; replace BK161 := bv BK161 hb; replace HB := bs (w := w) hb; (try clear hb)))
  go_ret
  exact ⟨fe, bl⟩
 ·rw [if_neg c4] at H
  have c4b0 : decide (t162 < 0) = false := decide_eq_false c4
  clear c4
  obtain ⟨t163, A8, H⟩ := bd H
  by_cases c9 : t163 < 0
  ·rw [if_pos c9] at H
   have c9b0 : decide (t163 < 0) = true := decide_eq_true c9
   clear c9
   obtain rfl := Option.some.inj H
   go_enter Try.func19, Try.ntmps19
   go_wp2_with (first | ((with_reducible refine gD 2 rfl ?_); refine boxZ 2 #[.int .i64 a0_0, .int .i64 a0_1, .slice A0_2 l0_2.length c0_2, .slice A0_3 l0_3.length c0_3, .slice A0_4 l0_4.length c0_4] 26 ?_; intro gb161 hg w10 hbox hb; have BK161 := Aside0.mk hbox; have GW161 := gw (w := w) hg; have GE161 := gw (w := w) hg; replace HB := bs (w := w) hb; clear hb hbox hg; obtain ⟨Z11_0, Z11_1, Z11_2, Z11_3, Z11_4, Y11_0, Y11_1, Y11_2, Y11_3, Y11_4⟩ := cf5 BK161) | ((with_reducible refine gC 61 rfl ?_); refine goesZ (some 8) rfl Try.func61 #[.slice A0_2 l0_2.length c0_2, .int .i64 a1] ?_; (with_reducible refine (laws_heldInodeS.calls k _ _ l0_2 a1 t162 _ ?side1 ?side2 A3.out).mono ?_); (case side1 => exact ca (Kd.C_below HR0_2.out HB.out)); (case side2 => exact HC0_2.out); rintro e w12 ⟨rfl, hb⟩; refine ⟨_, rfl, ?_⟩; replace BK161 := bv BK161 hb; replace HB := bs (w := w) hb; (try clear hb); obtain ⟨Z13_0, Z13_1, Z13_2, Z13_3, Z13_4, Y13_0, Y13_1, Y13_2, Y13_3, Y13_4⟩ := cf5 BK161) | ((with_reducible refine gC 62 rfl ?_); refine goesZ (some 14) rfl Try.func62 #[.slice A0_3 l0_3.length c0_3, .int .i64 t162] ?_; (with_reducible refine (laws_heldLinkS.calls k _ _ l0_3 t162 t163 _ ?side1 ?side2 A8.out).mono ?_); (case side1 => exact ca (Kd.C_below HR0_3.out HB.out)); (case side2 => exact HC0_3.out); rintro e w14 ⟨rfl, hb⟩; refine ⟨_, rfl, ?_⟩; replace BK161 := bv BK161 hb; replace HB := bs (w := w) hb; (try clear hb)))
   go_ret
   exact ⟨fe, bl⟩
  ·rw [if_neg c9] at H
   have c9b0 : decide (t163 < 0) = false := decide_eq_false c9
   clear c9
   obtain ⟨t164, A15, H⟩ := bd H
   by_cases c16 : t164 < 0
   ·rw [if_pos c16] at H
    have c16b0 : decide (t164 < 0) = true := decide_eq_true c16
    clear c16
    obtain rfl := Option.some.inj H
    go_enter Try.func19, Try.ntmps19
    go_wp2_with (first | ((with_reducible refine gD 2 rfl ?_); refine boxZ 2 #[.int .i64 a0_0, .int .i64 a0_1, .slice A0_2 l0_2.length c0_2, .slice A0_3 l0_3.length c0_3, .slice A0_4 l0_4.length c0_4] 26 ?_; intro gb161 hg w17 hbox hb; have BK161 := Aside0.mk hbox; have GW161 := gw (w := w) hg; have GE161 := gw (w := w) hg; replace HB := bs (w := w) hb; clear hb hbox hg; obtain ⟨Z18_0, Z18_1, Z18_2, Z18_3, Z18_4, Y18_0, Y18_1, Y18_2, Y18_3, Y18_4⟩ := cf5 BK161) | ((with_reducible refine gC 61 rfl ?_); refine goesZ (some 8) rfl Try.func61 #[.slice A0_2 l0_2.length c0_2, .int .i64 a1] ?_; (with_reducible refine (laws_heldInodeS.calls k _ _ l0_2 a1 t162 _ ?side1 ?side2 A3.out).mono ?_); (case side1 => exact ca (Kd.C_below HR0_2.out HB.out)); (case side2 => exact HC0_2.out); rintro e w19 ⟨rfl, hb⟩; refine ⟨_, rfl, ?_⟩; replace BK161 := bv BK161 hb; replace HB := bs (w := w) hb; (try clear hb); obtain ⟨Z20_0, Z20_1, Z20_2, Z20_3, Z20_4, Y20_0, Y20_1, Y20_2, Y20_3, Y20_4⟩ := cf5 BK161) | ((with_reducible refine gC 62 rfl ?_); refine goesZ (some 14) rfl Try.func62 #[.slice A0_3 l0_3.length c0_3, .int .i64 t162] ?_; (with_reducible refine (laws_heldLinkS.calls k _ _ l0_3 t162 t163 _ ?side1 ?side2 A8.out).mono ?_); (case side1 => exact ca (Kd.C_below HR0_3.out HB.out)); (case side2 => exact HC0_3.out); rintro e w21 ⟨rfl, hb⟩; refine ⟨_, rfl, ?_⟩; replace BK161 := bv BK161 hb; replace HB := bs (w := w) hb; (try clear hb); obtain ⟨Z22_0, Z22_1, Z22_2, Z22_3, Z22_4, Y22_0, Y22_1, Y22_2, Y22_3, Y22_4⟩ := cf5 BK161) | ((with_reducible refine gC 63 rfl ?_); refine goesZ (some 20) rfl Try.func63 #[.slice A0_4 l0_4.length c0_4, .int .i64 t163] ?_; (with_reducible refine (laws_heldMoveS.calls k _ _ l0_4 t163 t164 _ ?side1 ?side2 A15.out).mono ?_); (case side1 => exact ca (Kd.C_below HR0_4.out HB.out)); (case side2 => exact HC0_4.out); rintro e w23 ⟨rfl, hb⟩; refine ⟨_, rfl, ?_⟩; replace BK161 := bv BK161 hb; replace HB := bs (w := w) hb; (try clear hb)))
    go_ret
    exact ⟨fe, bl⟩
   ·rw [if_neg c16] at H
    have c16b0 : decide (t164 < 0) = false := decide_eq_false c16
    clear c16
    obtain rfl := Option.some.inj H
    go_enter Try.func19, Try.ntmps19
    go_wp2_with (first | ((with_reducible refine gD 2 rfl ?_); refine boxZ 2 #[.int .i64 a0_0, .int .i64 a0_1, .slice A0_2 l0_2.length c0_2, .slice A0_3 l0_3.length c0_3, .slice A0_4 l0_4.length c0_4] 26 ?_; intro gb161 hg w24 hbox hb; have BK161 := Aside0.mk hbox; have GW161 := gw (w := w) hg; have GE161 := gw (w := w) hg; replace HB := bs (w := w) hb; clear hb hbox hg; obtain ⟨Z25_0, Z25_1, Z25_2, Z25_3, Z25_4, Y25_0, Y25_1, Y25_2, Y25_3, Y25_4⟩ := cf5 BK161) | ((with_reducible refine gC 61 rfl ?_); refine goesZ (some 8) rfl Try.func61 #[.slice A0_2 l0_2.length c0_2, .int .i64 a1] ?_; (with_reducible refine (laws_heldInodeS.calls k _ _ l0_2 a1 t162 _ ?side1 ?side2 A3.out).mono ?_); (case side1 => exact ca (Kd.C_below HR0_2.out HB.out)); (case side2 => exact HC0_2.out); rintro e w26 ⟨rfl, hb⟩; refine ⟨_, rfl, ?_⟩; replace BK161 := bv BK161 hb; replace HB := bs (w := w) hb; (try clear hb); obtain ⟨Z27_0, Z27_1, Z27_2, Z27_3, Z27_4, Y27_0, Y27_1, Y27_2, Y27_3, Y27_4⟩ := cf5 BK161) | ((with_reducible refine gC 62 rfl ?_); refine goesZ (some 14) rfl Try.func62 #[.slice A0_3 l0_3.length c0_3, .int .i64 t162] ?_; (with_reducible refine (laws_heldLinkS.calls k _ _ l0_3 t162 t163 _ ?side1 ?side2 A8.out).mono ?_); (case side1 => exact ca (Kd.C_below HR0_3.out HB.out)); (case side2 => exact HC0_3.out); rintro e w28 ⟨rfl, hb⟩; refine ⟨_, rfl, ?_⟩; replace BK161 := bv BK161 hb; replace HB := bs (w := w) hb; (try clear hb); obtain ⟨Z29_0, Z29_1, Z29_2, Z29_3, Z29_4, Y29_0, Y29_1, Y29_2, Y29_3, Y29_4⟩ := cf5 BK161) | ((with_reducible refine gC 63 rfl ?_); refine goesZ (some 20) rfl Try.func63 #[.slice A0_4 l0_4.length c0_4, .int .i64 t163] ?_; (with_reducible refine (laws_heldMoveS.calls k _ _ l0_4 t163 t164 _ ?side1 ?side2 A15.out).mono ?_); (case side1 => exact ca (Kd.C_below HR0_4.out HB.out)); (case side2 => exact HC0_4.out); rintro e w30 ⟨rfl, hb⟩; refine ⟨_, rfl, ?_⟩; replace BK161 := bv BK161 hb; replace HB := bs (w := w) hb; (try clear hb)))
    go_ret
    exact ⟨fe, bl⟩

/-! ### laws_FnExactNewDisk: function 3 -/
mutual
def laws_FnExactNewDisk.j0 : Nat → Int → Bool → Bool → Int → Int → List (S89) → List (S93) → List (S95) → Int → Int → List (S89) → List (S93) → List (S95) → Option (Bool)
 | 0, _, _, _, _, _, _, _, _, _, _, _, _, _ => none
 | k + 1, x0, x4, x29, x178000, x178001, x178002, x178003, x178004, x191000, x191001, x191002, x191003, x191004 => if x29 = true then (some false) else ((laws_markDisk.f k x191000 x191001 x191002 x191003 x191004 1).bind fun bt192 => ((laws_heldDisk.f k x191000 x191001 bt192.2.1 bt192.2.2.1 bt192.2.2.2 1).bind fun t196 => (if t196 < 0 then (some false) else (if t196 = bt192.1 then ((impl_NewDisk.f x0).bind fun bt197 => ((laws_eqDisk.f k bt197.1 bt197.2.1 bt197.2.2.1 bt197.2.2.2.1 bt197.2.2.2.2.1 x178000 x178001 x178002 x178003 x178004).bind fun t210 => (if t210 = true then (laws_FnExactNewDisk.j1 k bt192.1 (bt197.2.2.2.2.2 != x4) x191000 x191001 bt192.2.1 bt192.2.2.1 bt192.2.2.2) else (laws_FnExactNewDisk.j1 k bt192.1 true x191000 x191001 bt192.2.1 bt192.2.2.1 bt192.2.2.2)))) else (some false)))))
def laws_FnExactNewDisk.j1 : Nat → Int → Bool → Int → Int → List (S89) → List (S93) → List (S95) → Option (Bool)
 | 0, _, _, _, _, _, _, _ => none
 | k + 1, x7, x54, x191000, x191001, x191002, x191003, x191004 => if x54 = true then (some false) else ((laws_heldDisk.f k x191000 x191001 x191002 x191003 x191004 1).bind fun t211 => (if t211 < 0 then (some false) else (if t211 = x7 then (some true) else (some false))))
end
def laws_FnExactNewDisk.f (k : Nat) (a0 : Int) : Option (Bool) := (spec_NewDisk.f a0).bind fun bt165 => ((impl_NewDisk.f a0).bind fun bt178 => ((laws_eqDisk.f k bt178.1 bt178.2.1 bt178.2.2.1 bt178.2.2.2.1 bt178.2.2.2.2.1 bt165.1 bt165.2.1 bt165.2.2.1 bt165.2.2.2.1 bt165.2.2.2.2.1).bind fun t191 => (if t191 = true then (laws_FnExactNewDisk.j0 k a0 bt165.2.2.2.2.2 (bt178.2.2.2.2.2 != bt165.2.2.2.2.2) bt165.1 bt165.2.1 bt165.2.2.1 bt165.2.2.2.1 bt165.2.2.2.2.1 bt178.1 bt178.2.1 bt178.2.2.1 bt178.2.2.2.1 bt178.2.2.2.2.1) else (laws_FnExactNewDisk.j0 k a0 bt165.2.2.2.2.2 true bt165.1 bt165.2.1 bt165.2.2.1 bt165.2.2.2.1 bt165.2.2.2.2.1 bt178.1 bt178.2.1 bt178.2.2.1 bt178.2.2.2.1 bt178.2.2.2.2.1))))
theorem laws_FnExactNewDisk.mono_l : ∀ k, (∀ y0 y1 y2 y3 y4 y5 y6 y7 y8 y9 y10 y11 y12, LeO (laws_FnExactNewDisk.j0 k y0 y1 y2 y3 y4 y5 y6 y7 y8 y9 y10 y11 y12) (laws_FnExactNewDisk.j0 (k + 1) y0 y1 y2 y3 y4 y5 y6 y7 y8 y9 y10 y11 y12)) ∧ (∀ y0 y1 y2 y3 y4 y5 y6, LeO (laws_FnExactNewDisk.j1 k y0 y1 y2 y3 y4 y5 y6) (laws_FnExactNewDisk.j1 (k + 1) y0 y1 y2 y3 y4 y5 y6))
 | 0 => ⟨fun _ _ _ _ _ _ _ _ _ _ _ _ _ r h => by simp [laws_FnExactNewDisk.j0] at h, fun _ _ _ _ _ _ _ r h => by simp [laws_FnExactNewDisk.j1] at h⟩
 | k + 1 => by
  obtain ⟨ih0, ih1⟩ := laws_FnExactNewDisk.mono_l k
  refine ⟨?_, ?_⟩
  ·intro y0 y1 y2 y3 y4 y5 y6 y7 y8 y9 y10 y11 y12
   unfold laws_FnExactNewDisk.j0
   repeat' first
   | (with_reducible exact ih0 _ _ _ _ _ _ _ _ _ _ _ _ _)
   | (with_reducible exact ih1 _ _ _ _ _ _ _)
   | (with_reducible exact laws_eqDisk.mono _ _ _ _ _ _ _ _ _ _ _)
   | (with_reducible exact laws_heldDisk.mono _ _ _ _ _ _ _)
   | (with_reducible exact laws_markDisk.mono _ _ _ _ _ _ _)
   | (with_reducible exact LeO.refl _)
   | (with_reducible exact LeO.none _)
   | (with_reducible refine LeO.ite ?_ ?_)
   | (with_reducible refine LeO.bind ?_ (fun _ => ?_))
   | exact ih0 _ _ _ _ _ _ _ _ _ _ _ _ _
   | exact ih1 _ _ _ _ _ _ _
   | exact laws_eqDisk.mono _ _ _ _ _ _ _ _ _ _ _
   | exact laws_heldDisk.mono _ _ _ _ _ _ _
   | exact laws_markDisk.mono _ _ _ _ _ _ _
   | exact LeO.none _
   | refine LeO.ite ?_ ?_
   | refine LeO.bind ?_ (fun _ => ?_)
  ·intro y0 y1 y2 y3 y4 y5 y6
   unfold laws_FnExactNewDisk.j1
   repeat' first
   | (with_reducible exact ih0 _ _ _ _ _ _ _ _ _ _ _ _ _)
   | (with_reducible exact ih1 _ _ _ _ _ _ _)
   | (with_reducible exact laws_eqDisk.mono _ _ _ _ _ _ _ _ _ _ _)
   | (with_reducible exact laws_heldDisk.mono _ _ _ _ _ _ _)
   | (with_reducible exact laws_markDisk.mono _ _ _ _ _ _ _)
   | (with_reducible exact LeO.refl _)
   | (with_reducible exact LeO.none _)
   | (with_reducible refine LeO.ite ?_ ?_)
   | (with_reducible refine LeO.bind ?_ (fun _ => ?_))
   | exact ih0 _ _ _ _ _ _ _ _ _ _ _ _ _
   | exact ih1 _ _ _ _ _ _ _
   | exact laws_eqDisk.mono _ _ _ _ _ _ _ _ _ _ _
   | exact laws_heldDisk.mono _ _ _ _ _ _ _
   | exact laws_markDisk.mono _ _ _ _ _ _ _
   | exact LeO.none _
   | refine LeO.ite ?_ ?_
   | refine LeO.bind ?_ (fun _ => ?_)
theorem laws_FnExactNewDisk.mono : ∀ a0 k, LeO (laws_FnExactNewDisk.f k a0) (laws_FnExactNewDisk.f (k + 1) a0) := by
 intro a0 k
 obtain ⟨ih0, ih1⟩ := laws_FnExactNewDisk.mono_l k
 unfold laws_FnExactNewDisk.f
 repeat' first
  | (with_reducible exact ih0 _ _ _ _ _ _ _ _ _ _ _ _ _)
  | (with_reducible exact ih1 _ _ _ _ _ _ _)
  | (with_reducible exact laws_eqDisk.mono _ _ _ _ _ _ _ _ _ _ _)
  | (with_reducible exact laws_heldDisk.mono _ _ _ _ _ _ _)
  | (with_reducible exact laws_markDisk.mono _ _ _ _ _ _ _)
  | (with_reducible exact LeO.refl _)
  | (with_reducible exact LeO.none _)
  | (with_reducible refine LeO.ite ?_ ?_)
  | (with_reducible refine LeO.bind ?_ (fun _ => ?_))
  | exact ih0 _ _ _ _ _ _ _ _ _ _ _ _ _
  | exact ih1 _ _ _ _ _ _ _
  | exact laws_eqDisk.mono _ _ _ _ _ _ _ _ _ _ _
  | exact laws_heldDisk.mono _ _ _ _ _ _ _
  | exact laws_markDisk.mono _ _ _ _ _ _ _
  | exact LeO.none _
  | refine LeO.ite ?_ ?_
  | refine LeO.bind ?_ (fun _ => ?_)
set_option maxHeartbeats 8000000 in
set_option maxRecDepth 100000 in
theorem laws_FnExactNewDisk.calls (k : Nat) (a0 : Int) (r : Bool) (w : World) (h : laws_FnExactNewDisk.f k a0 = some r) (hr_ : r = true) :
 Calls Try.prog 3 #[.int .i64 a0] w fun e w' => e = .returned (.bool r) ∧ Below w.heap.size w w' := by
 have hu26 := Try.underlying26
 have HB := Aside0.mk (Below.refl w.heap.size w)
 have H : ((spec_NewDisk.f a0).bind fun bt165 => ((impl_NewDisk.f a0).bind fun bt178 => ((laws_eqDisk.f k bt178.1 bt178.2.1 bt178.2.2.1 bt178.2.2.2.1 bt178.2.2.2.2.1 bt165.1 bt165.2.1 bt165.2.2.1 bt165.2.2.2.1 bt165.2.2.2.2.1).bind fun t191 => (if t191 = true then (laws_FnExactNewDisk.j0 k a0 bt165.2.2.2.2.2 (bt178.2.2.2.2.2 != bt165.2.2.2.2.2) bt165.1 bt165.2.1 bt165.2.2.1 bt165.2.2.2.1 bt165.2.2.2.2.1 bt178.1 bt178.2.1 bt178.2.2.1 bt178.2.2.2.1 bt178.2.2.2.2.1) else (laws_FnExactNewDisk.j0 k a0 bt165.2.2.2.2.2 true bt165.1 bt165.2.1 bt165.2.2.1 bt165.2.2.2.1 bt165.2.2.2.2.1 bt178.1 bt178.2.1 bt178.2.2.1 bt178.2.2.2.1 bt178.2.2.2.2.1))))) = some r := h
 clear h
 replace H := Option.bind_eq_some_iff.mp H
 obtain ⟨⟨t165, t166, t167, t170, t173, t176⟩, A20, H⟩ := H
 replace H : ((impl_NewDisk.f a0).bind fun bt178 => ((laws_eqDisk.f k bt178.1 bt178.2.1 bt178.2.2.1 bt178.2.2.2.1 bt178.2.2.2.2.1 t165 t166 t167 t170 t173).bind fun t191 => (if t191 = true then (laws_FnExactNewDisk.j0 k a0 t176 (bt178.2.2.2.2.2 != t176) t165 t166 t167 t170 t173 bt178.1 bt178.2.1 bt178.2.2.1 bt178.2.2.2.1 bt178.2.2.2.2.1) else (laws_FnExactNewDisk.j0 k a0 t176 true t165 t166 t167 t170 t173 bt178.1 bt178.2.1 bt178.2.2.1 bt178.2.2.2.1 bt178.2.2.2.2.1)))) = some r := H
 have A2 := Aside0.mk A20
 clear A20
 replace H := Option.bind_eq_some_iff.mp H
 obtain ⟨⟨t178, t179, t180, t183, t186, t189⟩, A30, H⟩ := H
 replace H : ((laws_eqDisk.f k t178 t179 t180 t183 t186 t165 t166 t167 t170 t173).bind fun t191 => (if t191 = true then (laws_FnExactNewDisk.j0 k a0 t176 (t189 != t176) t165 t166 t167 t170 t173 t178 t179 t180 t183 t186) else (laws_FnExactNewDisk.j0 k a0 t176 true t165 t166 t167 t170 t173 t178 t179 t180 t183 t186))) = some r := H
 have A3 := Aside0.mk A30
 clear A30
 have HC4 := Aside0.mk H
 clear H
 go_enter Try.func3, Try.ntmps3
 go_upto_region 3 with (first | ((with_reducible refine gC 15 rfl ?_); refine goesZ (some 13) rfl Try.func15 #[.int .i64 a0] ?_; (with_reducible refine (spec_NewDisk.calls a0 t165 t166 t167 t170 t173 t176 _ A2.out).mono ?_); rintro e w5 ⟨v168, v171, v174, rfl, ho0, ho1, ho2, hb⟩; refine ⟨_, rfl, ?_⟩; have HO169 := Aside0.mk (Kd.R_lower ho0 (below_size bl)); have HO172 := Aside0.mk (Kd.R_lower ho1 (below_size bl)); have HO175 := Aside0.mk (Kd.R_lower ho2 (below_size bl)); replace HB := bs (w := w) hb; (try clear hb ho0 ho1 ho2)) | ((with_reducible refine gD 3 rfl ?_); refine boxZ 3 #[.int .i64 0, .int .i64 0, .slice none 0 0, .slice none 0 0, .slice none 0 0] 26 ?_; intro gb177 hg w6 hbox hb; replace HO169 := Aside0.mk (Kd.R_below (rpR HO169.out) hb); replace HO172 := Aside0.mk (Kd.R_below (rpR HO172.out) hb); replace HO175 := Aside0.mk (Kd.R_below (rpR HO175.out) hb); have BK177 := Aside0.mk hbox; have GW177 := gw (w := w) hg; have GE177 := gw (w := w) hg; replace HB := bs (w := w) hb; clear hb hbox hg; obtain ⟨Z7_0, Z7_1, Z7_2, Z7_3, Z7_4, Y7_0, Y7_1, Y7_2, Y7_3, Y7_4⟩ := cf5 BK177; obtain ⟨Ao8, co8, rfl⟩ := Kd.R_slice HO169.out; obtain ⟨Ao9, co9, rfl⟩ := Kd.R_slice HO172.out; obtain ⟨Ao10, co10, rfl⟩ := Kd.R_slice HO175.out) | ((with_reducible refine gC 16 rfl ?_); refine goesZ (some 18) rfl Try.func16 #[.int .i64 a0] ?_; (with_reducible refine (impl_NewDisk.calls a0 t178 t179 t180 t183 t186 t189 _ A3.out).mono ?_); rintro e w11 ⟨v181, v184, v187, rfl, ho0, ho1, ho2, hb⟩; refine ⟨_, rfl, ?_⟩; have HO182 := Aside0.mk (Kd.R_lower (Kd.R_new' ho0 (Kd.R_lt (rpR (Kd.R_mono (Kd.R_far (p := ⟨gb177, 4, none⟩) (Kd.R_far (p := ⟨gb177, 3, none⟩) (Kd.R_far (p := ⟨gb177, 2, none⟩) (Kd.R_far (p := ⟨gb177, 1, none⟩) (Kd.R_far (p := ⟨gb177, 0, none⟩) (Kd.R_types HO169.out BK177.out (by decide)) (fun _ hk => hk.2) (.int .i64 t165)) (fun _ hk => hk.2) (.int .i64 t166)) (fun _ hk => hk.2) (.slice Ao8 t167.length co8)) (fun _ hk => hk.2) (.slice Ao9 t170.length co9)) (fun _ hk => hk.2) (.slice Ao10 t173.length co10)) (fun _ h_ => h_.1))))) (below_size bl)); replace HO169 := Aside0.mk (Kd.R_elder' (rpR (Kd.R_mono (Kd.R_far (p := ⟨gb177, 4, none⟩) (Kd.R_far (p := ⟨gb177, 3, none⟩) (Kd.R_far (p := ⟨gb177, 2, none⟩) (Kd.R_far (p := ⟨gb177, 1, none⟩) (Kd.R_far (p := ⟨gb177, 0, none⟩) (Kd.R_types HO169.out BK177.out (by decide)) (fun _ hk => hk.2) (.int .i64 t165)) (fun _ hk => hk.2) (.int .i64 t166)) (fun _ hk => hk.2) (.slice Ao8 t167.length co8)) (fun _ hk => hk.2) (.slice Ao9 t170.length co9)) (fun _ hk => hk.2) (.slice Ao10 t173.length co10)) (fun _ h_ => h_.1))) (Kd.R_base ho0) hb); have HO185 := Aside0.mk (Kd.R_lower (Kd.R_new' ho1 (Kd.R_lt (rpR (Kd.R_mono (Kd.R_far (p := ⟨gb177, 4, none⟩) (Kd.R_far (p := ⟨gb177, 3, none⟩) (Kd.R_far (p := ⟨gb177, 2, none⟩) (Kd.R_far (p := ⟨gb177, 1, none⟩) (Kd.R_far (p := ⟨gb177, 0, none⟩) (Kd.R_types HO172.out BK177.out (by decide)) (fun _ hk => hk.2) (.int .i64 t165)) (fun _ hk => hk.2) (.int .i64 t166)) (fun _ hk => hk.2) (.slice Ao8 t167.length co8)) (fun _ hk => hk.2) (.slice Ao9 t170.length co9)) (fun _ hk => hk.2) (.slice Ao10 t173.length co10)) (fun _ h_ => h_.1))))) (below_size bl)); replace HO172 := Aside0.mk (Kd.R_elder' (rpR (Kd.R_mono (Kd.R_far (p := ⟨gb177, 4, none⟩) (Kd.R_far (p := ⟨gb177, 3, none⟩) (Kd.R_far (p := ⟨gb177, 2, none⟩) (Kd.R_far (p := ⟨gb177, 1, none⟩) (Kd.R_far (p := ⟨gb177, 0, none⟩) (Kd.R_types HO172.out BK177.out (by decide)) (fun _ hk => hk.2) (.int .i64 t165)) (fun _ hk => hk.2) (.int .i64 t166)) (fun _ hk => hk.2) (.slice Ao8 t167.length co8)) (fun _ hk => hk.2) (.slice Ao9 t170.length co9)) (fun _ hk => hk.2) (.slice Ao10 t173.length co10)) (fun _ h_ => h_.1))) (Kd.R_base ho1) hb); have HO188 := Aside0.mk (Kd.R_lower (Kd.R_new' ho2 (Kd.R_lt (rpR (Kd.R_mono (Kd.R_far (p := ⟨gb177, 4, none⟩) (Kd.R_far (p := ⟨gb177, 3, none⟩) (Kd.R_far (p := ⟨gb177, 2, none⟩) (Kd.R_far (p := ⟨gb177, 1, none⟩) (Kd.R_far (p := ⟨gb177, 0, none⟩) (Kd.R_types HO175.out BK177.out (by decide)) (fun _ hk => hk.2) (.int .i64 t165)) (fun _ hk => hk.2) (.int .i64 t166)) (fun _ hk => hk.2) (.slice Ao8 t167.length co8)) (fun _ hk => hk.2) (.slice Ao9 t170.length co9)) (fun _ hk => hk.2) (.slice Ao10 t173.length co10)) (fun _ h_ => h_.1))))) (below_size bl)); replace HO175 := Aside0.mk (Kd.R_elder' (rpR (Kd.R_mono (Kd.R_far (p := ⟨gb177, 4, none⟩) (Kd.R_far (p := ⟨gb177, 3, none⟩) (Kd.R_far (p := ⟨gb177, 2, none⟩) (Kd.R_far (p := ⟨gb177, 1, none⟩) (Kd.R_far (p := ⟨gb177, 0, none⟩) (Kd.R_types HO175.out BK177.out (by decide)) (fun _ hk => hk.2) (.int .i64 t165)) (fun _ hk => hk.2) (.int .i64 t166)) (fun _ hk => hk.2) (.slice Ao8 t167.length co8)) (fun _ hk => hk.2) (.slice Ao9 t170.length co9)) (fun _ hk => hk.2) (.slice Ao10 t173.length co10)) (fun _ h_ => h_.1))) (Kd.R_base ho2) hb); replace BK177 := Aside0.mk (blk_below (g := gb177) (o := .cells #[.int .i64 t165, .int .i64 t166, .slice Ao8 t167.length co8, .slice Ao9 t170.length co9, .slice Ao10 t173.length co10] 26 (0, 0)) bkk hb); replace HB := bs (w := w) hb; (try clear hb ho0 ho1 ho2)) | ((with_reducible refine gD 5 rfl ?_); refine boxZ 5 #[.int .i64 0, .int .i64 0, .slice none 0 0, .slice none 0 0, .slice none 0 0] 26 ?_; intro gb190 hg w12 hbox hb; replace HO169 := Aside0.mk (Kd.R_below (rpR HO169.out) hb); replace HO172 := Aside0.mk (Kd.R_below (rpR HO172.out) hb); replace HO175 := Aside0.mk (Kd.R_below (rpR HO175.out) hb); replace HO182 := Aside0.mk (Kd.R_below (rpR HO182.out) hb); replace HO185 := Aside0.mk (Kd.R_below (rpR HO185.out) hb); replace HO188 := Aside0.mk (Kd.R_below (rpR HO188.out) hb); have BK190 := Aside0.mk hbox; have GW190 := gw (w := w) hg; have GE190 := gw (w := w) hg; replace HB := bs (w := w) hb; have NB177_190 := nl BK177 hg; have NB190_177 := nr BK177 hg; replace BK177 := bv BK177 hb; clear hb hbox hg; have hnb13 := NB190_177.out; have hnc13 := NB177_190.out; obtain ⟨Z14_0, Z14_1, Z14_2, Z14_3, Z14_4, Y14_0, Y14_1, Y14_2, Y14_3, Y14_4⟩ := cf5 BK190; obtain ⟨Ao15, co15, rfl⟩ := Kd.R_slice HO182.out; obtain ⟨Ao16, co16, rfl⟩ := Kd.R_slice HO185.out; obtain ⟨Ao17, co17, rfl⟩ := Kd.R_slice HO188.out))
 (try simp only [Act.put, List.setIfInBounds_toArray, List.set_cons_zero, List.set_cons_succ])
 go_cut [29] (fun v29 wc => ∃ (kq : Nat) (x29_3 : Bool), v29 = .bool x29_3 ∧ Aside0 (laws_FnExactNewDisk.j0 kq a0 t176 x29_3 t165 t166 t167 t170 t173 t178 t179 t180 t183 t186 = some r) ∧ Aside0 (kq ≤ k) ∧ Aside0 (Kd.R k89 89 wc w.heap.size (fun k_ => some k_ ≠ ((.slice Ao15 t180.length co15) : Value).ownBlock) (.slice Ao8 t167.length co8) t167) ∧ Aside0 (Kd.R k93 93 wc w.heap.size (fun k_ => some k_ ≠ ((.slice Ao16 t183.length co16) : Value).ownBlock) (.slice Ao9 t170.length co9) t170) ∧ Aside0 (Kd.R k95 95 wc w.heap.size (fun k_ => some k_ ≠ ((.slice Ao17 t186.length co17) : Value).ownBlock) (.slice Ao10 t173.length co10) t173) ∧ Aside0 (Kd.R k89 89 wc w.heap.size (fun k_ => some k_ ≠ ((.slice Ao8 t167.length co8) : Value).ownBlock) (.slice Ao15 t180.length co15) t180) ∧ Aside0 (Kd.R k93 93 wc w.heap.size (fun k_ => some k_ ≠ ((.slice Ao9 t170.length co9) : Value).ownBlock) (.slice Ao16 t183.length co16) t183) ∧ Aside0 (Kd.R k95 95 wc w.heap.size (fun k_ => some k_ ≠ ((.slice Ao10 t173.length co10) : Value).ownBlock) (.slice Ao17 t186.length co17) t186) ∧ Aside0 (wc.heap[gb177]? = some (.cells #[.int .i64 t165, .int .i64 t166, (.slice Ao8 t167.length co8), (.slice Ao9 t170.length co9), (.slice Ao10 t173.length co10)] 26 (0, 0))) ∧ Aside0 (wc.heap[gb190]? = some (.cells #[.int .i64 t178, .int .i64 t179, (.slice Ao15 t180.length co15), (.slice Ao16 t183.length co16), (.slice Ao17 t186.length co17)] 26 (0, 0))) ∧ Aside0 (Below w.heap.size w wc))
 case first =>
  have H := HC4.out
  clear HC4
  obtain ⟨t191, A18, H⟩ := bd H
  by_cases c19 : t191 = true
  ·subst c19
   replace H := iT H
   have H' := Aside0.mk H
   clear H
   have hnb20 := NB190_177.out
   have hnc20 := NB177_190.out
   obtain ⟨Z21_0, Z21_1, Z21_2, Z21_3, Z21_4, Y21_0, Y21_1, Y21_2, Y21_3, Y21_4⟩ := cf5 BK190; obtain ⟨Z22_0, Z22_1, Z22_2, Z22_3, Z22_4, Y22_0, Y22_1, Y22_2, Y22_3, Y22_4⟩ := cf5 BK177
   go_wp2_with (first | ((with_reducible refine gC 17 rfl ?_); refine goesZ (some 23) rfl Try.func17 #[.agg #[.int .i64 t178, .int .i64 t179, .slice Ao15 t180.length co15, .slice Ao16 t183.length co16, .slice Ao17 t186.length co17], .agg #[.int .i64 t165, .int .i64 t166, .slice Ao8 t167.length co8, .slice Ao9 t170.length co9, .slice Ao10 t173.length co10]] ?_; (with_reducible refine (laws_eqDisk.calls k t178 t179 _ _ t180 _ _ t183 _ _ t186 t165 t166 _ _ t167 _ _ t170 _ _ t173 true _ ?side1 ?side2 ?side3 ?side4 ?side5 ?side6 ?side7 ?side8 ?side9 ?side10 ?side11 ?side12 A18.out).mono ?_); (case side1 => refine (Kd.R_reads' (e := 89) (base := w.heap.size) (ok := fun k_ => (True ∧ some k_ ≠ (.slice Ao8 t167.length co8 : Value).ownBlock)) (n := t180.length) (c := co15) ?_).2.2; exact (rpR (Kd.R_mono (Kd.R_far (p := ⟨gb190, 4, none⟩) (Kd.R_far (p := ⟨gb190, 3, none⟩) (Kd.R_far (p := ⟨gb190, 2, none⟩) (Kd.R_far (p := ⟨gb190, 1, none⟩) (Kd.R_far (p := ⟨gb190, 0, none⟩) (Kd.R_types HO182.out BK190.out (by decide)) (fun _ hk => hk.2) (.int .i64 t178)) (fun _ hk => hk.2) (.int .i64 t179)) (fun _ hk => hk.2) (.slice Ao15 t180.length co15)) (fun _ hk => hk.2) (.slice Ao16 t183.length co16)) (fun _ hk => hk.2) (.slice Ao17 t186.length co17)) (fun _ h_ => h_.1)))); (case side2 => exact (Kd.R_reads' HO182.out).2.1); (case side3 => refine (Kd.R_reads' (e := 93) (base := w.heap.size) (ok := fun k_ => (True ∧ some k_ ≠ (.slice Ao9 t170.length co9 : Value).ownBlock)) (n := t183.length) (c := co16) ?_).2.2; exact (rpR (Kd.R_mono (Kd.R_far (p := ⟨gb190, 4, none⟩) (Kd.R_far (p := ⟨gb190, 3, none⟩) (Kd.R_far (p := ⟨gb190, 2, none⟩) (Kd.R_far (p := ⟨gb190, 1, none⟩) (Kd.R_far (p := ⟨gb190, 0, none⟩) (Kd.R_types HO185.out BK190.out (by decide)) (fun _ hk => hk.2) (.int .i64 t178)) (fun _ hk => hk.2) (.int .i64 t179)) (fun _ hk => hk.2) (.slice Ao15 t180.length co15)) (fun _ hk => hk.2) (.slice Ao16 t183.length co16)) (fun _ hk => hk.2) (.slice Ao17 t186.length co17)) (fun _ h_ => h_.1)))); (case side4 => exact (Kd.R_reads' HO185.out).2.1); (case side5 => refine (Kd.R_reads' (e := 95) (base := w.heap.size) (ok := fun k_ => (True ∧ some k_ ≠ (.slice Ao10 t173.length co10 : Value).ownBlock)) (n := t186.length) (c := co17) ?_).2.2; exact (rpR (Kd.R_mono (Kd.R_far (p := ⟨gb190, 4, none⟩) (Kd.R_far (p := ⟨gb190, 3, none⟩) (Kd.R_far (p := ⟨gb190, 2, none⟩) (Kd.R_far (p := ⟨gb190, 1, none⟩) (Kd.R_far (p := ⟨gb190, 0, none⟩) (Kd.R_types HO188.out BK190.out (by decide)) (fun _ hk => hk.2) (.int .i64 t178)) (fun _ hk => hk.2) (.int .i64 t179)) (fun _ hk => hk.2) (.slice Ao15 t180.length co15)) (fun _ hk => hk.2) (.slice Ao16 t183.length co16)) (fun _ hk => hk.2) (.slice Ao17 t186.length co17)) (fun _ h_ => h_.1)))); (case side6 => exact (Kd.R_reads' HO188.out).2.1); (case side7 => refine (Kd.R_reads' (e := 89) (base := w.heap.size) (ok := fun k_ => (True ∧ some k_ ≠ (.slice Ao15 t180.length co15 : Value).ownBlock)) (n := t167.length) (c := co8) ?_).2.2; exact (rpR (Kd.R_mono (Kd.R_far (p := ⟨gb190, 4, none⟩) (Kd.R_far (p := ⟨gb190, 3, none⟩) (Kd.R_far (p := ⟨gb190, 2, none⟩) (Kd.R_far (p := ⟨gb190, 1, none⟩) (Kd.R_far (p := ⟨gb190, 0, none⟩) (Kd.R_types HO169.out BK190.out (by decide)) (fun _ hk => hk.2) (.int .i64 t178)) (fun _ hk => hk.2) (.int .i64 t179)) (fun _ hk => hk.2) (.slice Ao15 t180.length co15)) (fun _ hk => hk.2) (.slice Ao16 t183.length co16)) (fun _ hk => hk.2) (.slice Ao17 t186.length co17)) (fun _ h_ => h_.1)))); (case side8 => exact (Kd.R_reads' HO169.out).2.1); (case side9 => refine (Kd.R_reads' (e := 93) (base := w.heap.size) (ok := fun k_ => (True ∧ some k_ ≠ (.slice Ao16 t183.length co16 : Value).ownBlock)) (n := t170.length) (c := co9) ?_).2.2; exact (rpR (Kd.R_mono (Kd.R_far (p := ⟨gb190, 4, none⟩) (Kd.R_far (p := ⟨gb190, 3, none⟩) (Kd.R_far (p := ⟨gb190, 2, none⟩) (Kd.R_far (p := ⟨gb190, 1, none⟩) (Kd.R_far (p := ⟨gb190, 0, none⟩) (Kd.R_types HO172.out BK190.out (by decide)) (fun _ hk => hk.2) (.int .i64 t178)) (fun _ hk => hk.2) (.int .i64 t179)) (fun _ hk => hk.2) (.slice Ao15 t180.length co15)) (fun _ hk => hk.2) (.slice Ao16 t183.length co16)) (fun _ hk => hk.2) (.slice Ao17 t186.length co17)) (fun _ h_ => h_.1)))); (case side10 => exact (Kd.R_reads' HO172.out).2.1); (case side11 => refine (Kd.R_reads' (e := 95) (base := w.heap.size) (ok := fun k_ => (True ∧ some k_ ≠ (.slice Ao17 t186.length co17 : Value).ownBlock)) (n := t173.length) (c := co10) ?_).2.2; exact (rpR (Kd.R_mono (Kd.R_far (p := ⟨gb190, 4, none⟩) (Kd.R_far (p := ⟨gb190, 3, none⟩) (Kd.R_far (p := ⟨gb190, 2, none⟩) (Kd.R_far (p := ⟨gb190, 1, none⟩) (Kd.R_far (p := ⟨gb190, 0, none⟩) (Kd.R_types HO175.out BK190.out (by decide)) (fun _ hk => hk.2) (.int .i64 t178)) (fun _ hk => hk.2) (.int .i64 t179)) (fun _ hk => hk.2) (.slice Ao15 t180.length co15)) (fun _ hk => hk.2) (.slice Ao16 t183.length co16)) (fun _ hk => hk.2) (.slice Ao17 t186.length co17)) (fun _ h_ => h_.1)))); (case side12 => exact (Kd.R_reads' HO175.out).2.1); rintro e w23 ⟨rfl, hb⟩; refine ⟨_, rfl, ?_⟩; replace HO169 := Aside0.mk (Kd.R_below (rpR (Kd.R_mono (Kd.R_far (p := ⟨gb190, 4, none⟩) (Kd.R_far (p := ⟨gb190, 3, none⟩) (Kd.R_far (p := ⟨gb190, 2, none⟩) (Kd.R_far (p := ⟨gb190, 1, none⟩) (Kd.R_far (p := ⟨gb190, 0, none⟩) (Kd.R_types HO169.out BK190.out (by decide)) (fun _ hk => hk.2) (.int .i64 t178)) (fun _ hk => hk.2) (.int .i64 t179)) (fun _ hk => hk.2) (.slice Ao15 t180.length co15)) (fun _ hk => hk.2) (.slice Ao16 t183.length co16)) (fun _ hk => hk.2) (.slice Ao17 t186.length co17)) (fun _ h_ => h_.1))) hb); replace HO172 := Aside0.mk (Kd.R_below (rpR (Kd.R_mono (Kd.R_far (p := ⟨gb190, 4, none⟩) (Kd.R_far (p := ⟨gb190, 3, none⟩) (Kd.R_far (p := ⟨gb190, 2, none⟩) (Kd.R_far (p := ⟨gb190, 1, none⟩) (Kd.R_far (p := ⟨gb190, 0, none⟩) (Kd.R_types HO172.out BK190.out (by decide)) (fun _ hk => hk.2) (.int .i64 t178)) (fun _ hk => hk.2) (.int .i64 t179)) (fun _ hk => hk.2) (.slice Ao15 t180.length co15)) (fun _ hk => hk.2) (.slice Ao16 t183.length co16)) (fun _ hk => hk.2) (.slice Ao17 t186.length co17)) (fun _ h_ => h_.1))) hb); replace HO175 := Aside0.mk (Kd.R_below (rpR (Kd.R_mono (Kd.R_far (p := ⟨gb190, 4, none⟩) (Kd.R_far (p := ⟨gb190, 3, none⟩) (Kd.R_far (p := ⟨gb190, 2, none⟩) (Kd.R_far (p := ⟨gb190, 1, none⟩) (Kd.R_far (p := ⟨gb190, 0, none⟩) (Kd.R_types HO175.out BK190.out (by decide)) (fun _ hk => hk.2) (.int .i64 t178)) (fun _ hk => hk.2) (.int .i64 t179)) (fun _ hk => hk.2) (.slice Ao15 t180.length co15)) (fun _ hk => hk.2) (.slice Ao16 t183.length co16)) (fun _ hk => hk.2) (.slice Ao17 t186.length co17)) (fun _ h_ => h_.1))) hb); replace HO182 := Aside0.mk (Kd.R_below (rpR (Kd.R_mono (Kd.R_far (p := ⟨gb190, 4, none⟩) (Kd.R_far (p := ⟨gb190, 3, none⟩) (Kd.R_far (p := ⟨gb190, 2, none⟩) (Kd.R_far (p := ⟨gb190, 1, none⟩) (Kd.R_far (p := ⟨gb190, 0, none⟩) (Kd.R_types HO182.out BK190.out (by decide)) (fun _ hk => hk.2) (.int .i64 t178)) (fun _ hk => hk.2) (.int .i64 t179)) (fun _ hk => hk.2) (.slice Ao15 t180.length co15)) (fun _ hk => hk.2) (.slice Ao16 t183.length co16)) (fun _ hk => hk.2) (.slice Ao17 t186.length co17)) (fun _ h_ => h_.1))) hb); replace HO185 := Aside0.mk (Kd.R_below (rpR (Kd.R_mono (Kd.R_far (p := ⟨gb190, 4, none⟩) (Kd.R_far (p := ⟨gb190, 3, none⟩) (Kd.R_far (p := ⟨gb190, 2, none⟩) (Kd.R_far (p := ⟨gb190, 1, none⟩) (Kd.R_far (p := ⟨gb190, 0, none⟩) (Kd.R_types HO185.out BK190.out (by decide)) (fun _ hk => hk.2) (.int .i64 t178)) (fun _ hk => hk.2) (.int .i64 t179)) (fun _ hk => hk.2) (.slice Ao15 t180.length co15)) (fun _ hk => hk.2) (.slice Ao16 t183.length co16)) (fun _ hk => hk.2) (.slice Ao17 t186.length co17)) (fun _ h_ => h_.1))) hb); replace HO188 := Aside0.mk (Kd.R_below (rpR (Kd.R_mono (Kd.R_far (p := ⟨gb190, 4, none⟩) (Kd.R_far (p := ⟨gb190, 3, none⟩) (Kd.R_far (p := ⟨gb190, 2, none⟩) (Kd.R_far (p := ⟨gb190, 1, none⟩) (Kd.R_far (p := ⟨gb190, 0, none⟩) (Kd.R_types HO188.out BK190.out (by decide)) (fun _ hk => hk.2) (.int .i64 t178)) (fun _ hk => hk.2) (.int .i64 t179)) (fun _ hk => hk.2) (.slice Ao15 t180.length co15)) (fun _ hk => hk.2) (.slice Ao16 t183.length co16)) (fun _ hk => hk.2) (.slice Ao17 t186.length co17)) (fun _ h_ => h_.1))) hb); replace BK177 := Aside0.mk (blk_below (g := gb177) (o := .cells #[.int .i64 t165, .int .i64 t166, .slice Ao8 t167.length co8, .slice Ao9 t170.length co9, .slice Ao10 t173.length co10] 26 (0, 0)) bkk hb); replace BK190 := Aside0.mk (blk_below (g := gb190) (o := .cells #[.int .i64 t178, .int .i64 t179, .slice Ao15 t180.length co15, .slice Ao16 t183.length co16, .slice Ao17 t186.length co17] 26 (0, 0)) bkk hb); replace HB := bs (w := w) hb; (try clear hb)))
   go_meet
   case rel => exact ⟨_, ((t189 != t176)), fa, H', ⟨by first | omega | exact Nat.le_refl _⟩, ⟨rpR (Kd.R_mono HO169.out (fun _ hk => hk.2))⟩, ⟨rpR (Kd.R_mono HO172.out (fun _ hk => hk.2))⟩, ⟨rpR (Kd.R_mono HO175.out (fun _ hk => hk.2))⟩, ⟨rpR (Kd.R_mono HO182.out (fun _ hk => hk.2))⟩, ⟨rpR (Kd.R_mono HO185.out (fun _ hk => hk.2))⟩, ⟨rpR (Kd.R_mono HO188.out (fun _ hk => hk.2))⟩, ⟨by (with_reducible repeat (first | refine blk_drewN ?_ _ | refine blk_drew ?_ | refine blk_alloc ?_ _)); exact BK177.out⟩, ⟨by (with_reducible repeat (first | refine blk_drewN ?_ _ | refine blk_drew ?_ | refine blk_alloc ?_ _)); exact BK190.out⟩, ⟨bl⟩⟩
  ·replace c19 := Bool.eq_false_iff.mpr c19
   subst c19
   replace H := iF H
   have H' := Aside0.mk H
   clear H
   have hnb24 := NB190_177.out
   have hnc24 := NB177_190.out
   obtain ⟨Z25_0, Z25_1, Z25_2, Z25_3, Z25_4, Y25_0, Y25_1, Y25_2, Y25_3, Y25_4⟩ := cf5 BK190; obtain ⟨Z26_0, Z26_1, Z26_2, Z26_3, Z26_4, Y26_0, Y26_1, Y26_2, Y26_3, Y26_4⟩ := cf5 BK177
   go_wp2_with (first | ((with_reducible refine gC 17 rfl ?_); refine goesZ (some 23) rfl Try.func17 #[.agg #[.int .i64 t178, .int .i64 t179, .slice Ao15 t180.length co15, .slice Ao16 t183.length co16, .slice Ao17 t186.length co17], .agg #[.int .i64 t165, .int .i64 t166, .slice Ao8 t167.length co8, .slice Ao9 t170.length co9, .slice Ao10 t173.length co10]] ?_; (with_reducible refine (laws_eqDisk.calls k t178 t179 _ _ t180 _ _ t183 _ _ t186 t165 t166 _ _ t167 _ _ t170 _ _ t173 false _ ?side1 ?side2 ?side3 ?side4 ?side5 ?side6 ?side7 ?side8 ?side9 ?side10 ?side11 ?side12 A18.out).mono ?_); (case side1 => refine (Kd.R_reads' (e := 89) (base := w.heap.size) (ok := fun k_ => (True ∧ some k_ ≠ (.slice Ao8 t167.length co8 : Value).ownBlock)) (n := t180.length) (c := co15) ?_).2.2; exact (rpR (Kd.R_mono (Kd.R_far (p := ⟨gb190, 4, none⟩) (Kd.R_far (p := ⟨gb190, 3, none⟩) (Kd.R_far (p := ⟨gb190, 2, none⟩) (Kd.R_far (p := ⟨gb190, 1, none⟩) (Kd.R_far (p := ⟨gb190, 0, none⟩) (Kd.R_types HO182.out BK190.out (by decide)) (fun _ hk => hk.2) (.int .i64 t178)) (fun _ hk => hk.2) (.int .i64 t179)) (fun _ hk => hk.2) (.slice Ao15 t180.length co15)) (fun _ hk => hk.2) (.slice Ao16 t183.length co16)) (fun _ hk => hk.2) (.slice Ao17 t186.length co17)) (fun _ h_ => h_.1)))); (case side2 => exact (Kd.R_reads' HO182.out).2.1); (case side3 => refine (Kd.R_reads' (e := 93) (base := w.heap.size) (ok := fun k_ => (True ∧ some k_ ≠ (.slice Ao9 t170.length co9 : Value).ownBlock)) (n := t183.length) (c := co16) ?_).2.2; exact (rpR (Kd.R_mono (Kd.R_far (p := ⟨gb190, 4, none⟩) (Kd.R_far (p := ⟨gb190, 3, none⟩) (Kd.R_far (p := ⟨gb190, 2, none⟩) (Kd.R_far (p := ⟨gb190, 1, none⟩) (Kd.R_far (p := ⟨gb190, 0, none⟩) (Kd.R_types HO185.out BK190.out (by decide)) (fun _ hk => hk.2) (.int .i64 t178)) (fun _ hk => hk.2) (.int .i64 t179)) (fun _ hk => hk.2) (.slice Ao15 t180.length co15)) (fun _ hk => hk.2) (.slice Ao16 t183.length co16)) (fun _ hk => hk.2) (.slice Ao17 t186.length co17)) (fun _ h_ => h_.1)))); (case side4 => exact (Kd.R_reads' HO185.out).2.1); (case side5 => refine (Kd.R_reads' (e := 95) (base := w.heap.size) (ok := fun k_ => (True ∧ some k_ ≠ (.slice Ao10 t173.length co10 : Value).ownBlock)) (n := t186.length) (c := co17) ?_).2.2; exact (rpR (Kd.R_mono (Kd.R_far (p := ⟨gb190, 4, none⟩) (Kd.R_far (p := ⟨gb190, 3, none⟩) (Kd.R_far (p := ⟨gb190, 2, none⟩) (Kd.R_far (p := ⟨gb190, 1, none⟩) (Kd.R_far (p := ⟨gb190, 0, none⟩) (Kd.R_types HO188.out BK190.out (by decide)) (fun _ hk => hk.2) (.int .i64 t178)) (fun _ hk => hk.2) (.int .i64 t179)) (fun _ hk => hk.2) (.slice Ao15 t180.length co15)) (fun _ hk => hk.2) (.slice Ao16 t183.length co16)) (fun _ hk => hk.2) (.slice Ao17 t186.length co17)) (fun _ h_ => h_.1)))); (case side6 => exact (Kd.R_reads' HO188.out).2.1); (case side7 => refine (Kd.R_reads' (e := 89) (base := w.heap.size) (ok := fun k_ => (True ∧ some k_ ≠ (.slice Ao15 t180.length co15 : Value).ownBlock)) (n := t167.length) (c := co8) ?_).2.2; exact (rpR (Kd.R_mono (Kd.R_far (p := ⟨gb190, 4, none⟩) (Kd.R_far (p := ⟨gb190, 3, none⟩) (Kd.R_far (p := ⟨gb190, 2, none⟩) (Kd.R_far (p := ⟨gb190, 1, none⟩) (Kd.R_far (p := ⟨gb190, 0, none⟩) (Kd.R_types HO169.out BK190.out (by decide)) (fun _ hk => hk.2) (.int .i64 t178)) (fun _ hk => hk.2) (.int .i64 t179)) (fun _ hk => hk.2) (.slice Ao15 t180.length co15)) (fun _ hk => hk.2) (.slice Ao16 t183.length co16)) (fun _ hk => hk.2) (.slice Ao17 t186.length co17)) (fun _ h_ => h_.1)))); (case side8 => exact (Kd.R_reads' HO169.out).2.1); (case side9 => refine (Kd.R_reads' (e := 93) (base := w.heap.size) (ok := fun k_ => (True ∧ some k_ ≠ (.slice Ao16 t183.length co16 : Value).ownBlock)) (n := t170.length) (c := co9) ?_).2.2; exact (rpR (Kd.R_mono (Kd.R_far (p := ⟨gb190, 4, none⟩) (Kd.R_far (p := ⟨gb190, 3, none⟩) (Kd.R_far (p := ⟨gb190, 2, none⟩) (Kd.R_far (p := ⟨gb190, 1, none⟩) (Kd.R_far (p := ⟨gb190, 0, none⟩) (Kd.R_types HO172.out BK190.out (by decide)) (fun _ hk => hk.2) (.int .i64 t178)) (fun _ hk => hk.2) (.int .i64 t179)) (fun _ hk => hk.2) (.slice Ao15 t180.length co15)) (fun _ hk => hk.2) (.slice Ao16 t183.length co16)) (fun _ hk => hk.2) (.slice Ao17 t186.length co17)) (fun _ h_ => h_.1)))); (case side10 => exact (Kd.R_reads' HO172.out).2.1); (case side11 => refine (Kd.R_reads' (e := 95) (base := w.heap.size) (ok := fun k_ => (True ∧ some k_ ≠ (.slice Ao17 t186.length co17 : Value).ownBlock)) (n := t173.length) (c := co10) ?_).2.2; exact (rpR (Kd.R_mono (Kd.R_far (p := ⟨gb190, 4, none⟩) (Kd.R_far (p := ⟨gb190, 3, none⟩) (Kd.R_far (p := ⟨gb190, 2, none⟩) (Kd.R_far (p := ⟨gb190, 1, none⟩) (Kd.R_far (p := ⟨gb190, 0, none⟩) (Kd.R_types HO175.out BK190.out (by decide)) (fun _ hk => hk.2) (.int .i64 t178)) (fun _ hk => hk.2) (.int .i64 t179)) (fun _ hk => hk.2) (.slice Ao15 t180.length co15)) (fun _ hk => hk.2) (.slice Ao16 t183.length co16)) (fun _ hk => hk.2) (.slice Ao17 t186.length co17)) (fun _ h_ => h_.1)))); (case side12 => exact (Kd.R_reads' HO175.out).2.1); rintro e w27 ⟨rfl, hb⟩; refine ⟨_, rfl, ?_⟩; replace HO169 := Aside0.mk (Kd.R_below (rpR (Kd.R_mono (Kd.R_far (p := ⟨gb190, 4, none⟩) (Kd.R_far (p := ⟨gb190, 3, none⟩) (Kd.R_far (p := ⟨gb190, 2, none⟩) (Kd.R_far (p := ⟨gb190, 1, none⟩) (Kd.R_far (p := ⟨gb190, 0, none⟩) (Kd.R_types HO169.out BK190.out (by decide)) (fun _ hk => hk.2) (.int .i64 t178)) (fun _ hk => hk.2) (.int .i64 t179)) (fun _ hk => hk.2) (.slice Ao15 t180.length co15)) (fun _ hk => hk.2) (.slice Ao16 t183.length co16)) (fun _ hk => hk.2) (.slice Ao17 t186.length co17)) (fun _ h_ => h_.1))) hb); replace HO172 := Aside0.mk (Kd.R_below (rpR (Kd.R_mono (Kd.R_far (p := ⟨gb190, 4, none⟩) (Kd.R_far (p := ⟨gb190, 3, none⟩) (Kd.R_far (p := ⟨gb190, 2, none⟩) (Kd.R_far (p := ⟨gb190, 1, none⟩) (Kd.R_far (p := ⟨gb190, 0, none⟩) (Kd.R_types HO172.out BK190.out (by decide)) (fun _ hk => hk.2) (.int .i64 t178)) (fun _ hk => hk.2) (.int .i64 t179)) (fun _ hk => hk.2) (.slice Ao15 t180.length co15)) (fun _ hk => hk.2) (.slice Ao16 t183.length co16)) (fun _ hk => hk.2) (.slice Ao17 t186.length co17)) (fun _ h_ => h_.1))) hb); replace HO175 := Aside0.mk (Kd.R_below (rpR (Kd.R_mono (Kd.R_far (p := ⟨gb190, 4, none⟩) (Kd.R_far (p := ⟨gb190, 3, none⟩) (Kd.R_far (p := ⟨gb190, 2, none⟩) (Kd.R_far (p := ⟨gb190, 1, none⟩) (Kd.R_far (p := ⟨gb190, 0, none⟩) (Kd.R_types HO175.out BK190.out (by decide)) (fun _ hk => hk.2) (.int .i64 t178)) (fun _ hk => hk.2) (.int .i64 t179)) (fun _ hk => hk.2) (.slice Ao15 t180.length co15)) (fun _ hk => hk.2) (.slice Ao16 t183.length co16)) (fun _ hk => hk.2) (.slice Ao17 t186.length co17)) (fun _ h_ => h_.1))) hb); replace HO182 := Aside0.mk (Kd.R_below (rpR (Kd.R_mono (Kd.R_far (p := ⟨gb190, 4, none⟩) (Kd.R_far (p := ⟨gb190, 3, none⟩) (Kd.R_far (p := ⟨gb190, 2, none⟩) (Kd.R_far (p := ⟨gb190, 1, none⟩) (Kd.R_far (p := ⟨gb190, 0, none⟩) (Kd.R_types HO182.out BK190.out (by decide)) (fun _ hk => hk.2) (.int .i64 t178)) (fun _ hk => hk.2) (.int .i64 t179)) (fun _ hk => hk.2) (.slice Ao15 t180.length co15)) (fun _ hk => hk.2) (.slice Ao16 t183.length co16)) (fun _ hk => hk.2) (.slice Ao17 t186.length co17)) (fun _ h_ => h_.1))) hb); replace HO185 := Aside0.mk (Kd.R_below (rpR (Kd.R_mono (Kd.R_far (p := ⟨gb190, 4, none⟩) (Kd.R_far (p := ⟨gb190, 3, none⟩) (Kd.R_far (p := ⟨gb190, 2, none⟩) (Kd.R_far (p := ⟨gb190, 1, none⟩) (Kd.R_far (p := ⟨gb190, 0, none⟩) (Kd.R_types HO185.out BK190.out (by decide)) (fun _ hk => hk.2) (.int .i64 t178)) (fun _ hk => hk.2) (.int .i64 t179)) (fun _ hk => hk.2) (.slice Ao15 t180.length co15)) (fun _ hk => hk.2) (.slice Ao16 t183.length co16)) (fun _ hk => hk.2) (.slice Ao17 t186.length co17)) (fun _ h_ => h_.1))) hb); replace HO188 := Aside0.mk (Kd.R_below (rpR (Kd.R_mono (Kd.R_far (p := ⟨gb190, 4, none⟩) (Kd.R_far (p := ⟨gb190, 3, none⟩) (Kd.R_far (p := ⟨gb190, 2, none⟩) (Kd.R_far (p := ⟨gb190, 1, none⟩) (Kd.R_far (p := ⟨gb190, 0, none⟩) (Kd.R_types HO188.out BK190.out (by decide)) (fun _ hk => hk.2) (.int .i64 t178)) (fun _ hk => hk.2) (.int .i64 t179)) (fun _ hk => hk.2) (.slice Ao15 t180.length co15)) (fun _ hk => hk.2) (.slice Ao16 t183.length co16)) (fun _ hk => hk.2) (.slice Ao17 t186.length co17)) (fun _ h_ => h_.1))) hb); replace BK177 := Aside0.mk (blk_below (g := gb177) (o := .cells #[.int .i64 t165, .int .i64 t166, .slice Ao8 t167.length co8, .slice Ao9 t170.length co9, .slice Ao10 t173.length co10] 26 (0, 0)) bkk hb); replace BK190 := Aside0.mk (blk_below (g := gb190) (o := .cells #[.int .i64 t178, .int .i64 t179, .slice Ao15 t180.length co15, .slice Ao16 t183.length co16, .slice Ao17 t186.length co17] 26 (0, 0)) bkk hb); replace HB := bs (w := w) hb; (try clear hb)))
   go_meet
   case rel => exact ⟨_, (true), fa, H', ⟨by first | omega | exact Nat.le_refl _⟩, ⟨rpR (Kd.R_mono HO169.out (fun _ hk => hk.2))⟩, ⟨rpR (Kd.R_mono HO172.out (fun _ hk => hk.2))⟩, ⟨rpR (Kd.R_mono HO175.out (fun _ hk => hk.2))⟩, ⟨rpR (Kd.R_mono HO182.out (fun _ hk => hk.2))⟩, ⟨rpR (Kd.R_mono HO185.out (fun _ hk => hk.2))⟩, ⟨rpR (Kd.R_mono HO188.out (fun _ hk => hk.2))⟩, ⟨by (with_reducible repeat (first | refine blk_drewN ?_ _ | refine blk_drew ?_ | refine blk_alloc ?_ _)); exact BK177.out⟩, ⟨by (with_reducible repeat (first | refine blk_drewN ?_ _ | refine blk_drew ?_ | refine blk_alloc ?_ _)); exact BK190.out⟩, ⟨bl⟩⟩
 case rest =>
  clear HC4
  try clear c1
  try clear c2
  try clear p2
  try clear c3
  try clear c13
  try clear c15
  try clear c16
  try clear c17
  try clear c19
  try clear c20
  try clear c24
  try clear Z14_0 Z14_1 Z14_2 Z14_3 Z14_4
  try clear Z21_0 Z21_1 Z21_2 Z21_3 Z21_4
  try clear Z22_0 Z22_1 Z22_2 Z22_3 Z22_4
  try clear Z25_0 Z25_1 Z25_2 Z25_3 Z25_4
  try clear Z26_0 Z26_1 Z26_2 Z26_3 Z26_4
  try clear Z7_0 Z7_1 Z7_2 Z7_3 Z7_4
  try clear Y14_0 Y14_1 Y14_2 Y14_3 Y14_4
  try clear Y21_0 Y21_1 Y21_2 Y21_3 Y21_4
  try clear Y22_0 Y22_1 Y22_2 Y22_3 Y22_4
  try clear Y25_0 Y25_1 Y25_2 Y25_3 Y25_4
  try clear Y26_0 Y26_1 Y26_2 Y26_3 Y26_4
  try clear Y7_0 Y7_1 Y7_2 Y7_3 Y7_4
  obtain ⟨kq, x29_3, rfl, HA, HJ3, HO_178002, HO_178003, HO_178004, HO_191002, HO_191003, HO_191004, BK177, BK190, HB⟩ := hcut
  cases kq with
  | zero => exact absurd HA.out (by simp [laws_FnExactNewDisk.j0])
  | succ kj3 =>
   have H := HA.out
   clear HA
   simp only [laws_FnExactNewDisk.j0] at H
   by_cases c28 : x29_3 = true
   ·subst c28
    replace H := iT H
    exact absurd ((Option.some.inj H).trans hr_) (by decide)
   ·replace c28 := Bool.eq_false_iff.mpr c28
    subst c28
    replace H := iF H
    replace H := Option.bind_eq_some_iff.mp H
    obtain ⟨⟨t192, t193, t194, t195⟩, A290, H⟩ := H
    replace H : ((laws_heldDisk.f kj3 t178 t179 t193 t194 t195 1).bind fun t196 => (if t196 < 0 then (some false) else (if t196 = t192 then ((impl_NewDisk.f a0).bind fun bt197 => ((laws_eqDisk.f kj3 bt197.1 bt197.2.1 bt197.2.2.1 bt197.2.2.2.1 bt197.2.2.2.2.1 t165 t166 t167 t170 t173).bind fun t210 => (if t210 = true then (laws_FnExactNewDisk.j1 kj3 t192 (bt197.2.2.2.2.2 != t176) t178 t179 t193 t194 t195) else (laws_FnExactNewDisk.j1 kj3 t192 true t178 t179 t193 t194 t195)))) else (some false)))) = some r := H
    have A29 := Aside0.mk A290
    clear A290
    obtain ⟨t196, A30, H⟩ := bd H
    by_cases c31 : t196 < 0
    ·rw [if_pos c31] at H
     have c31b0 : decide (t196 < 0) = true := decide_eq_true c31
     clear c31
     exact absurd ((Option.some.inj H).trans hr_) (by decide)
    ·rw [if_neg c31] at H
     have c31b0 : decide (t196 < 0) = false := decide_eq_false c31
     clear c31
     by_cases c32 : t196 = t192
     ·rw [if_pos c32] at H
      have c32b0 : (t196 == t192) = true := beq_iff_eq.mpr c32
      have c32b1 : (t196 != t192) = false := bne_eq_false_iff_eq.mpr c32
      clear c32
      replace H := Option.bind_eq_some_iff.mp H
      obtain ⟨⟨t197, t198, t199, t202, t205, t208⟩, A330, H⟩ := H
      replace H : ((laws_eqDisk.f kj3 t197 t198 t199 t202 t205 t165 t166 t167 t170 t173).bind fun t210 => (if t210 = true then (laws_FnExactNewDisk.j1 kj3 t192 (t208 != t176) t178 t179 t193 t194 t195) else (laws_FnExactNewDisk.j1 kj3 t192 true t178 t179 t193 t194 t195))) = some r := H
      have A33 := Aside0.mk A330
      clear A330
      have HC34 := Aside0.mk H
      clear H
      have hnb35 := NB190_177.out
      have hnc35 := NB177_190.out
      obtain ⟨Z36_0, Z36_1, Z36_2, Z36_3, Z36_4, Y36_0, Y36_1, Y36_2, Y36_3, Y36_4⟩ := cf5 BK190
      go_upto_region 14 with (first | ((with_reducible refine gC 18 rfl ?_); refine goesZ (some 32) rfl Try.func18 #[.agg #[.int .i64 t178, .int .i64 t179, .slice Ao15 t180.length co15, .slice Ao16 t183.length co16, .slice Ao17 t186.length co17], .int .i64 1] ?_; (with_reducible refine (laws_markDisk.calls kj3 t178 t179 (fun k_ => some k_ = (.slice Ao15 t180.length co15 : Value).ownBlock) (.slice Ao15 t180.length co15) t180 (fun k_ => some k_ = (.slice Ao16 t183.length co16 : Value).ownBlock) (.slice Ao16 t183.length co16) t183 (fun k_ => some k_ = (.slice Ao17 t186.length co17 : Value).ownBlock) (.slice Ao17 t186.length co17) t186 1 t192 t193 t194 t195 w _ ?side1 ?side2 ?side3 ?side4 A29.out).mono ?_); (case side1 => repeat (first | (with_reducible first | exact HB.out | apply below_alloc | apply pw_below_drewN | apply below_drew1 | refine below_set ?_ GE177.out | refine below_set ?_ GE190.out) | exact HB.out)); (case side2 => exact Kd.R_tight rfl HO_191002.out); (case side3 => exact Kd.R_tight rfl HO_191003.out); (case side4 => exact Kd.R_tight rfl HO_191004.out); rintro e w37 ⟨rfl, hy0, hy1, hy2, hb, hkp⟩; refine ⟨_, rfl, ?_⟩; replace HO_178002 := Aside0.mk (Kd.R_mono (ok' := fun k_ => some k_ ≠ (.slice Ao15 t180.length co15 : Value).ownBlock) (Kd.R_keptB ((Kd.R_apart' (Kd.R_apart' HO_178002.out (Kd.R_typed HO_191003.out) (by decide)) (Kd.R_typed HO_191004.out) (by decide))) hkp (fun k_ hk_ hs_ => Or.elim hs_ (fun e_ => (hk_.1.1) e_) (fun e_ => Or.elim e_ (fun e_ => (hk_.1.2) e_) (fun e_ => (hk_.2) e_)))) (fun k_ hk_ => hk_.1.1.1)); replace HO_178003 := Aside0.mk (Kd.R_mono (ok' := fun k_ => some k_ ≠ (.slice Ao16 t183.length co16 : Value).ownBlock) (Kd.R_keptB ((Kd.R_apart' (Kd.R_apart' HO_178003.out (Kd.R_typed HO_191002.out) (by decide)) (Kd.R_typed HO_191004.out) (by decide))) hkp (fun k_ hk_ hs_ => Or.elim hs_ (fun e_ => (hk_.1.2) e_) (fun e_ => Or.elim e_ (fun e_ => (hk_.1.1) e_) (fun e_ => (hk_.2) e_)))) (fun k_ hk_ => hk_.1.1.1)); replace HO_178004 := Aside0.mk (Kd.R_mono (ok' := fun k_ => some k_ ≠ (.slice Ao17 t186.length co17 : Value).ownBlock) (Kd.R_keptB ((Kd.R_apart' (Kd.R_apart' HO_178004.out (Kd.R_typed HO_191002.out) (by decide)) (Kd.R_typed HO_191003.out) (by decide))) hkp (fun k_ hk_ hs_ => Or.elim hs_ (fun e_ => (hk_.1.2) e_) (fun e_ => Or.elim e_ (fun e_ => (hk_.2) e_) (fun e_ => (hk_.1.1) e_)))) (fun k_ hk_ => hk_.1.1.1)); replace BK177 := Aside0.mk (blk_kept bk hkp (fun hs_ => Or.elim hs_ (fun e_ => (fun e_ => (Kd.R_ne HO_191002.out BK177.out (by decide)) e_) e_) (fun e_ => Or.elim e_ (fun e_ => (fun e_ => (Kd.R_ne HO_191003.out BK177.out (by decide)) e_) e_) (fun e_ => (fun e_ => (Kd.R_ne HO_191004.out BK177.out (by decide)) e_) e_)))); replace BK190 := Aside0.mk (blk_kept bk hkp (fun hs_ => Or.elim hs_ (fun e_ => (fun e_ => (Kd.R_ne HO_191002.out BK190.out (by decide)) e_) e_) (fun e_ => Or.elim e_ (fun e_ => (fun e_ => (Kd.R_ne HO_191003.out BK190.out (by decide)) e_) e_) (fun e_ => (fun e_ => (Kd.R_ne HO_191004.out BK190.out (by decide)) e_) e_)))); replace HO_191002 := Aside0.mk (Kd.R_reok rfl hy0 (fun k_ e_ => HO_191002.out.1 k_ e_)); replace HO_191003 := Aside0.mk (Kd.R_reok rfl hy1 (fun k_ e_ => HO_191003.out.1 k_ e_)); replace HO_191004 := Aside0.mk (Kd.R_reok rfl hy2 (fun k_ e_ => HO_191004.out.1 k_ e_)); replace HB := Aside0.mk (hb); (try clear hb hkp hy0 hy1 hy2); obtain ⟨Z38_0, Z38_1, Z38_2, Z38_3, Z38_4, Y38_0, Y38_1, Y38_2, Y38_3, Y38_4⟩ := cf5 BK190) | ((with_reducible refine gC 19 rfl ?_); refine goesL_ (some 35) rfl rfl Try.func19 (by kernel_rfl) rfl #[.agg #[.int .i64 t178, .int .i64 t179, .slice Ao15 t193.length co15, .slice Ao16 t194.length co16, .slice Ao17 t195.length co17], .int .i64 1] rfl (by (try simp only [List.map_toArray, List.map_cons, List.map_nil]); first | done | (rw [show t193.length = t180.length from (Kd.R_reads' HO_191002.out).1.symm, show t194.length = t183.length from (Kd.R_reads' HO_191003.out).1.symm, show t195.length = t186.length from (Kd.R_reads' HO_191004.out).1.symm] <;> rfl) | rfl | (simp only [List.length_drop, List.length_take]; rfl)) ?_; (with_reducible refine (laws_heldDisk.calls kj3 t178 t179 _ _ t193 _ _ t194 _ _ t195 1 t196 _ ?side1 ?side2 ?side3 ?side4 ?side5 ?side6 A30.out).mono ?_); (case side1 => exact ca ((Kd.R_reads' HO_191002.out).2.2)); (case side2 => rw [show t193.length = t180.length from (Kd.R_reads' HO_191002.out).1.symm]; exact (Kd.R_reads' HO_191002.out).2.1); (case side3 => exact ca ((Kd.R_reads' HO_191003.out).2.2)); (case side4 => rw [show t194.length = t183.length from (Kd.R_reads' HO_191003.out).1.symm]; exact (Kd.R_reads' HO_191003.out).2.1); (case side5 => exact ca ((Kd.R_reads' HO_191004.out).2.2)); (case side6 => rw [show t195.length = t186.length from (Kd.R_reads' HO_191004.out).1.symm]; exact (Kd.R_reads' HO_191004.out).2.1); rintro e w39 ⟨rfl, hb⟩; refine ⟨_, rfl, ?_⟩; replace HO_178002 := Aside0.mk (Kd.R_below (rpR HO_178002.out) hb); replace HO_178003 := Aside0.mk (Kd.R_below (rpR HO_178003.out) hb); replace HO_178004 := Aside0.mk (Kd.R_below (rpR HO_178004.out) hb); replace HO_191002 := Aside0.mk (Kd.R_below (rpR HO_191002.out) hb); replace HO_191003 := Aside0.mk (Kd.R_below (rpR HO_191003.out) hb); replace HO_191004 := Aside0.mk (Kd.R_below (rpR HO_191004.out) hb); replace BK177 := bv BK177 hb; replace BK190 := bv BK190 hb; replace HB := bs (w := w) hb; (try clear hb)) | ((with_reducible refine gC 16 rfl ?_); refine goesZ (some 43) rfl Try.func16 #[.int .i64 a0] ?_; (with_reducible refine (impl_NewDisk.calls a0 t197 t198 t199 t202 t205 t208 _ A33.out).mono ?_); rintro e w40 ⟨v200, v203, v206, rfl, ho0, ho1, ho2, hb⟩; refine ⟨_, rfl, ?_⟩; have HO201 := Aside0.mk (Kd.R_lower (Kd.R_new' (Kd.R_new' ho0 (Kd.R_lt (rpR HO_178002.out))) (Kd.R_lt (rpR HO_191002.out))) (below_size bl)); replace HO_178002 := Aside0.mk (Kd.R_elder' (rpR HO_178002.out) (Kd.R_base ho0) hb); replace HO_191002 := Aside0.mk (Kd.R_elder' (rpR HO_191002.out) (Kd.R_base ho0) hb); have HO204 := Aside0.mk (Kd.R_lower (Kd.R_new' (Kd.R_new' ho1 (Kd.R_lt (rpR HO_178003.out))) (Kd.R_lt (rpR HO_191003.out))) (below_size bl)); replace HO_178003 := Aside0.mk (Kd.R_elder' (rpR HO_178003.out) (Kd.R_base ho1) hb); replace HO_191003 := Aside0.mk (Kd.R_elder' (rpR HO_191003.out) (Kd.R_base ho1) hb); have HO207 := Aside0.mk (Kd.R_lower (Kd.R_new' (Kd.R_new' ho2 (Kd.R_lt (rpR HO_178004.out))) (Kd.R_lt (rpR HO_191004.out))) (below_size bl)); replace HO_178004 := Aside0.mk (Kd.R_elder' (rpR HO_178004.out) (Kd.R_base ho2) hb); replace HO_191004 := Aside0.mk (Kd.R_elder' (rpR HO_191004.out) (Kd.R_base ho2) hb); replace BK177 := bv BK177 hb; replace BK190 := bv BK190 hb; replace HB := bs (w := w) hb; (try clear hb ho0 ho1 ho2)) | ((with_reducible refine gD 9 rfl ?_); refine boxZ 9 #[.int .i64 0, .int .i64 0, .slice none 0 0, .slice none 0 0, .slice none 0 0] 26 ?_; intro gb209 hg w41 hbox hb; replace HO_178002 := Aside0.mk (Kd.R_below (rpR HO_178002.out) hb); replace HO_178003 := Aside0.mk (Kd.R_below (rpR HO_178003.out) hb); replace HO_178004 := Aside0.mk (Kd.R_below (rpR HO_178004.out) hb); replace HO_191002 := Aside0.mk (Kd.R_below (rpR HO_191002.out) hb); replace HO_191003 := Aside0.mk (Kd.R_below (rpR HO_191003.out) hb); replace HO_191004 := Aside0.mk (Kd.R_below (rpR HO_191004.out) hb); replace HO201 := Aside0.mk (Kd.R_below (rpR HO201.out) hb); replace HO204 := Aside0.mk (Kd.R_below (rpR HO204.out) hb); replace HO207 := Aside0.mk (Kd.R_below (rpR HO207.out) hb); have BK209 := Aside0.mk hbox; have GW209 := gw (w := w) hg; have GE209 := gw (w := w) hg; replace HB := bs (w := w) hb; have NB177_209 := nl BK177 hg; have NB209_177 := nr BK177 hg; replace BK177 := bv BK177 hb; have NB190_209 := nl BK190 hg; have NB209_190 := nr BK190 hg; replace BK190 := bv BK190 hb; clear hb hbox hg; have hnb42 := NB209_177.out; have hnc42 := NB177_209.out; have hnb43 := NB209_190.out; have hnc43 := NB190_209.out; obtain ⟨Z44_0, Z44_1, Z44_2, Z44_3, Z44_4, Y44_0, Y44_1, Y44_2, Y44_3, Y44_4⟩ := cf5 BK209; obtain ⟨Ao45, co45, rfl⟩ := Kd.R_slice HO201.out; obtain ⟨Ao46, co46, rfl⟩ := Kd.R_slice HO204.out; obtain ⟨Ao47, co47, rfl⟩ := Kd.R_slice HO207.out))
      (try simp only [Act.put, List.setIfInBounds_toArray, List.set_cons_zero, List.set_cons_succ])
      go_cut [54] (fun v54 wc => ∃ (kq : Nat) (x54_33 : Bool), v54 = .bool x54_33 ∧ Aside0 (laws_FnExactNewDisk.j1 kq t192 x54_33 t178 t179 t193 t194 t195 = some r) ∧ Aside0 (kq ≤ kj3) ∧ Aside0 (Kd.R k89 89 wc w.heap.size (fun k_ => some k_ ≠ ((.slice Ao15 t180.length co15) : Value).ownBlock ∧ some k_ ≠ ((.slice Ao45 t199.length co45) : Value).ownBlock) (.slice Ao8 t167.length co8) t167) ∧ Aside0 (Kd.R k93 93 wc w.heap.size (fun k_ => some k_ ≠ ((.slice Ao16 t183.length co16) : Value).ownBlock ∧ some k_ ≠ ((.slice Ao46 t202.length co46) : Value).ownBlock) (.slice Ao9 t170.length co9) t170) ∧ Aside0 (Kd.R k95 95 wc w.heap.size (fun k_ => some k_ ≠ ((.slice Ao17 t186.length co17) : Value).ownBlock ∧ some k_ ≠ ((.slice Ao47 t205.length co47) : Value).ownBlock) (.slice Ao10 t173.length co10) t173) ∧ Aside0 (Kd.R k89 89 wc w.heap.size (fun k_ => some k_ ≠ ((.slice Ao8 t167.length co8) : Value).ownBlock ∧ some k_ ≠ ((.slice Ao45 t199.length co45) : Value).ownBlock) (.slice Ao15 t180.length co15) t193) ∧ Aside0 (Kd.R k93 93 wc w.heap.size (fun k_ => some k_ ≠ ((.slice Ao9 t170.length co9) : Value).ownBlock ∧ some k_ ≠ ((.slice Ao46 t202.length co46) : Value).ownBlock) (.slice Ao16 t183.length co16) t194) ∧ Aside0 (Kd.R k95 95 wc w.heap.size (fun k_ => some k_ ≠ ((.slice Ao10 t173.length co10) : Value).ownBlock ∧ some k_ ≠ ((.slice Ao47 t205.length co47) : Value).ownBlock) (.slice Ao17 t186.length co17) t195) ∧ Aside0 (Kd.R k89 89 wc w.heap.size (fun k_ => some k_ ≠ ((.slice Ao8 t167.length co8) : Value).ownBlock ∧ some k_ ≠ ((.slice Ao15 t180.length co15) : Value).ownBlock) (.slice Ao45 t199.length co45) t199) ∧ Aside0 (Kd.R k93 93 wc w.heap.size (fun k_ => some k_ ≠ ((.slice Ao9 t170.length co9) : Value).ownBlock ∧ some k_ ≠ ((.slice Ao16 t183.length co16) : Value).ownBlock) (.slice Ao46 t202.length co46) t202) ∧ Aside0 (Kd.R k95 95 wc w.heap.size (fun k_ => some k_ ≠ ((.slice Ao10 t173.length co10) : Value).ownBlock ∧ some k_ ≠ ((.slice Ao17 t186.length co17) : Value).ownBlock) (.slice Ao47 t205.length co47) t205) ∧ Aside0 (wc.heap[gb177]? = some (.cells #[.int .i64 t165, .int .i64 t166, (.slice Ao8 t167.length co8), (.slice Ao9 t170.length co9), (.slice Ao10 t173.length co10)] 26 (0, 0))) ∧ Aside0 (wc.heap[gb190]? = some (.cells #[.int .i64 t178, .int .i64 t179, (.slice Ao15 t180.length co15), (.slice Ao16 t183.length co16), (.slice Ao17 t186.length co17)] 26 (0, 0))) ∧ Aside0 (wc.heap[gb209]? = some (.cells #[.int .i64 t197, .int .i64 t198, (.slice Ao45 t199.length co45), (.slice Ao46 t202.length co46), (.slice Ao47 t205.length co47)] 26 (0, 0))) ∧ Aside0 (Below w.heap.size w wc))
      case first =>
       have H := HC34.out
       clear HC34
       obtain ⟨t210, A48, H⟩ := bd H
       by_cases c49 : t210 = true
       ·subst c49
        replace H := iT H
        have H' := Aside0.mk H
        clear H
        have hnb50 := NB209_177.out
        have hnc50 := NB177_209.out
        have hnb51 := NB209_190.out
        have hnc51 := NB190_209.out
        obtain ⟨Z52_0, Z52_1, Z52_2, Z52_3, Z52_4, Y52_0, Y52_1, Y52_2, Y52_3, Y52_4⟩ := cf5 BK209
        have hnb53 := NB177_190.out
        have hnc53 := NB190_177.out
        obtain ⟨Z54_0, Z54_1, Z54_2, Z54_3, Z54_4, Y54_0, Y54_1, Y54_2, Y54_3, Y54_4⟩ := cf5 BK177
        go_wp2_with (first | ((with_reducible refine gC 17 rfl ?_); refine goesZ (some 48) rfl Try.func17 #[.agg #[.int .i64 t197, .int .i64 t198, .slice Ao45 t199.length co45, .slice Ao46 t202.length co46, .slice Ao47 t205.length co47], .agg #[.int .i64 t165, .int .i64 t166, .slice Ao8 t167.length co8, .slice Ao9 t170.length co9, .slice Ao10 t173.length co10]] ?_; (with_reducible refine (laws_eqDisk.calls kj3 t197 t198 _ _ t199 _ _ t202 _ _ t205 t165 t166 _ _ t167 _ _ t170 _ _ t173 true _ ?side1 ?side2 ?side3 ?side4 ?side5 ?side6 ?side7 ?side8 ?side9 ?side10 ?side11 ?side12 A48.out).mono ?_); (case side1 => refine (Kd.R_reads' (e := 89) (base := w.heap.size) (ok := fun k_ => ((True ∧ some k_ ≠ (.slice Ao8 t167.length co8 : Value).ownBlock) ∧ some k_ ≠ (.slice Ao15 t180.length co15 : Value).ownBlock)) (n := t199.length) (c := co45) ?_).2.2; exact (rpR (Kd.R_mono (Kd.R_far (p := ⟨gb209, 4, none⟩) (Kd.R_far (p := ⟨gb209, 3, none⟩) (Kd.R_far (p := ⟨gb209, 2, none⟩) (Kd.R_far (p := ⟨gb209, 1, none⟩) (Kd.R_far (p := ⟨gb209, 0, none⟩) (Kd.R_types HO201.out BK209.out (by decide)) (fun _ hk => hk.2) (.int .i64 t197)) (fun _ hk => hk.2) (.int .i64 t198)) (fun _ hk => hk.2) (.slice Ao45 t199.length co45)) (fun _ hk => hk.2) (.slice Ao46 t202.length co46)) (fun _ hk => hk.2) (.slice Ao47 t205.length co47)) (fun _ h_ => h_.1)))); (case side2 => exact (Kd.R_reads' HO201.out).2.1); (case side3 => refine (Kd.R_reads' (e := 93) (base := w.heap.size) (ok := fun k_ => ((True ∧ some k_ ≠ (.slice Ao9 t170.length co9 : Value).ownBlock) ∧ some k_ ≠ (.slice Ao16 t183.length co16 : Value).ownBlock)) (n := t202.length) (c := co46) ?_).2.2; exact (rpR (Kd.R_mono (Kd.R_far (p := ⟨gb209, 4, none⟩) (Kd.R_far (p := ⟨gb209, 3, none⟩) (Kd.R_far (p := ⟨gb209, 2, none⟩) (Kd.R_far (p := ⟨gb209, 1, none⟩) (Kd.R_far (p := ⟨gb209, 0, none⟩) (Kd.R_types HO204.out BK209.out (by decide)) (fun _ hk => hk.2) (.int .i64 t197)) (fun _ hk => hk.2) (.int .i64 t198)) (fun _ hk => hk.2) (.slice Ao45 t199.length co45)) (fun _ hk => hk.2) (.slice Ao46 t202.length co46)) (fun _ hk => hk.2) (.slice Ao47 t205.length co47)) (fun _ h_ => h_.1)))); (case side4 => exact (Kd.R_reads' HO204.out).2.1); (case side5 => refine (Kd.R_reads' (e := 95) (base := w.heap.size) (ok := fun k_ => ((True ∧ some k_ ≠ (.slice Ao10 t173.length co10 : Value).ownBlock) ∧ some k_ ≠ (.slice Ao17 t186.length co17 : Value).ownBlock)) (n := t205.length) (c := co47) ?_).2.2; exact (rpR (Kd.R_mono (Kd.R_far (p := ⟨gb209, 4, none⟩) (Kd.R_far (p := ⟨gb209, 3, none⟩) (Kd.R_far (p := ⟨gb209, 2, none⟩) (Kd.R_far (p := ⟨gb209, 1, none⟩) (Kd.R_far (p := ⟨gb209, 0, none⟩) (Kd.R_types HO207.out BK209.out (by decide)) (fun _ hk => hk.2) (.int .i64 t197)) (fun _ hk => hk.2) (.int .i64 t198)) (fun _ hk => hk.2) (.slice Ao45 t199.length co45)) (fun _ hk => hk.2) (.slice Ao46 t202.length co46)) (fun _ hk => hk.2) (.slice Ao47 t205.length co47)) (fun _ h_ => h_.1)))); (case side6 => exact (Kd.R_reads' HO207.out).2.1); (case side7 => refine (Kd.R_reads' (e := 89) (base := w.heap.size) (ok := fun k_ => (some k_ ≠ (.slice Ao15 t180.length co15 : Value).ownBlock ∧ some k_ ≠ (.slice Ao45 t199.length co45 : Value).ownBlock)) (n := t167.length) (c := co8) ?_).2.2; exact (rpR (Kd.R_mono (Kd.R_far (p := ⟨gb209, 4, none⟩) (Kd.R_far (p := ⟨gb209, 3, none⟩) (Kd.R_far (p := ⟨gb209, 2, none⟩) (Kd.R_far (p := ⟨gb209, 1, none⟩) (Kd.R_far (p := ⟨gb209, 0, none⟩) (Kd.R_types HO_178002.out BK209.out (by decide)) (fun _ hk => hk.2) (.int .i64 t197)) (fun _ hk => hk.2) (.int .i64 t198)) (fun _ hk => hk.2) (.slice Ao45 t199.length co45)) (fun _ hk => hk.2) (.slice Ao46 t202.length co46)) (fun _ hk => hk.2) (.slice Ao47 t205.length co47)) (fun _ h_ => h_.1)))); (case side8 => exact (Kd.R_reads' HO_178002.out).2.1); (case side9 => refine (Kd.R_reads' (e := 93) (base := w.heap.size) (ok := fun k_ => (some k_ ≠ (.slice Ao16 t183.length co16 : Value).ownBlock ∧ some k_ ≠ (.slice Ao46 t202.length co46 : Value).ownBlock)) (n := t170.length) (c := co9) ?_).2.2; exact (rpR (Kd.R_mono (Kd.R_far (p := ⟨gb209, 4, none⟩) (Kd.R_far (p := ⟨gb209, 3, none⟩) (Kd.R_far (p := ⟨gb209, 2, none⟩) (Kd.R_far (p := ⟨gb209, 1, none⟩) (Kd.R_far (p := ⟨gb209, 0, none⟩) (Kd.R_types HO_178003.out BK209.out (by decide)) (fun _ hk => hk.2) (.int .i64 t197)) (fun _ hk => hk.2) (.int .i64 t198)) (fun _ hk => hk.2) (.slice Ao45 t199.length co45)) (fun _ hk => hk.2) (.slice Ao46 t202.length co46)) (fun _ hk => hk.2) (.slice Ao47 t205.length co47)) (fun _ h_ => h_.1)))); (case side10 => exact (Kd.R_reads' HO_178003.out).2.1); (case side11 => refine (Kd.R_reads' (e := 95) (base := w.heap.size) (ok := fun k_ => (some k_ ≠ (.slice Ao17 t186.length co17 : Value).ownBlock ∧ some k_ ≠ (.slice Ao47 t205.length co47 : Value).ownBlock)) (n := t173.length) (c := co10) ?_).2.2; exact (rpR (Kd.R_mono (Kd.R_far (p := ⟨gb209, 4, none⟩) (Kd.R_far (p := ⟨gb209, 3, none⟩) (Kd.R_far (p := ⟨gb209, 2, none⟩) (Kd.R_far (p := ⟨gb209, 1, none⟩) (Kd.R_far (p := ⟨gb209, 0, none⟩) (Kd.R_types HO_178004.out BK209.out (by decide)) (fun _ hk => hk.2) (.int .i64 t197)) (fun _ hk => hk.2) (.int .i64 t198)) (fun _ hk => hk.2) (.slice Ao45 t199.length co45)) (fun _ hk => hk.2) (.slice Ao46 t202.length co46)) (fun _ hk => hk.2) (.slice Ao47 t205.length co47)) (fun _ h_ => h_.1)))); (case side12 => exact (Kd.R_reads' HO_178004.out).2.1); rintro e w55 ⟨rfl, hb⟩; refine ⟨_, rfl, ?_⟩; replace HO_178002 := Aside0.mk (Kd.R_below (rpR (Kd.R_mono (Kd.R_far (p := ⟨gb209, 4, none⟩) (Kd.R_far (p := ⟨gb209, 3, none⟩) (Kd.R_far (p := ⟨gb209, 2, none⟩) (Kd.R_far (p := ⟨gb209, 1, none⟩) (Kd.R_far (p := ⟨gb209, 0, none⟩) (Kd.R_types HO_178002.out BK209.out (by decide)) (fun _ hk => hk.2) (.int .i64 t197)) (fun _ hk => hk.2) (.int .i64 t198)) (fun _ hk => hk.2) (.slice Ao45 t199.length co45)) (fun _ hk => hk.2) (.slice Ao46 t202.length co46)) (fun _ hk => hk.2) (.slice Ao47 t205.length co47)) (fun _ h_ => h_.1))) hb); replace HO_178003 := Aside0.mk (Kd.R_below (rpR (Kd.R_mono (Kd.R_far (p := ⟨gb209, 4, none⟩) (Kd.R_far (p := ⟨gb209, 3, none⟩) (Kd.R_far (p := ⟨gb209, 2, none⟩) (Kd.R_far (p := ⟨gb209, 1, none⟩) (Kd.R_far (p := ⟨gb209, 0, none⟩) (Kd.R_types HO_178003.out BK209.out (by decide)) (fun _ hk => hk.2) (.int .i64 t197)) (fun _ hk => hk.2) (.int .i64 t198)) (fun _ hk => hk.2) (.slice Ao45 t199.length co45)) (fun _ hk => hk.2) (.slice Ao46 t202.length co46)) (fun _ hk => hk.2) (.slice Ao47 t205.length co47)) (fun _ h_ => h_.1))) hb); replace HO_178004 := Aside0.mk (Kd.R_below (rpR (Kd.R_mono (Kd.R_far (p := ⟨gb209, 4, none⟩) (Kd.R_far (p := ⟨gb209, 3, none⟩) (Kd.R_far (p := ⟨gb209, 2, none⟩) (Kd.R_far (p := ⟨gb209, 1, none⟩) (Kd.R_far (p := ⟨gb209, 0, none⟩) (Kd.R_types HO_178004.out BK209.out (by decide)) (fun _ hk => hk.2) (.int .i64 t197)) (fun _ hk => hk.2) (.int .i64 t198)) (fun _ hk => hk.2) (.slice Ao45 t199.length co45)) (fun _ hk => hk.2) (.slice Ao46 t202.length co46)) (fun _ hk => hk.2) (.slice Ao47 t205.length co47)) (fun _ h_ => h_.1))) hb); replace HO_191002 := Aside0.mk (Kd.R_below (rpR (Kd.R_mono (Kd.R_far (p := ⟨gb209, 4, none⟩) (Kd.R_far (p := ⟨gb209, 3, none⟩) (Kd.R_far (p := ⟨gb209, 2, none⟩) (Kd.R_far (p := ⟨gb209, 1, none⟩) (Kd.R_far (p := ⟨gb209, 0, none⟩) (Kd.R_types HO_191002.out BK209.out (by decide)) (fun _ hk => hk.2) (.int .i64 t197)) (fun _ hk => hk.2) (.int .i64 t198)) (fun _ hk => hk.2) (.slice Ao45 t199.length co45)) (fun _ hk => hk.2) (.slice Ao46 t202.length co46)) (fun _ hk => hk.2) (.slice Ao47 t205.length co47)) (fun _ h_ => h_.1))) hb); replace HO_191003 := Aside0.mk (Kd.R_below (rpR (Kd.R_mono (Kd.R_far (p := ⟨gb209, 4, none⟩) (Kd.R_far (p := ⟨gb209, 3, none⟩) (Kd.R_far (p := ⟨gb209, 2, none⟩) (Kd.R_far (p := ⟨gb209, 1, none⟩) (Kd.R_far (p := ⟨gb209, 0, none⟩) (Kd.R_types HO_191003.out BK209.out (by decide)) (fun _ hk => hk.2) (.int .i64 t197)) (fun _ hk => hk.2) (.int .i64 t198)) (fun _ hk => hk.2) (.slice Ao45 t199.length co45)) (fun _ hk => hk.2) (.slice Ao46 t202.length co46)) (fun _ hk => hk.2) (.slice Ao47 t205.length co47)) (fun _ h_ => h_.1))) hb); replace HO_191004 := Aside0.mk (Kd.R_below (rpR (Kd.R_mono (Kd.R_far (p := ⟨gb209, 4, none⟩) (Kd.R_far (p := ⟨gb209, 3, none⟩) (Kd.R_far (p := ⟨gb209, 2, none⟩) (Kd.R_far (p := ⟨gb209, 1, none⟩) (Kd.R_far (p := ⟨gb209, 0, none⟩) (Kd.R_types HO_191004.out BK209.out (by decide)) (fun _ hk => hk.2) (.int .i64 t197)) (fun _ hk => hk.2) (.int .i64 t198)) (fun _ hk => hk.2) (.slice Ao45 t199.length co45)) (fun _ hk => hk.2) (.slice Ao46 t202.length co46)) (fun _ hk => hk.2) (.slice Ao47 t205.length co47)) (fun _ h_ => h_.1))) hb); replace HO201 := Aside0.mk (Kd.R_below (rpR (Kd.R_mono (Kd.R_far (p := ⟨gb209, 4, none⟩) (Kd.R_far (p := ⟨gb209, 3, none⟩) (Kd.R_far (p := ⟨gb209, 2, none⟩) (Kd.R_far (p := ⟨gb209, 1, none⟩) (Kd.R_far (p := ⟨gb209, 0, none⟩) (Kd.R_types HO201.out BK209.out (by decide)) (fun _ hk => hk.2) (.int .i64 t197)) (fun _ hk => hk.2) (.int .i64 t198)) (fun _ hk => hk.2) (.slice Ao45 t199.length co45)) (fun _ hk => hk.2) (.slice Ao46 t202.length co46)) (fun _ hk => hk.2) (.slice Ao47 t205.length co47)) (fun _ h_ => h_.1))) hb); replace HO204 := Aside0.mk (Kd.R_below (rpR (Kd.R_mono (Kd.R_far (p := ⟨gb209, 4, none⟩) (Kd.R_far (p := ⟨gb209, 3, none⟩) (Kd.R_far (p := ⟨gb209, 2, none⟩) (Kd.R_far (p := ⟨gb209, 1, none⟩) (Kd.R_far (p := ⟨gb209, 0, none⟩) (Kd.R_types HO204.out BK209.out (by decide)) (fun _ hk => hk.2) (.int .i64 t197)) (fun _ hk => hk.2) (.int .i64 t198)) (fun _ hk => hk.2) (.slice Ao45 t199.length co45)) (fun _ hk => hk.2) (.slice Ao46 t202.length co46)) (fun _ hk => hk.2) (.slice Ao47 t205.length co47)) (fun _ h_ => h_.1))) hb); replace HO207 := Aside0.mk (Kd.R_below (rpR (Kd.R_mono (Kd.R_far (p := ⟨gb209, 4, none⟩) (Kd.R_far (p := ⟨gb209, 3, none⟩) (Kd.R_far (p := ⟨gb209, 2, none⟩) (Kd.R_far (p := ⟨gb209, 1, none⟩) (Kd.R_far (p := ⟨gb209, 0, none⟩) (Kd.R_types HO207.out BK209.out (by decide)) (fun _ hk => hk.2) (.int .i64 t197)) (fun _ hk => hk.2) (.int .i64 t198)) (fun _ hk => hk.2) (.slice Ao45 t199.length co45)) (fun _ hk => hk.2) (.slice Ao46 t202.length co46)) (fun _ hk => hk.2) (.slice Ao47 t205.length co47)) (fun _ h_ => h_.1))) hb); replace BK177 := Aside0.mk (blk_below (g := gb177) (o := .cells #[.int .i64 t165, .int .i64 t166, .slice Ao8 t167.length co8, .slice Ao9 t170.length co9, .slice Ao10 t173.length co10] 26 (0, 0)) bkk hb); replace BK190 := Aside0.mk (blk_below (g := gb190) (o := .cells #[.int .i64 t178, .int .i64 t179, .slice Ao15 t180.length co15, .slice Ao16 t183.length co16, .slice Ao17 t186.length co17] 26 (0, 0)) bkk hb); replace BK209 := Aside0.mk (blk_below (g := gb209) (o := .cells #[.int .i64 t197, .int .i64 t198, .slice Ao45 t199.length co45, .slice Ao46 t202.length co46, .slice Ao47 t205.length co47] 26 (0, 0)) bkk hb); replace HB := bs (w := w) hb; (try clear hb)))
        go_meet
        case rel => exact ⟨_, ((t208 != t176)), fa, H', ⟨by have := HJ3.out; first | omega | exact Nat.le_refl _⟩, ⟨rpR HO_178002.out⟩, ⟨rpR HO_178003.out⟩, ⟨rpR HO_178004.out⟩, ⟨rpR HO_191002.out⟩, ⟨rpR HO_191003.out⟩, ⟨rpR HO_191004.out⟩, ⟨rpR (Kd.R_mono HO201.out (fun _ hk => ⟨hk.1.2, hk.2⟩))⟩, ⟨rpR (Kd.R_mono HO204.out (fun _ hk => ⟨hk.1.2, hk.2⟩))⟩, ⟨rpR (Kd.R_mono HO207.out (fun _ hk => ⟨hk.1.2, hk.2⟩))⟩, ⟨by (with_reducible repeat (first | refine blk_drewN ?_ _ | refine blk_drew ?_ | refine blk_alloc ?_ _)); exact BK177.out⟩, ⟨by (with_reducible repeat (first | refine blk_drewN ?_ _ | refine blk_drew ?_ | refine blk_alloc ?_ _)); exact BK190.out⟩, ⟨by (with_reducible repeat (first | refine blk_drewN ?_ _ | refine blk_drew ?_ | refine blk_alloc ?_ _)); exact BK209.out⟩, ⟨bl⟩⟩
       ·replace c49 := Bool.eq_false_iff.mpr c49
        subst c49
        replace H := iF H
        have H' := Aside0.mk H
        clear H
        have hnb56 := NB209_177.out
        have hnc56 := NB177_209.out
        have hnb57 := NB209_190.out
        have hnc57 := NB190_209.out
        obtain ⟨Z58_0, Z58_1, Z58_2, Z58_3, Z58_4, Y58_0, Y58_1, Y58_2, Y58_3, Y58_4⟩ := cf5 BK209
        have hnb59 := NB177_190.out
        have hnc59 := NB190_177.out
        obtain ⟨Z60_0, Z60_1, Z60_2, Z60_3, Z60_4, Y60_0, Y60_1, Y60_2, Y60_3, Y60_4⟩ := cf5 BK177
        go_wp2_with (first | ((with_reducible refine gC 17 rfl ?_); refine goesZ (some 48) rfl Try.func17 #[.agg #[.int .i64 t197, .int .i64 t198, .slice Ao45 t199.length co45, .slice Ao46 t202.length co46, .slice Ao47 t205.length co47], .agg #[.int .i64 t165, .int .i64 t166, .slice Ao8 t167.length co8, .slice Ao9 t170.length co9, .slice Ao10 t173.length co10]] ?_; (with_reducible refine (laws_eqDisk.calls kj3 t197 t198 _ _ t199 _ _ t202 _ _ t205 t165 t166 _ _ t167 _ _ t170 _ _ t173 false _ ?side1 ?side2 ?side3 ?side4 ?side5 ?side6 ?side7 ?side8 ?side9 ?side10 ?side11 ?side12 A48.out).mono ?_); (case side1 => refine (Kd.R_reads' (e := 89) (base := w.heap.size) (ok := fun k_ => ((True ∧ some k_ ≠ (.slice Ao8 t167.length co8 : Value).ownBlock) ∧ some k_ ≠ (.slice Ao15 t180.length co15 : Value).ownBlock)) (n := t199.length) (c := co45) ?_).2.2; exact (rpR (Kd.R_mono (Kd.R_far (p := ⟨gb209, 4, none⟩) (Kd.R_far (p := ⟨gb209, 3, none⟩) (Kd.R_far (p := ⟨gb209, 2, none⟩) (Kd.R_far (p := ⟨gb209, 1, none⟩) (Kd.R_far (p := ⟨gb209, 0, none⟩) (Kd.R_types HO201.out BK209.out (by decide)) (fun _ hk => hk.2) (.int .i64 t197)) (fun _ hk => hk.2) (.int .i64 t198)) (fun _ hk => hk.2) (.slice Ao45 t199.length co45)) (fun _ hk => hk.2) (.slice Ao46 t202.length co46)) (fun _ hk => hk.2) (.slice Ao47 t205.length co47)) (fun _ h_ => h_.1)))); (case side2 => exact (Kd.R_reads' HO201.out).2.1); (case side3 => refine (Kd.R_reads' (e := 93) (base := w.heap.size) (ok := fun k_ => ((True ∧ some k_ ≠ (.slice Ao9 t170.length co9 : Value).ownBlock) ∧ some k_ ≠ (.slice Ao16 t183.length co16 : Value).ownBlock)) (n := t202.length) (c := co46) ?_).2.2; exact (rpR (Kd.R_mono (Kd.R_far (p := ⟨gb209, 4, none⟩) (Kd.R_far (p := ⟨gb209, 3, none⟩) (Kd.R_far (p := ⟨gb209, 2, none⟩) (Kd.R_far (p := ⟨gb209, 1, none⟩) (Kd.R_far (p := ⟨gb209, 0, none⟩) (Kd.R_types HO204.out BK209.out (by decide)) (fun _ hk => hk.2) (.int .i64 t197)) (fun _ hk => hk.2) (.int .i64 t198)) (fun _ hk => hk.2) (.slice Ao45 t199.length co45)) (fun _ hk => hk.2) (.slice Ao46 t202.length co46)) (fun _ hk => hk.2) (.slice Ao47 t205.length co47)) (fun _ h_ => h_.1)))); (case side4 => exact (Kd.R_reads' HO204.out).2.1); (case side5 => refine (Kd.R_reads' (e := 95) (base := w.heap.size) (ok := fun k_ => ((True ∧ some k_ ≠ (.slice Ao10 t173.length co10 : Value).ownBlock) ∧ some k_ ≠ (.slice Ao17 t186.length co17 : Value).ownBlock)) (n := t205.length) (c := co47) ?_).2.2; exact (rpR (Kd.R_mono (Kd.R_far (p := ⟨gb209, 4, none⟩) (Kd.R_far (p := ⟨gb209, 3, none⟩) (Kd.R_far (p := ⟨gb209, 2, none⟩) (Kd.R_far (p := ⟨gb209, 1, none⟩) (Kd.R_far (p := ⟨gb209, 0, none⟩) (Kd.R_types HO207.out BK209.out (by decide)) (fun _ hk => hk.2) (.int .i64 t197)) (fun _ hk => hk.2) (.int .i64 t198)) (fun _ hk => hk.2) (.slice Ao45 t199.length co45)) (fun _ hk => hk.2) (.slice Ao46 t202.length co46)) (fun _ hk => hk.2) (.slice Ao47 t205.length co47)) (fun _ h_ => h_.1)))); (case side6 => exact (Kd.R_reads' HO207.out).2.1); (case side7 => refine (Kd.R_reads' (e := 89) (base := w.heap.size) (ok := fun k_ => (some k_ ≠ (.slice Ao15 t180.length co15 : Value).ownBlock ∧ some k_ ≠ (.slice Ao45 t199.length co45 : Value).ownBlock)) (n := t167.length) (c := co8) ?_).2.2; exact (rpR (Kd.R_mono (Kd.R_far (p := ⟨gb209, 4, none⟩) (Kd.R_far (p := ⟨gb209, 3, none⟩) (Kd.R_far (p := ⟨gb209, 2, none⟩) (Kd.R_far (p := ⟨gb209, 1, none⟩) (Kd.R_far (p := ⟨gb209, 0, none⟩) (Kd.R_types HO_178002.out BK209.out (by decide)) (fun _ hk => hk.2) (.int .i64 t197)) (fun _ hk => hk.2) (.int .i64 t198)) (fun _ hk => hk.2) (.slice Ao45 t199.length co45)) (fun _ hk => hk.2) (.slice Ao46 t202.length co46)) (fun _ hk => hk.2) (.slice Ao47 t205.length co47)) (fun _ h_ => h_.1)))); (case side8 => exact (Kd.R_reads' HO_178002.out).2.1); (case side9 => refine (Kd.R_reads' (e := 93) (base := w.heap.size) (ok := fun k_ => (some k_ ≠ (.slice Ao16 t183.length co16 : Value).ownBlock ∧ some k_ ≠ (.slice Ao46 t202.length co46 : Value).ownBlock)) (n := t170.length) (c := co9) ?_).2.2; exact (rpR (Kd.R_mono (Kd.R_far (p := ⟨gb209, 4, none⟩) (Kd.R_far (p := ⟨gb209, 3, none⟩) (Kd.R_far (p := ⟨gb209, 2, none⟩) (Kd.R_far (p := ⟨gb209, 1, none⟩) (Kd.R_far (p := ⟨gb209, 0, none⟩) (Kd.R_types HO_178003.out BK209.out (by decide)) (fun _ hk => hk.2) (.int .i64 t197)) (fun _ hk => hk.2) (.int .i64 t198)) (fun _ hk => hk.2) (.slice Ao45 t199.length co45)) (fun _ hk => hk.2) (.slice Ao46 t202.length co46)) (fun _ hk => hk.2) (.slice Ao47 t205.length co47)) (fun _ h_ => h_.1)))); (case side10 => exact (Kd.R_reads' HO_178003.out).2.1); (case side11 => refine (Kd.R_reads' (e := 95) (base := w.heap.size) (ok := fun k_ => (some k_ ≠ (.slice Ao17 t186.length co17 : Value).ownBlock ∧ some k_ ≠ (.slice Ao47 t205.length co47 : Value).ownBlock)) (n := t173.length) (c := co10) ?_).2.2; exact (rpR (Kd.R_mono (Kd.R_far (p := ⟨gb209, 4, none⟩) (Kd.R_far (p := ⟨gb209, 3, none⟩) (Kd.R_far (p := ⟨gb209, 2, none⟩) (Kd.R_far (p := ⟨gb209, 1, none⟩) (Kd.R_far (p := ⟨gb209, 0, none⟩) (Kd.R_types HO_178004.out BK209.out (by decide)) (fun _ hk => hk.2) (.int .i64 t197)) (fun _ hk => hk.2) (.int .i64 t198)) (fun _ hk => hk.2) (.slice Ao45 t199.length co45)) (fun _ hk => hk.2) (.slice Ao46 t202.length co46)) (fun _ hk => hk.2) (.slice Ao47 t205.length co47)) (fun _ h_ => h_.1)))); (case side12 => exact (Kd.R_reads' HO_178004.out).2.1); rintro e w61 ⟨rfl, hb⟩; refine ⟨_, rfl, ?_⟩; replace HO_178002 := Aside0.mk (Kd.R_below (rpR (Kd.R_mono (Kd.R_far (p := ⟨gb209, 4, none⟩) (Kd.R_far (p := ⟨gb209, 3, none⟩) (Kd.R_far (p := ⟨gb209, 2, none⟩) (Kd.R_far (p := ⟨gb209, 1, none⟩) (Kd.R_far (p := ⟨gb209, 0, none⟩) (Kd.R_types HO_178002.out BK209.out (by decide)) (fun _ hk => hk.2) (.int .i64 t197)) (fun _ hk => hk.2) (.int .i64 t198)) (fun _ hk => hk.2) (.slice Ao45 t199.length co45)) (fun _ hk => hk.2) (.slice Ao46 t202.length co46)) (fun _ hk => hk.2) (.slice Ao47 t205.length co47)) (fun _ h_ => h_.1))) hb); replace HO_178003 := Aside0.mk (Kd.R_below (rpR (Kd.R_mono (Kd.R_far (p := ⟨gb209, 4, none⟩) (Kd.R_far (p := ⟨gb209, 3, none⟩) (Kd.R_far (p := ⟨gb209, 2, none⟩) (Kd.R_far (p := ⟨gb209, 1, none⟩) (Kd.R_far (p := ⟨gb209, 0, none⟩) (Kd.R_types HO_178003.out BK209.out (by decide)) (fun _ hk => hk.2) (.int .i64 t197)) (fun _ hk => hk.2) (.int .i64 t198)) (fun _ hk => hk.2) (.slice Ao45 t199.length co45)) (fun _ hk => hk.2) (.slice Ao46 t202.length co46)) (fun _ hk => hk.2) (.slice Ao47 t205.length co47)) (fun _ h_ => h_.1))) hb); replace HO_178004 := Aside0.mk (Kd.R_below (rpR (Kd.R_mono (Kd.R_far (p := ⟨gb209, 4, none⟩) (Kd.R_far (p := ⟨gb209, 3, none⟩) (Kd.R_far (p := ⟨gb209, 2, none⟩) (Kd.R_far (p := ⟨gb209, 1, none⟩) (Kd.R_far (p := ⟨gb209, 0, none⟩) (Kd.R_types HO_178004.out BK209.out (by decide)) (fun _ hk => hk.2) (.int .i64 t197)) (fun _ hk => hk.2) (.int .i64 t198)) (fun _ hk => hk.2) (.slice Ao45 t199.length co45)) (fun _ hk => hk.2) (.slice Ao46 t202.length co46)) (fun _ hk => hk.2) (.slice Ao47 t205.length co47)) (fun _ h_ => h_.1))) hb); replace HO_191002 := Aside0.mk (Kd.R_below (rpR (Kd.R_mono (Kd.R_far (p := ⟨gb209, 4, none⟩) (Kd.R_far (p := ⟨gb209, 3, none⟩) (Kd.R_far (p := ⟨gb209, 2, none⟩) (Kd.R_far (p := ⟨gb209, 1, none⟩) (Kd.R_far (p := ⟨gb209, 0, none⟩) (Kd.R_types HO_191002.out BK209.out (by decide)) (fun _ hk => hk.2) (.int .i64 t197)) (fun _ hk => hk.2) (.int .i64 t198)) (fun _ hk => hk.2) (.slice Ao45 t199.length co45)) (fun _ hk => hk.2) (.slice Ao46 t202.length co46)) (fun _ hk => hk.2) (.slice Ao47 t205.length co47)) (fun _ h_ => h_.1))) hb); replace HO_191003 := Aside0.mk (Kd.R_below (rpR (Kd.R_mono (Kd.R_far (p := ⟨gb209, 4, none⟩) (Kd.R_far (p := ⟨gb209, 3, none⟩) (Kd.R_far (p := ⟨gb209, 2, none⟩) (Kd.R_far (p := ⟨gb209, 1, none⟩) (Kd.R_far (p := ⟨gb209, 0, none⟩) (Kd.R_types HO_191003.out BK209.out (by decide)) (fun _ hk => hk.2) (.int .i64 t197)) (fun _ hk => hk.2) (.int .i64 t198)) (fun _ hk => hk.2) (.slice Ao45 t199.length co45)) (fun _ hk => hk.2) (.slice Ao46 t202.length co46)) (fun _ hk => hk.2) (.slice Ao47 t205.length co47)) (fun _ h_ => h_.1))) hb); replace HO_191004 := Aside0.mk (Kd.R_below (rpR (Kd.R_mono (Kd.R_far (p := ⟨gb209, 4, none⟩) (Kd.R_far (p := ⟨gb209, 3, none⟩) (Kd.R_far (p := ⟨gb209, 2, none⟩) (Kd.R_far (p := ⟨gb209, 1, none⟩) (Kd.R_far (p := ⟨gb209, 0, none⟩) (Kd.R_types HO_191004.out BK209.out (by decide)) (fun _ hk => hk.2) (.int .i64 t197)) (fun _ hk => hk.2) (.int .i64 t198)) (fun _ hk => hk.2) (.slice Ao45 t199.length co45)) (fun _ hk => hk.2) (.slice Ao46 t202.length co46)) (fun _ hk => hk.2) (.slice Ao47 t205.length co47)) (fun _ h_ => h_.1))) hb); replace HO201 := Aside0.mk (Kd.R_below (rpR (Kd.R_mono (Kd.R_far (p := ⟨gb209, 4, none⟩) (Kd.R_far (p := ⟨gb209, 3, none⟩) (Kd.R_far (p := ⟨gb209, 2, none⟩) (Kd.R_far (p := ⟨gb209, 1, none⟩) (Kd.R_far (p := ⟨gb209, 0, none⟩) (Kd.R_types HO201.out BK209.out (by decide)) (fun _ hk => hk.2) (.int .i64 t197)) (fun _ hk => hk.2) (.int .i64 t198)) (fun _ hk => hk.2) (.slice Ao45 t199.length co45)) (fun _ hk => hk.2) (.slice Ao46 t202.length co46)) (fun _ hk => hk.2) (.slice Ao47 t205.length co47)) (fun _ h_ => h_.1))) hb); replace HO204 := Aside0.mk (Kd.R_below (rpR (Kd.R_mono (Kd.R_far (p := ⟨gb209, 4, none⟩) (Kd.R_far (p := ⟨gb209, 3, none⟩) (Kd.R_far (p := ⟨gb209, 2, none⟩) (Kd.R_far (p := ⟨gb209, 1, none⟩) (Kd.R_far (p := ⟨gb209, 0, none⟩) (Kd.R_types HO204.out BK209.out (by decide)) (fun _ hk => hk.2) (.int .i64 t197)) (fun _ hk => hk.2) (.int .i64 t198)) (fun _ hk => hk.2) (.slice Ao45 t199.length co45)) (fun _ hk => hk.2) (.slice Ao46 t202.length co46)) (fun _ hk => hk.2) (.slice Ao47 t205.length co47)) (fun _ h_ => h_.1))) hb); replace HO207 := Aside0.mk (Kd.R_below (rpR (Kd.R_mono (Kd.R_far (p := ⟨gb209, 4, none⟩) (Kd.R_far (p := ⟨gb209, 3, none⟩) (Kd.R_far (p := ⟨gb209, 2, none⟩) (Kd.R_far (p := ⟨gb209, 1, none⟩) (Kd.R_far (p := ⟨gb209, 0, none⟩) (Kd.R_types HO207.out BK209.out (by decide)) (fun _ hk => hk.2) (.int .i64 t197)) (fun _ hk => hk.2) (.int .i64 t198)) (fun _ hk => hk.2) (.slice Ao45 t199.length co45)) (fun _ hk => hk.2) (.slice Ao46 t202.length co46)) (fun _ hk => hk.2) (.slice Ao47 t205.length co47)) (fun _ h_ => h_.1))) hb); replace BK177 := Aside0.mk (blk_below (g := gb177) (o := .cells #[.int .i64 t165, .int .i64 t166, .slice Ao8 t167.length co8, .slice Ao9 t170.length co9, .slice Ao10 t173.length co10] 26 (0, 0)) bkk hb); replace BK190 := Aside0.mk (blk_below (g := gb190) (o := .cells #[.int .i64 t178, .int .i64 t179, .slice Ao15 t180.length co15, .slice Ao16 t183.length co16, .slice Ao17 t186.length co17] 26 (0, 0)) bkk hb); replace BK209 := Aside0.mk (blk_below (g := gb209) (o := .cells #[.int .i64 t197, .int .i64 t198, .slice Ao45 t199.length co45, .slice Ao46 t202.length co46, .slice Ao47 t205.length co47] 26 (0, 0)) bkk hb); replace HB := bs (w := w) hb; (try clear hb)))
        go_meet
        case rel => exact ⟨_, (true), fa, H', ⟨by have := HJ3.out; first | omega | exact Nat.le_refl _⟩, ⟨rpR HO_178002.out⟩, ⟨rpR HO_178003.out⟩, ⟨rpR HO_178004.out⟩, ⟨rpR HO_191002.out⟩, ⟨rpR HO_191003.out⟩, ⟨rpR HO_191004.out⟩, ⟨rpR (Kd.R_mono HO201.out (fun _ hk => ⟨hk.1.2, hk.2⟩))⟩, ⟨rpR (Kd.R_mono HO204.out (fun _ hk => ⟨hk.1.2, hk.2⟩))⟩, ⟨rpR (Kd.R_mono HO207.out (fun _ hk => ⟨hk.1.2, hk.2⟩))⟩, ⟨by (with_reducible repeat (first | refine blk_drewN ?_ _ | refine blk_drew ?_ | refine blk_alloc ?_ _)); exact BK177.out⟩, ⟨by (with_reducible repeat (first | refine blk_drewN ?_ _ | refine blk_drew ?_ | refine blk_alloc ?_ _)); exact BK190.out⟩, ⟨by (with_reducible repeat (first | refine blk_drewN ?_ _ | refine blk_drew ?_ | refine blk_alloc ?_ _)); exact BK209.out⟩, ⟨bl⟩⟩
      case rest =>
       clear HC34
       try clear c1
       try clear c2
       try clear p2
       try clear c3
       try clear c4
       try clear c5
       try clear c13
       try clear c15
       try clear c16
       try clear c17
       try clear c18
       try clear c19
       try clear c20
       try clear c24
       try clear c28
       try clear c31
       try clear c31b0
       try clear c32
       try clear c32b0
       try clear c32b1
       try clear c35
       try clear c42
       try clear c43
       try clear c49
       try clear c50
       try clear c51
       try clear c53
       try clear c56
       try clear c57
       try clear c59
       try clear Z14_0 Z14_1 Z14_2 Z14_3 Z14_4
       try clear Z21_0 Z21_1 Z21_2 Z21_3 Z21_4
       try clear Z22_0 Z22_1 Z22_2 Z22_3 Z22_4
       try clear Z25_0 Z25_1 Z25_2 Z25_3 Z25_4
       try clear Z26_0 Z26_1 Z26_2 Z26_3 Z26_4
       try clear Z36_0 Z36_1 Z36_2 Z36_3 Z36_4
       try clear Z38_0 Z38_1 Z38_2 Z38_3 Z38_4
       try clear Z44_0 Z44_1 Z44_2 Z44_3 Z44_4
       try clear Z52_0 Z52_1 Z52_2 Z52_3 Z52_4
       try clear Z54_0 Z54_1 Z54_2 Z54_3 Z54_4
       try clear Z58_0 Z58_1 Z58_2 Z58_3 Z58_4
       try clear Z60_0 Z60_1 Z60_2 Z60_3 Z60_4
       try clear Z7_0 Z7_1 Z7_2 Z7_3 Z7_4
       try clear Y14_0 Y14_1 Y14_2 Y14_3 Y14_4
       try clear Y21_0 Y21_1 Y21_2 Y21_3 Y21_4
       try clear Y22_0 Y22_1 Y22_2 Y22_3 Y22_4
       try clear Y25_0 Y25_1 Y25_2 Y25_3 Y25_4
       try clear Y26_0 Y26_1 Y26_2 Y26_3 Y26_4
       try clear Y36_0 Y36_1 Y36_2 Y36_3 Y36_4
       try clear Y38_0 Y38_1 Y38_2 Y38_3 Y38_4
       try clear Y44_0 Y44_1 Y44_2 Y44_3 Y44_4
       try clear Y52_0 Y52_1 Y52_2 Y52_3 Y52_4
       try clear Y54_0 Y54_1 Y54_2 Y54_3 Y54_4
       try clear Y58_0 Y58_1 Y58_2 Y58_3 Y58_4
       try clear Y60_0 Y60_1 Y60_2 Y60_3 Y60_4
       try clear Y7_0 Y7_1 Y7_2 Y7_3 Y7_4
       try clear p2
       obtain ⟨kq, x54_33, rfl, HA, HJ33, HO_178002, HO_178003, HO_178004, HO_191002, HO_191003, HO_191004, HO_210002, HO_210003, HO_210004, BK177, BK190, BK209, HB⟩ := hcut
       have hl191002_33 := (Kd.R_reads' HO_191002.out).1
       rw [hl191002_33] at HO_191002
       (try simp only [hl191002_33])
       (try simp only [hl191002_33] at BK177)
       (try simp only [hl191002_33] at BK190)
       (try simp only [hl191002_33] at BK209)
       (try simp only [hl191002_33] at HO_178002)
       (try simp only [hl191002_33] at HO_178003)
       (try simp only [hl191002_33] at HO_178004)
       (try simp only [hl191002_33] at HO_191003)
       (try simp only [hl191002_33] at HO_191004)
       (try simp only [hl191002_33] at HO_210002)
       (try simp only [hl191002_33] at HO_210003)
       (try simp only [hl191002_33] at HO_210004)
       have hl191003_33 := (Kd.R_reads' HO_191003.out).1
       rw [hl191003_33] at HO_191003
       (try simp only [hl191003_33])
       (try simp only [hl191003_33] at BK177)
       (try simp only [hl191003_33] at BK190)
       (try simp only [hl191003_33] at BK209)
       (try simp only [hl191003_33] at HO_178002)
       (try simp only [hl191003_33] at HO_178003)
       (try simp only [hl191003_33] at HO_178004)
       (try simp only [hl191003_33] at HO_191002)
       (try simp only [hl191003_33] at HO_191004)
       (try simp only [hl191003_33] at HO_210002)
       (try simp only [hl191003_33] at HO_210003)
       (try simp only [hl191003_33] at HO_210004)
       have hl191004_33 := (Kd.R_reads' HO_191004.out).1
       rw [hl191004_33] at HO_191004
       (try simp only [hl191004_33])
       (try simp only [hl191004_33] at BK177)
       (try simp only [hl191004_33] at BK190)
       (try simp only [hl191004_33] at BK209)
       (try simp only [hl191004_33] at HO_178002)
       (try simp only [hl191004_33] at HO_178003)
       (try simp only [hl191004_33] at HO_178004)
       (try simp only [hl191004_33] at HO_191002)
       (try simp only [hl191004_33] at HO_191003)
       (try simp only [hl191004_33] at HO_210002)
       (try simp only [hl191004_33] at HO_210003)
       (try simp only [hl191004_33] at HO_210004)
       cases kq with
       | zero => exact absurd HA.out (by simp [laws_FnExactNewDisk.j1])
       | succ kj33 =>
        have H := HA.out
        clear HA
        simp only [laws_FnExactNewDisk.j1] at H
        by_cases c62 : x54_33 = true
        ·subst c62
         replace H := iT H
         exact absurd ((Option.some.inj H).trans hr_) (by decide)
        ·replace c62 := Bool.eq_false_iff.mpr c62
         subst c62
         replace H := iF H
         obtain ⟨t211, A63, H⟩ := bd H
         by_cases c64 : t211 < 0
         ·rw [if_pos c64] at H
          have c64b0 : decide (t211 < 0) = true := decide_eq_true c64
          clear c64
          exact absurd ((Option.some.inj H).trans hr_) (by decide)
         ·rw [if_neg c64] at H
          have c64b0 : decide (t211 < 0) = false := decide_eq_false c64
          clear c64
          by_cases c65 : t211 = t192
          ·rw [if_pos c65] at H
           have c65b0 : (t211 == t192) = true := beq_iff_eq.mpr c65
           have c65b1 : (t211 != t192) = false := bne_eq_false_iff_eq.mpr c65
           clear c65
           obtain rfl := Option.some.inj H
           have hnb66 := NB190_177.out
           have hnc66 := NB177_190.out
           have hnb67 := NB190_209.out
           have hnc67 := NB209_190.out
           obtain ⟨Z68_0, Z68_1, Z68_2, Z68_3, Z68_4, Y68_0, Y68_1, Y68_2, Y68_3, Y68_4⟩ := cf5 BK190
           go_wp2_with (first | ((with_reducible refine gC 19 rfl ?_); refine goesZ (some 57) rfl Try.func19 #[.agg #[.int .i64 t178, .int .i64 t179, .slice Ao15 t193.length co15, .slice Ao16 t194.length co16, .slice Ao17 t195.length co17], .int .i64 1] ?_; (with_reducible refine (laws_heldDisk.calls kj33 t178 t179 _ _ t193 _ _ t194 _ _ t195 1 t211 _ ?side1 ?side2 ?side3 ?side4 ?side5 ?side6 A63.out).mono ?_); (case side1 => exact ca ((Kd.R_reads' HO_191002.out).2.2)); (case side2 => exact (Kd.R_reads' HO_191002.out).2.1); (case side3 => exact ca ((Kd.R_reads' HO_191003.out).2.2)); (case side4 => exact (Kd.R_reads' HO_191003.out).2.1); (case side5 => exact ca ((Kd.R_reads' HO_191004.out).2.2)); (case side6 => exact (Kd.R_reads' HO_191004.out).2.1); rintro e w69 ⟨rfl, hb⟩; refine ⟨_, rfl, ?_⟩; replace HO_178002 := Aside0.mk (Kd.R_below (rpR HO_178002.out) hb); replace HO_178003 := Aside0.mk (Kd.R_below (rpR HO_178003.out) hb); replace HO_178004 := Aside0.mk (Kd.R_below (rpR HO_178004.out) hb); replace HO_191002 := Aside0.mk (Kd.R_below (rpR HO_191002.out) hb); replace HO_191003 := Aside0.mk (Kd.R_below (rpR HO_191003.out) hb); replace HO_191004 := Aside0.mk (Kd.R_below (rpR HO_191004.out) hb); replace HO_210002 := Aside0.mk (Kd.R_below (rpR HO_210002.out) hb); replace HO_210003 := Aside0.mk (Kd.R_below (rpR HO_210003.out) hb); replace HO_210004 := Aside0.mk (Kd.R_below (rpR HO_210004.out) hb); replace BK177 := bv BK177 hb; replace BK190 := bv BK190 hb; replace BK209 := bv BK209 hb; replace HB := bs (w := w) hb; (try clear hb)))
           go_ret
           exact ⟨fe, bl⟩
          ·rw [if_neg c65] at H
           have c65b0 : (t211 == t192) = false := beq_eq_false_iff_ne.mpr c65
           have c65b1 : (t211 != t192) = true := bne_iff_ne.mpr c65
           exact absurd ((Option.some.inj H).trans hr_) (by decide)
     ·rw [if_neg c32] at H
      have c32b0 : (t196 == t192) = false := beq_eq_false_iff_ne.mpr c32
      have c32b1 : (t196 != t192) = true := bne_iff_ne.mpr c32
      exact absurd ((Option.some.inj H).trans hr_) (by decide)

/-- THE ONE PURE STATEMENT of laws_FnExactNewDisk: yours. -/
def laws_FnExactNewDisk.Pure : Prop := ∀ (a0 : Int), (Lit.int .i64 a0).wf = true → ∃ k, laws_FnExactNewDisk.f k a0 = some true
theorem laws_FnExactNewDisk.walk (P : laws_FnExactNewDisk.Pure) (a0 : Int) (w : World) (w0 : (Lit.int .i64 a0).wf = true) :
 Calls Try.prog 3 #[.int .i64 a0] w fun e w' => e = .returned (.bool true) ∧ Below w.heap.size w w' := by
 obtain ⟨k, h⟩ := P a0 w0
 refine (laws_FnExactNewDisk.calls k a0 true w h rfl).mono ?_
 rintro e w' ⟨rfl, hd⟩
 exact ⟨rfl, hd⟩

end Go.Proofs.Ytjcmcamijaelbaa.PFnExactNewDisk
