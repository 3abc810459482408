/- Functions of the program, each with its contract, written by a program out of the translation. -/
import Derived.Test.YtjcmcamijaelbaaPDiskx0
import Derived.Test.YtjcmcamijaelbaaPDiskx2
import Derived.Test.YtjcmcamijaelbaaPDiskx6
import Derived.Test.YtjcmcamijaelbaaPDiskx14
import Derived.Test.YtjcmcamijaelbaaPDiskx15
import Derived.Test.YtjcmcamijaelbaaZip
namespace Go.Proofs.Ytjcmcamijaelbaa.PFnExactLoad
open Go.RowKit Go.Proofs.YtjcmcamijaelbaaW.PrintWords Go.Proofs.YtjcmcamijaelbaaW.PrintLast Go.Proofs.YtjcmcamijaelbaaW.PrintMore Go.Proofs.Ytjcmcamijaelbaa.PDisk Go.Proofs.Ytjcmcamijaelbaa.Zip
attribute [local go_sem] max2_int min2_int max_two min_two max_three min_three max_four min_four   -- for this text's walks alone
set_option linter.unusedVariables false
set_option linter.unusedSimpArgs false
/-! ### laws_FnExactLoad: function 6 -/
def laws_FnExactLoad.j0 : Nat → Bool → Int → Int → List (S134) → List (S136) → List (S138) → Int → Int → List (S89) → List (S93) → List (S95) → Option (Bool)
 | 0, _, _, _, _, _, _, _, _, _, _, _ => none
 | k + 1, x41, x407000, x407001, x407002, x407003, x407004, x433000, x433001, x433002, x433003, x433004 => if x41 = true then (some false) else ((laws_toDisk.f k x407000 x407001 x407002 x407003 x407004).bind fun bt435 => ((laws_eqDisk.f k x433000 x433001 x433002 x433003 x433004 bt435.1 bt435.2.1 bt435.2.2.1 bt435.2.2.2.1 bt435.2.2.2.2).bind fun t446 => (if t446 = true then (some true) else (some false))))
def laws_FnExactLoad.f (k : Nat) (a0_0 : Int) (a0_1 : Int) (l0_2 : List (S134)) (l0_3 : List (S136)) (l0_4 : List (S138)) (a1 : ByteArray) : Option (Bool) := if (a1.size : Int) > 1048576 then (some true) else ((laws_szDisk.f k a0_0 a0_1 l0_2 l0_3 l0_4 1048576).bind fun t407 => (if t407 < 0 then (some true) else ((laws_toDisk.f k a0_0 a0_1 l0_2 l0_3 l0_4).bind fun bt408 => ((spec_Load.f k bt408.1 bt408.2.1 bt408.2.2.1 bt408.2.2.2.1 bt408.2.2.2.2 a1).bind fun bt419 => ((laws_toDisk.f k a0_0 a0_1 l0_2 l0_3 l0_4).bind fun bt421 => ((impl_Load.f k bt421.1 bt421.2.1 bt421.2.2.1 bt421.2.2.2.1 bt421.2.2.2.2 a1).bind fun bt433 => (if bt433.1.toList = bt419.1.toList then (laws_FnExactLoad.j0 k (bt433.2 != bt419.2) a0_0 a0_1 l0_2 l0_3 l0_4 bt421.1 bt421.2.1 bt421.2.2.1 bt421.2.2.2.1 bt421.2.2.2.2) else (laws_FnExactLoad.j0 k true a0_0 a0_1 l0_2 l0_3 l0_4 bt421.1 bt421.2.1 bt421.2.2.1 bt421.2.2.2.1 bt421.2.2.2.2))))))))
theorem laws_FnExactLoad.mono_l : ∀ k, (∀ y0 y1 y2 y3 y4 y5 y6 y7 y8 y9 y10, LeO (laws_FnExactLoad.j0 k y0 y1 y2 y3 y4 y5 y6 y7 y8 y9 y10) (laws_FnExactLoad.j0 (k + 1) y0 y1 y2 y3 y4 y5 y6 y7 y8 y9 y10))
 | 0 => fun _ _ _ _ _ _ _ _ _ _ _ r h => by simp [laws_FnExactLoad.j0] at h
 | k + 1 => by
  have ih0 := laws_FnExactLoad.mono_l k
  ·intro y0 y1 y2 y3 y4 y5 y6 y7 y8 y9 y10
   unfold laws_FnExactLoad.j0
   repeat' first
   | (with_reducible exact ih0 _ _ _ _ _ _ _ _ _ _ _)
   | (with_reducible exact impl_Load.mono _ _ _ _ _ _ _)
   | (with_reducible exact laws_eqDisk.mono _ _ _ _ _ _ _ _ _ _ _)
   | (with_reducible exact laws_szDisk.mono _ _ _ _ _ _ _)
   | (with_reducible exact laws_toDisk.mono _ _ _ _ _ _)
   | (with_reducible exact spec_Load.mono _ _ _ _ _ _ _)
   | (with_reducible exact LeO.refl _)
   | (with_reducible exact LeO.none _)
   | (with_reducible refine LeO.ite ?_ ?_)
   | (with_reducible refine LeO.bind ?_ (fun _ => ?_))
   | exact ih0 _ _ _ _ _ _ _ _ _ _ _
   | exact impl_Load.mono _ _ _ _ _ _ _
   | exact laws_eqDisk.mono _ _ _ _ _ _ _ _ _ _ _
   | exact laws_szDisk.mono _ _ _ _ _ _ _
   | exact laws_toDisk.mono _ _ _ _ _ _
   | exact spec_Load.mono _ _ _ _ _ _ _
   | exact LeO.none _
   | refine LeO.ite ?_ ?_
   | refine LeO.bind ?_ (fun _ => ?_)
theorem laws_FnExactLoad.mono : ∀ a0 a1 a2 a3 a4 a5 k, LeO (laws_FnExactLoad.f k a0 a1 a2 a3 a4 a5) (laws_FnExactLoad.f (k + 1) a0 a1 a2 a3 a4 a5) := by
 intro a0 a1 a2 a3 a4 a5 k
 have ih0 := laws_FnExactLoad.mono_l k
 unfold laws_FnExactLoad.f
 repeat' first
  | (with_reducible exact ih0 _ _ _ _ _ _ _ _ _ _ _)
  | (with_reducible exact impl_Load.mono _ _ _ _ _ _ _)
  | (with_reducible exact laws_eqDisk.mono _ _ _ _ _ _ _ _ _ _ _)
  | (with_reducible exact laws_szDisk.mono _ _ _ _ _ _ _)
  | (with_reducible exact laws_toDisk.mono _ _ _ _ _ _)
  | (with_reducible exact spec_Load.mono _ _ _ _ _ _ _)
  | (with_reducible exact LeO.refl _)
  | (with_reducible exact LeO.none _)
  | (with_reducible refine LeO.ite ?_ ?_)
  | (with_reducible refine LeO.bind ?_ (fun _ => ?_))
  | exact ih0 _ _ _ _ _ _ _ _ _ _ _
  | exact impl_Load.mono _ _ _ _ _ _ _
  | exact laws_eqDisk.mono _ _ _ _ _ _ _ _ _ _ _
  | exact laws_szDisk.mono _ _ _ _ _ _ _
  | exact laws_toDisk.mono _ _ _ _ _ _
  | exact spec_Load.mono _ _ _ _ _ _ _
  | exact LeO.none _
  | refine LeO.ite ?_ ?_
  | refine LeO.bind ?_ (fun _ => ?_)
set_option maxHeartbeats 8000000 in
set_option maxRecDepth 100000 in
theorem laws_FnExactLoad.calls (k : Nat) (a0_0 : Int) (a0_1 : Int) (A0_2 : Option Addr) (c0_2 : Nat) (l0_2 : List (S134)) (A0_3 : Option Addr) (c0_3 : Nat) (l0_3 : List (S136)) (A0_4 : Option Addr) (c0_4 : Nat) (l0_4 : List (S138)) (a1 : ByteArray) (r : Bool) (w : World) (hr0_2 : Kd.C k134 w A0_2 l0_2.length l0_2) (hc0_2 : l0_2.length ≤ c0_2) (hr0_3 : Kd.C k136 w A0_3 l0_3.length l0_3) (hc0_3 : l0_3.length ≤ c0_3) (hr0_4 : Kd.C k138 w A0_4 l0_4.length l0_4) (hc0_4 : l0_4.length ≤ c0_4) (h : laws_FnExactLoad.f k a0_0 a0_1 l0_2 l0_3 l0_4 a1 = some r) (hr_ : r = true) :
 Calls Try.prog 6 #[.agg #[.int .i64 a0_0, .int .i64 a0_1, .slice A0_2 l0_2.length c0_2, .slice A0_3 l0_3.length c0_3, .slice A0_4 l0_4.length c0_4], .string a1] w fun e w' => e = .returned (.bool r) ∧ Below w.heap.size w w' := by
 have hu44 := Try.underlying44
 have hu26 := Try.underlying26
 have HR0_2 := Aside0.mk hr0_2
 have HC0_2 := Aside0.mk hc0_2
 clear hr0_2 hc0_2
 have HR0_3 := Aside0.mk hr0_3
 have HC0_3 := Aside0.mk hc0_3
 clear hr0_3 hc0_3
 have HR0_4 := Aside0.mk hr0_4
 have HC0_4 := Aside0.mk hc0_4
 clear hr0_4 hc0_4
 have HB := Aside0.mk (Below.refl w.heap.size w)
 have H : (if (a1.size : Int) > 1048576 then (some true) else ((laws_szDisk.f k a0_0 a0_1 l0_2 l0_3 l0_4 1048576).bind fun t407 => (if t407 < 0 then (some true) else ((laws_toDisk.f k a0_0 a0_1 l0_2 l0_3 l0_4).bind fun bt408 => ((spec_Load.f k bt408.1 bt408.2.1 bt408.2.2.1 bt408.2.2.2.1 bt408.2.2.2.2 a1).bind fun bt419 => ((laws_toDisk.f k a0_0 a0_1 l0_2 l0_3 l0_4).bind fun bt421 => ((impl_Load.f k bt421.1 bt421.2.1 bt421.2.2.1 bt421.2.2.2.1 bt421.2.2.2.2 a1).bind fun bt433 => (if bt433.1.toList = bt419.1.toList then (laws_FnExactLoad.j0 k (bt433.2 != bt419.2) a0_0 a0_1 l0_2 l0_3 l0_4 bt421.1 bt421.2.1 bt421.2.2.1 bt421.2.2.2.1 bt421.2.2.2.2) else (laws_FnExactLoad.j0 k true a0_0 a0_1 l0_2 l0_3 l0_4 bt421.1 bt421.2.1 bt421.2.2.1 bt421.2.2.2.1 bt421.2.2.2.2))))))))) = some r := h
 clear h
 by_cases c3 : (a1.size : Int) > 1048576
 ·rw [if_pos c3] at H
  have c3b0 : decide (1048576 < (a1.size : Int)) = true := decide_eq_true c3
  have c3b1 : decide (1048576 < a1.size) = true := decide_eq_true (by omega)
  clear c3
  obtain rfl := Option.some.inj H
  go_enter Try.func6, Try.ntmps6
  go_wp2_with (first | ((with_reducible refine gD 2 rfl ?_); refine boxZ 2 #[.int .i64 a0_0, .int .i64 a0_1, .slice A0_2 l0_2.length c0_2, .slice A0_3 l0_3.length c0_3, .slice A0_4 l0_4.length c0_4] 44 ?_; intro gb406 hg w4 hbox hb; have BK406 := Aside0.mk hbox; have GW406 := gw (w := w) hg; have GE406 := gw (w := w) hg; replace HB := bs (w := w) hb; clear hb hbox hg))
  go_ret
  exact ⟨fe, bl⟩
 ·rw [if_neg c3] at H
  have c3b0 : decide (1048576 < (a1.size : Int)) = false := decide_eq_false c3
  have c3b1 : decide (1048576 < a1.size) = false := decide_eq_false (by omega)
  clear c3
  obtain ⟨t407, A5, H⟩ := bd H
  by_cases c6 : t407 < 0
  ·rw [if_pos c6] at H
   have c6b0 : decide (t407 < 0) = true := decide_eq_true c6
   clear c6
   obtain rfl := Option.some.inj H
   go_enter Try.func6, Try.ntmps6
   go_wp2_with (first | ((with_reducible refine gD 2 rfl ?_); refine boxZ 2 #[.int .i64 a0_0, .int .i64 a0_1, .slice A0_2 l0_2.length c0_2, .slice A0_3 l0_3.length c0_3, .slice A0_4 l0_4.length c0_4] 44 ?_; intro gb406 hg w7 hbox hb; have BK406 := Aside0.mk hbox; have GW406 := gw (w := w) hg; have GE406 := gw (w := w) hg; replace HB := bs (w := w) hb; clear hb hbox hg; obtain ⟨Z8_0, Z8_1, Z8_2, Z8_3, Z8_4, Y8_0, Y8_1, Y8_2, Y8_3, Y8_4⟩ := cf5 BK406) | ((with_reducible refine gC 25 rfl ?_); refine goesZ (some 16) rfl Try.func25 #[.agg #[.int .i64 a0_0, .int .i64 a0_1, .slice A0_2 l0_2.length c0_2, .slice A0_3 l0_3.length c0_3, .slice A0_4 l0_4.length c0_4], .int .i64 1048576] ?_; (with_reducible refine (laws_szDisk.calls k a0_0 a0_1 _ _ l0_2 _ _ l0_3 _ _ l0_4 1048576 t407 _ ?side1 ?side2 ?side3 ?side4 ?side5 ?side6 A5.out).mono ?_); (case side1 => exact ca (Kd.C_below HR0_2.out HB.out)); (case side2 => exact HC0_2.out); (case side3 => exact ca (Kd.C_below HR0_3.out HB.out)); (case side4 => exact HC0_3.out); (case side5 => exact ca (Kd.C_below HR0_4.out HB.out)); (case side6 => exact HC0_4.out); rintro e w9 ⟨rfl, hb⟩; refine ⟨_, rfl, ?_⟩; replace BK406 := bv BK406 hb; replace HB := bs (w := w) hb; (try clear hb)))
   go_ret
   exact ⟨fe, bl⟩
  ·rw [if_neg c6] at H
   have c6b0 : decide (t407 < 0) = false := decide_eq_false c6
   clear c6
   replace H := Option.bind_eq_some_iff.mp H
   obtain ⟨⟨t408, t409, t410, t413, t416⟩, A100, H⟩ := H
   replace H : ((spec_Load.f k t408 t409 t410 t413 t416 a1).bind fun bt419 => ((laws_toDisk.f k a0_0 a0_1 l0_2 l0_3 l0_4).bind fun bt421 => ((impl_Load.f k bt421.1 bt421.2.1 bt421.2.2.1 bt421.2.2.2.1 bt421.2.2.2.2 a1).bind fun bt433 => (if bt433.1.toList = bt419.1.toList then (laws_FnExactLoad.j0 k (bt433.2 != bt419.2) a0_0 a0_1 l0_2 l0_3 l0_4 bt421.1 bt421.2.1 bt421.2.2.1 bt421.2.2.2.1 bt421.2.2.2.2) else (laws_FnExactLoad.j0 k true a0_0 a0_1 l0_2 l0_3 l0_4 bt421.1 bt421.2.1 bt421.2.2.1 bt421.2.2.2.1 bt421.2.2.2.2))))) = some r := H
   have A10 := Aside0.mk A100
   clear A100
   replace H := Option.bind_eq_some_iff.mp H
   obtain ⟨⟨t419, t420⟩, A110, H⟩ := H
   replace H : ((laws_toDisk.f k a0_0 a0_1 l0_2 l0_3 l0_4).bind fun bt421 => ((impl_Load.f k bt421.1 bt421.2.1 bt421.2.2.1 bt421.2.2.2.1 bt421.2.2.2.2 a1).bind fun bt433 => (if bt433.1.toList = t419.toList then (laws_FnExactLoad.j0 k (bt433.2 != t420) a0_0 a0_1 l0_2 l0_3 l0_4 bt421.1 bt421.2.1 bt421.2.2.1 bt421.2.2.2.1 bt421.2.2.2.2) else (laws_FnExactLoad.j0 k true a0_0 a0_1 l0_2 l0_3 l0_4 bt421.1 bt421.2.1 bt421.2.2.1 bt421.2.2.2.1 bt421.2.2.2.2)))) = some r := H
   have A11 := Aside0.mk A110
   clear A110
   replace H := Option.bind_eq_some_iff.mp H
   obtain ⟨⟨t421, t422, t423, t426, t429⟩, A120, H⟩ := H
   replace H : ((impl_Load.f k t421 t422 t423 t426 t429 a1).bind fun bt433 => (if bt433.1.toList = t419.toList then (laws_FnExactLoad.j0 k (bt433.2 != t420) a0_0 a0_1 l0_2 l0_3 l0_4 t421 t422 t423 t426 t429) else (laws_FnExactLoad.j0 k true a0_0 a0_1 l0_2 l0_3 l0_4 t421 t422 t423 t426 t429))) = some r := H
   have A12 := Aside0.mk A120
   clear A120
   replace H := Option.bind_eq_some_iff.mp H
   obtain ⟨⟨t433, t434⟩, A130, H⟩ := H
   replace H : (if t433.toList = t419.toList then (laws_FnExactLoad.j0 k (t434 != t420) a0_0 a0_1 l0_2 l0_3 l0_4 t421 t422 t423 t426 t429) else (laws_FnExactLoad.j0 k true a0_0 a0_1 l0_2 l0_3 l0_4 t421 t422 t423 t426 t429)) = some r := H
   have A13 := Aside0.mk A130
   clear A130
   have HC14 := Aside0.mk H
   clear H
   go_enter Try.func6, Try.ntmps6
   go_upto_region 10 with (first | ((with_reducible refine gD 2 rfl ?_); refine boxZ 2 #[.int .i64 a0_0, .int .i64 a0_1, .slice A0_2 l0_2.length c0_2, .slice A0_3 l0_3.length c0_3, .slice A0_4 l0_4.length c0_4] 44 ?_; intro gb406 hg w15 hbox hb; have BK406 := Aside0.mk hbox; have GW406 := gw (w := w) hg; have GE406 := gw (w := w) hg; replace HB := bs (w := w) hb; clear hb hbox hg; obtain ⟨Z16_0, Z16_1, Z16_2, Z16_3, Z16_4, Y16_0, Y16_1, Y16_2, Y16_3, Y16_4⟩ := cf5 BK406) | ((with_reducible refine gC 25 rfl ?_); refine goesZ (some 16) rfl Try.func25 #[.agg #[.int .i64 a0_0, .int .i64 a0_1, .slice A0_2 l0_2.length c0_2, .slice A0_3 l0_3.length c0_3, .slice A0_4 l0_4.length c0_4], .int .i64 1048576] ?_; (with_reducible refine (laws_szDisk.calls k a0_0 a0_1 _ _ l0_2 _ _ l0_3 _ _ l0_4 1048576 t407 _ ?side1 ?side2 ?side3 ?side4 ?side5 ?side6 A5.out).mono ?_); (case side1 => exact ca (Kd.C_below HR0_2.out HB.out)); (case side2 => exact HC0_2.out); (case side3 => exact ca (Kd.C_below HR0_3.out HB.out)); (case side4 => exact HC0_3.out); (case side5 => exact ca (Kd.C_below HR0_4.out HB.out)); (case side6 => exact HC0_4.out); rintro e w17 ⟨rfl, hb⟩; refine ⟨_, rfl, ?_⟩; replace BK406 := bv BK406 hb; replace HB := bs (w := w) hb; (try clear hb); obtain ⟨Z18_0, Z18_1, Z18_2, Z18_3, Z18_4, Y18_0, Y18_1, Y18_2, Y18_3, Y18_4⟩ := cf5 BK406) | ((with_reducible refine gC 27 rfl ?_); refine goesZ (some 21) rfl Try.func27 #[.agg #[.int .i64 a0_0, .int .i64 a0_1, .slice A0_2 l0_2.length c0_2, .slice A0_3 l0_3.length c0_3, .slice A0_4 l0_4.length c0_4]] ?_; (with_reducible refine (laws_toDisk.calls k a0_0 a0_1 _ _ l0_2 _ _ l0_3 _ _ l0_4 t408 t409 t410 t413 t416 _ ?side1 ?side2 ?side3 ?side4 ?side5 ?side6 A10.out).mono ?_); (case side1 => exact ca (Kd.C_below HR0_2.out HB.out)); (case side2 => exact HC0_2.out); (case side3 => exact ca (Kd.C_below HR0_3.out HB.out)); (case side4 => exact HC0_3.out); (case side5 => exact ca (Kd.C_below HR0_4.out HB.out)); (case side6 => exact HC0_4.out); rintro e w19 ⟨v411, v414, v417, rfl, ho0, ho1, ho2, hb⟩; refine ⟨_, rfl, ?_⟩; have HO412 := Aside0.mk (Kd.R_lower ho0 (below_size bl)); have HO415 := Aside0.mk (Kd.R_lower ho1 (below_size bl)); have HO418 := Aside0.mk (Kd.R_lower ho2 (below_size bl)); replace BK406 := bv BK406 hb; replace HB := bs (w := w) hb; (try clear hb ho0 ho1 ho2); obtain ⟨Ao20, co20, rfl⟩ := Kd.R_slice HO412.out; obtain ⟨Ao21, co21, rfl⟩ := Kd.R_slice HO415.out; obtain ⟨Ao22, co22, rfl⟩ := Kd.R_slice HO418.out) | ((with_reducible refine gC 29 rfl ?_); refine goesZ (some 23) rfl Try.func29 #[.agg #[.int .i64 t408, .int .i64 t409, .slice Ao20 t410.length co20, .slice Ao21 t413.length co21, .slice Ao22 t416.length co22], .string a1] ?_; (with_reducible refine (spec_Load.calls k t408 t409 _ _ t410 _ _ t413 _ _ t416 a1 t419 t420 _ ?side1 ?side2 ?side3 ?side4 ?side5 ?side6 A11.out).mono ?_); (case side1 => exact ca ((Kd.R_reads' HO412.out).2.2)); (case side2 => exact (Kd.R_reads' HO412.out).2.1); (case side3 => exact ca ((Kd.R_reads' HO415.out).2.2)); (case side4 => exact (Kd.R_reads' HO415.out).2.1); (case side5 => exact ca ((Kd.R_reads' HO418.out).2.2)); (case side6 => exact (Kd.R_reads' HO418.out).2.1); rintro e w23 ⟨rfl, hb⟩; refine ⟨_, rfl, ?_⟩; replace HO412 := Aside0.mk (Kd.R_below (rpR HO412.out) hb); replace HO415 := Aside0.mk (Kd.R_below (rpR HO415.out) hb); replace HO418 := Aside0.mk (Kd.R_below (rpR HO418.out) hb); replace BK406 := bv BK406 hb; replace HB := bs (w := w) hb; (try clear hb); obtain ⟨Z24_0, Z24_1, Z24_2, Z24_3, Z24_4, Y24_0, Y24_1, Y24_2, Y24_3, Y24_4⟩ := cf5 BK406) | ((with_reducible refine gC 27 rfl ?_); refine goesZ (some 27) rfl Try.func27 #[.agg #[.int .i64 a0_0, .int .i64 a0_1, .slice A0_2 l0_2.length c0_2, .slice A0_3 l0_3.length c0_3, .slice A0_4 l0_4.length c0_4]] ?_; (with_reducible refine (laws_toDisk.calls k a0_0 a0_1 _ _ l0_2 _ _ l0_3 _ _ l0_4 t421 t422 t423 t426 t429 _ ?side1 ?side2 ?side3 ?side4 ?side5 ?side6 A12.out).mono ?_); (case side1 => exact ca (Kd.C_below HR0_2.out HB.out)); (case side2 => exact HC0_2.out); (case side3 => exact ca (Kd.C_below HR0_3.out HB.out)); (case side4 => exact HC0_3.out); (case side5 => exact ca (Kd.C_below HR0_4.out HB.out)); (case side6 => exact HC0_4.out); rintro e w25 ⟨v424, v427, v430, rfl, ho0, ho1, ho2, hb⟩; refine ⟨_, rfl, ?_⟩; have HO425 := Aside0.mk (Kd.R_lower (Kd.R_new' ho0 (Kd.R_lt (rpR HO412.out))) (below_size bl)); replace HO412 := Aside0.mk (Kd.R_elder' (rpR HO412.out) (Kd.R_base ho0) hb); have HO428 := Aside0.mk (Kd.R_lower (Kd.R_new' ho1 (Kd.R_lt (rpR HO415.out))) (below_size bl)); replace HO415 := Aside0.mk (Kd.R_elder' (rpR HO415.out) (Kd.R_base ho1) hb); have HO431 := Aside0.mk (Kd.R_lower (Kd.R_new' ho2 (Kd.R_lt (rpR HO418.out))) (below_size bl)); replace HO418 := Aside0.mk (Kd.R_elder' (rpR HO418.out) (Kd.R_base ho2) hb); replace BK406 := bv BK406 hb; replace HB := bs (w := w) hb; (try clear hb ho0 ho1 ho2)) | ((with_reducible refine gD 8 rfl ?_); refine boxZ 8 #[.int .i64 0, .int .i64 0, .slice none 0 0, .slice none 0 0, .slice none 0 0] 26 ?_; intro gb432 hg w26 hbox hb; replace HO412 := Aside0.mk (Kd.R_below (rpR HO412.out) hb); replace HO415 := Aside0.mk (Kd.R_below (rpR HO415.out) hb); replace HO418 := Aside0.mk (Kd.R_below (rpR HO418.out) hb); replace HO425 := Aside0.mk (Kd.R_below (rpR HO425.out) hb); replace HO428 := Aside0.mk (Kd.R_below (rpR HO428.out) hb); replace HO431 := Aside0.mk (Kd.R_below (rpR HO431.out) hb); have BK432 := Aside0.mk hbox; have GW432 := gw (w := w) hg; have GE432 := gw (w := w) hg; replace HB := bs (w := w) hb; have NB406_432 := nl BK406 hg; have NB432_406 := nr BK406 hg; replace BK406 := bv BK406 hb; clear hb hbox hg; have hnb27 := NB432_406.out; have hnc27 := NB406_432.out; obtain ⟨Z28_0, Z28_1, Z28_2, Z28_3, Z28_4, Y28_0, Y28_1, Y28_2, Y28_3, Y28_4⟩ := cf5 BK432; obtain ⟨Ao29, co29, rfl⟩ := Kd.R_slice HO425.out; obtain ⟨Ao30, co30, rfl⟩ := Kd.R_slice HO428.out; obtain ⟨Ao31, co31, rfl⟩ := Kd.R_slice HO431.out) | ((with_reducible refine gC 30 rfl ?_); refine goesZ (some 31) rfl Try.func30 #[.agg #[.int .i64 t421, .int .i64 t422, .slice Ao29 t423.length co29, .slice Ao30 t426.length co30, .slice Ao31 t429.length co31], .string a1] ?_; (with_reducible refine (impl_Load.calls k t421 t422 _ _ t423 _ _ t426 _ _ t429 a1 t433 t434 _ ?side1 ?side2 ?side3 ?side4 ?side5 ?side6 A13.out).mono ?_); (case side1 => refine (Kd.R_reads' (e := 89) (base := w.heap.size) (ok := fun k_ => (True ∧ some k_ ≠ (.slice Ao20 t410.length co20 : Value).ownBlock)) (n := t423.length) (c := co29) ?_).2.2; exact (rpR (Kd.R_mono (Kd.R_far (p := ⟨gb432, 4, none⟩) (Kd.R_far (p := ⟨gb432, 3, none⟩) (Kd.R_far (p := ⟨gb432, 2, none⟩) (Kd.R_far (p := ⟨gb432, 1, none⟩) (Kd.R_far (p := ⟨gb432, 0, none⟩) (Kd.R_types HO425.out BK432.out (by decide)) (fun _ hk => hk.2) (.int .i64 t421)) (fun _ hk => hk.2) (.int .i64 t422)) (fun _ hk => hk.2) (.slice Ao29 t423.length co29)) (fun _ hk => hk.2) (.slice Ao30 t426.length co30)) (fun _ hk => hk.2) (.slice Ao31 t429.length co31)) (fun _ h_ => h_.1)))); (case side2 => exact (Kd.R_reads' HO425.out).2.1); (case side3 => refine (Kd.R_reads' (e := 93) (base := w.heap.size) (ok := fun k_ => (True ∧ some k_ ≠ (.slice Ao21 t413.length co21 : Value).ownBlock)) (n := t426.length) (c := co30) ?_).2.2; exact (rpR (Kd.R_mono (Kd.R_far (p := ⟨gb432, 4, none⟩) (Kd.R_far (p := ⟨gb432, 3, none⟩) (Kd.R_far (p := ⟨gb432, 2, none⟩) (Kd.R_far (p := ⟨gb432, 1, none⟩) (Kd.R_far (p := ⟨gb432, 0, none⟩) (Kd.R_types HO428.out BK432.out (by decide)) (fun _ hk => hk.2) (.int .i64 t421)) (fun _ hk => hk.2) (.int .i64 t422)) (fun _ hk => hk.2) (.slice Ao29 t423.length co29)) (fun _ hk => hk.2) (.slice Ao30 t426.length co30)) (fun _ hk => hk.2) (.slice Ao31 t429.length co31)) (fun _ h_ => h_.1)))); (case side4 => exact (Kd.R_reads' HO428.out).2.1); (case side5 => refine (Kd.R_reads' (e := 95) (base := w.heap.size) (ok := fun k_ => (True ∧ some k_ ≠ (.slice Ao22 t416.length co22 : Value).ownBlock)) (n := t429.length) (c := co31) ?_).2.2; exact (rpR (Kd.R_mono (Kd.R_far (p := ⟨gb432, 4, none⟩) (Kd.R_far (p := ⟨gb432, 3, none⟩) (Kd.R_far (p := ⟨gb432, 2, none⟩) (Kd.R_far (p := ⟨gb432, 1, none⟩) (Kd.R_far (p := ⟨gb432, 0, none⟩) (Kd.R_types HO431.out BK432.out (by decide)) (fun _ hk => hk.2) (.int .i64 t421)) (fun _ hk => hk.2) (.int .i64 t422)) (fun _ hk => hk.2) (.slice Ao29 t423.length co29)) (fun _ hk => hk.2) (.slice Ao30 t426.length co30)) (fun _ hk => hk.2) (.slice Ao31 t429.length co31)) (fun _ h_ => h_.1)))); (case side6 => exact (Kd.R_reads' HO431.out).2.1); rintro e w32 ⟨rfl, hb⟩; refine ⟨_, rfl, ?_⟩; replace HO412 := Aside0.mk (Kd.R_below (rpR (Kd.R_mono (Kd.R_far (p := ⟨gb432, 4, none⟩) (Kd.R_far (p := ⟨gb432, 3, none⟩) (Kd.R_far (p := ⟨gb432, 2, none⟩) (Kd.R_far (p := ⟨gb432, 1, none⟩) (Kd.R_far (p := ⟨gb432, 0, none⟩) (Kd.R_types HO412.out BK432.out (by decide)) (fun _ hk => hk.2) (.int .i64 t421)) (fun _ hk => hk.2) (.int .i64 t422)) (fun _ hk => hk.2) (.slice Ao29 t423.length co29)) (fun _ hk => hk.2) (.slice Ao30 t426.length co30)) (fun _ hk => hk.2) (.slice Ao31 t429.length co31)) (fun _ h_ => h_.1))) hb); replace HO415 := Aside0.mk (Kd.R_below (rpR (Kd.R_mono (Kd.R_far (p := ⟨gb432, 4, none⟩) (Kd.R_far (p := ⟨gb432, 3, none⟩) (Kd.R_far (p := ⟨gb432, 2, none⟩) (Kd.R_far (p := ⟨gb432, 1, none⟩) (Kd.R_far (p := ⟨gb432, 0, none⟩) (Kd.R_types HO415.out BK432.out (by decide)) (fun _ hk => hk.2) (.int .i64 t421)) (fun _ hk => hk.2) (.int .i64 t422)) (fun _ hk => hk.2) (.slice Ao29 t423.length co29)) (fun _ hk => hk.2) (.slice Ao30 t426.length co30)) (fun _ hk => hk.2) (.slice Ao31 t429.length co31)) (fun _ h_ => h_.1))) hb); replace HO418 := Aside0.mk (Kd.R_below (rpR (Kd.R_mono (Kd.R_far (p := ⟨gb432, 4, none⟩) (Kd.R_far (p := ⟨gb432, 3, none⟩) (Kd.R_far (p := ⟨gb432, 2, none⟩) (Kd.R_far (p := ⟨gb432, 1, none⟩) (Kd.R_far (p := ⟨gb432, 0, none⟩) (Kd.R_types HO418.out BK432.out (by decide)) (fun _ hk => hk.2) (.int .i64 t421)) (fun _ hk => hk.2) (.int .i64 t422)) (fun _ hk => hk.2) (.slice Ao29 t423.length co29)) (fun _ hk => hk.2) (.slice Ao30 t426.length co30)) (fun _ hk => hk.2) (.slice Ao31 t429.length co31)) (fun _ h_ => h_.1))) hb); replace HO425 := Aside0.mk (Kd.R_below (rpR (Kd.R_mono (Kd.R_far (p := ⟨gb432, 4, none⟩) (Kd.R_far (p := ⟨gb432, 3, none⟩) (Kd.R_far (p := ⟨gb432, 2, none⟩) (Kd.R_far (p := ⟨gb432, 1, none⟩) (Kd.R_far (p := ⟨gb432, 0, none⟩) (Kd.R_types HO425.out BK432.out (by decide)) (fun _ hk => hk.2) (.int .i64 t421)) (fun _ hk => hk.2) (.int .i64 t422)) (fun _ hk => hk.2) (.slice Ao29 t423.length co29)) (fun _ hk => hk.2) (.slice Ao30 t426.length co30)) (fun _ hk => hk.2) (.slice Ao31 t429.length co31)) (fun _ h_ => h_.1))) hb); replace HO428 := Aside0.mk (Kd.R_below (rpR (Kd.R_mono (Kd.R_far (p := ⟨gb432, 4, none⟩) (Kd.R_far (p := ⟨gb432, 3, none⟩) (Kd.R_far (p := ⟨gb432, 2, none⟩) (Kd.R_far (p := ⟨gb432, 1, none⟩) (Kd.R_far (p := ⟨gb432, 0, none⟩) (Kd.R_types HO428.out BK432.out (by decide)) (fun _ hk => hk.2) (.int .i64 t421)) (fun _ hk => hk.2) (.int .i64 t422)) (fun _ hk => hk.2) (.slice Ao29 t423.length co29)) (fun _ hk => hk.2) (.slice Ao30 t426.length co30)) (fun _ hk => hk.2) (.slice Ao31 t429.length co31)) (fun _ h_ => h_.1))) hb); replace HO431 := Aside0.mk (Kd.R_below (rpR (Kd.R_mono (Kd.R_far (p := ⟨gb432, 4, none⟩) (Kd.R_far (p := ⟨gb432, 3, none⟩) (Kd.R_far (p := ⟨gb432, 2, none⟩) (Kd.R_far (p := ⟨gb432, 1, none⟩) (Kd.R_far (p := ⟨gb432, 0, none⟩) (Kd.R_types HO431.out BK432.out (by decide)) (fun _ hk => hk.2) (.int .i64 t421)) (fun _ hk => hk.2) (.int .i64 t422)) (fun _ hk => hk.2) (.slice Ao29 t423.length co29)) (fun _ hk => hk.2) (.slice Ao30 t426.length co30)) (fun _ hk => hk.2) (.slice Ao31 t429.length co31)) (fun _ h_ => h_.1))) hb); replace BK406 := Aside0.mk (blk_below (g := gb406) (o := .cells #[.int .i64 a0_0, .int .i64 a0_1, .slice A0_2 l0_2.length c0_2, .slice A0_3 l0_3.length c0_3, .slice A0_4 l0_4.length c0_4] 44 (0, 0)) bkk hb); replace BK432 := Aside0.mk (blk_below (g := gb432) (o := .cells #[.int .i64 t421, .int .i64 t422, .slice Ao29 t423.length co29, .slice Ao30 t426.length co30, .slice Ao31 t429.length co31] 26 (0, 0)) bkk hb); replace HB := bs (w := w) hb; (try clear hb)))
   (try simp only [Act.put, List.setIfInBounds_toArray, List.set_cons_zero, List.set_cons_succ])
   go_cut [41] (fun v41 wc => ∃ (kq : Nat) (x41_13 : Bool), v41 = .bool x41_13 ∧ Aside0 (laws_FnExactLoad.j0 kq x41_13 a0_0 a0_1 l0_2 l0_3 l0_4 t421 t422 t423 t426 t429 = some r) ∧ Aside0 (kq ≤ k) ∧ Aside0 (Kd.R k89 89 wc w.heap.size (fun _ => True) (.slice Ao29 t423.length co29) t423) ∧ Aside0 (Kd.R k93 93 wc w.heap.size (fun _ => True) (.slice Ao30 t426.length co30) t426) ∧ Aside0 (Kd.R k95 95 wc w.heap.size (fun _ => True) (.slice Ao31 t429.length co31) t429) ∧ Aside0 (wc.heap[gb406]? = some (.cells #[.int .i64 a0_0, .int .i64 a0_1, (.slice A0_2 l0_2.length c0_2), (.slice A0_3 l0_3.length c0_3), (.slice A0_4 l0_4.length c0_4)] 44 (0, 0))) ∧ Aside0 (wc.heap[gb432]? = some (.cells #[.int .i64 t421, .int .i64 t422, (.slice Ao29 t423.length co29), (.slice Ao30 t426.length co30), (.slice Ao31 t429.length co31)] 26 (0, 0))) ∧ Aside0 (Below w.heap.size w wc))
   case first =>
    have H := HC14.out
    clear HC14
    by_cases c33 : t433.toList = t419.toList
    ·rw [if_pos c33] at H
     have c33b0 : (t433.toList == t419.toList) = true := beq_iff_eq.mpr c33
     have c33b1 : (t433.toList != t419.toList) = false := bne_eq_false_iff_eq.mpr c33
     clear c33
     (first | rw [c33b0] | (simp only [i64_w, i32_w]; rw [c33b0]) | skip)
     have H' := Aside0.mk H
     clear H
     go_wp2
     go_meet
     case rel => exact ⟨_, ((t434 != t420)), fa, H', ⟨by first | omega | exact Nat.le_refl _⟩, ⟨rpR (Kd.R_mono HO425.out (fun _ hk => trivial))⟩, ⟨rpR (Kd.R_mono HO428.out (fun _ hk => trivial))⟩, ⟨rpR (Kd.R_mono HO431.out (fun _ hk => trivial))⟩, ⟨by (with_reducible repeat (first | refine blk_drewN ?_ _ | refine blk_drew ?_ | refine blk_alloc ?_ _)); exact BK406.out⟩, ⟨by (with_reducible repeat (first | refine blk_drewN ?_ _ | refine blk_drew ?_ | refine blk_alloc ?_ _)); exact BK432.out⟩, ⟨bl⟩⟩
    ·rw [if_neg c33] at H
     have c33b0 : (t433.toList == t419.toList) = false := beq_eq_false_iff_ne.mpr c33
     have c33b1 : (t433.toList != t419.toList) = true := bne_iff_ne.mpr c33
     (first | rw [c33b0] | (simp only [i64_w, i32_w]; rw [c33b0]) | skip)
     have H' := Aside0.mk H
     clear H
     go_wp2
     go_meet
     case rel => exact ⟨_, (true), fa, H', ⟨by first | omega | exact Nat.le_refl _⟩, ⟨rpR (Kd.R_mono HO425.out (fun _ hk => trivial))⟩, ⟨rpR (Kd.R_mono HO428.out (fun _ hk => trivial))⟩, ⟨rpR (Kd.R_mono HO431.out (fun _ hk => trivial))⟩, ⟨by (with_reducible repeat (first | refine blk_drewN ?_ _ | refine blk_drew ?_ | refine blk_alloc ?_ _)); exact BK406.out⟩, ⟨by (with_reducible repeat (first | refine blk_drewN ?_ _ | refine blk_drew ?_ | refine blk_alloc ?_ _)); exact BK432.out⟩, ⟨bl⟩⟩
   case rest =>
    clear HC14
    try clear c2
    try clear p2
    try clear c3
    try clear c3b0
    try clear c3b1
    try clear c6
    try clear c6b0
    try clear c25
    try clear c27
    try clear c29
    try clear c30
    try clear c33
    try clear c33b0
    try clear c33b1
    try clear Z16_0 Z16_1 Z16_2 Z16_3 Z16_4
    try clear Z18_0 Z18_1 Z18_2 Z18_3 Z18_4
    try clear Z24_0 Z24_1 Z24_2 Z24_3 Z24_4
    try clear Z28_0 Z28_1 Z28_2 Z28_3 Z28_4
    try clear Z8_0 Z8_1 Z8_2 Z8_3 Z8_4
    try clear Y16_0 Y16_1 Y16_2 Y16_3 Y16_4
    try clear Y18_0 Y18_1 Y18_2 Y18_3 Y18_4
    try clear Y24_0 Y24_1 Y24_2 Y24_3 Y24_4
    try clear Y28_0 Y28_1 Y28_2 Y28_3 Y28_4
    try clear Y8_0 Y8_1 Y8_2 Y8_3 Y8_4
    obtain ⟨kq, x41_13, rfl, HA, HJ13, HO_433002, HO_433003, HO_433004, BK406, BK432, HB⟩ := hcut
    cases kq with
    | zero => exact absurd HA.out (by simp [laws_FnExactLoad.j0])
    | succ kj13 =>
     have H := HA.out
     clear HA
     simp only [laws_FnExactLoad.j0] at H
     by_cases c34 : x41_13 = true
     ·subst c34
      replace H := iT H
      exact absurd ((Option.some.inj H).trans hr_) (by decide)
     ·replace c34 := Bool.eq_false_iff.mpr c34
      subst c34
      replace H := iF H
      replace H := Option.bind_eq_some_iff.mp H
      obtain ⟨⟨t435, t436, t437, t440, t443⟩, A350, H⟩ := H
      replace H : ((laws_eqDisk.f kj13 t421 t422 t423 t426 t429 t435 t436 t437 t440 t443).bind fun t446 => (if t446 = true then (some true) else (some false))) = some r := H
      have A35 := Aside0.mk A350
      clear A350
      obtain ⟨t446, A36, H⟩ := bd H
      by_cases c37 : t446 = true
      ·subst c37
       replace H := iT H
       obtain rfl := Option.some.inj H
       try go_wp2
       replace HO_433002 := Aside0.mk (Kd.R_drew HO_433002.out); replace HO_433003 := Aside0.mk (Kd.R_drew HO_433003.out); replace HO_433004 := Aside0.mk (Kd.R_drew HO_433004.out); replace BK406 := Aside0.mk (blk_drew BK406.out); replace BK432 := Aside0.mk (blk_drew BK432.out); replace HB := Aside0.mk (below_drew1 HB.out)
       refine start_ (n := 5) (S := fun w' => w'.cell? ⟨gb432, 0, none⟩ = some (.int .i64 t421) ∧ w'.cell? ⟨gb432, 1, none⟩ = some (.int .i64 t422) ∧ w'.cell? ⟨gb432, 2, none⟩ = some (.slice Ao29 t423.length co29) ∧ w'.cell? ⟨gb432, 3, none⟩ = some (.slice Ao30 t426.length co30) ∧ w'.cell? ⟨gb432, 4, none⟩ = some (.slice Ao31 t429.length co31) ∧ w'.cell? ⟨gb406, 0, none⟩ = some (.int .i64 a0_0) ∧ w'.cell? ⟨gb406, 1, none⟩ = some (.int .i64 a0_1) ∧ w'.cell? ⟨gb406, 2, none⟩ = some (.slice A0_2 l0_2.length c0_2) ∧ w'.cell? ⟨gb406, 3, none⟩ = some (.slice A0_3 l0_3.length c0_3) ∧ w'.cell? ⟨gb406, 4, none⟩ = some (.slice A0_4 l0_4.length c0_4)) (ds := []) #[false, false, false, false, false] (by kernel_rfl) rfl rfl ⟨cb 0 BK432, cb 1 BK432, cb 2 BK432, cb 3 BK432, cb 4 BK432, cb 0 BK406, cb 1 BK406, cb 2 BK406, cb 3 BK406, cb 4 BK406⟩ (fun hHeld => ?_)
       generalize wc.drew = w38 at HO_433002 HO_433003 HO_433004 BK406 BK432 HB hHeld ⊢
       refine tV 0 42 #[true, false, false, false, false] ?_
       refine tV 1 43 #[true, true, false, false, false] ?_
       refine one_ (i := 2) (N := some 44) #[true, true, true, false, false] rfl rfl (by kernel_rfl) (by decide) (fun K hK => ?_)
       refine goes_ Try.func27 (by kernel_rfl) rfl #[.agg #[.int .i64 a0_0, .int .i64 a0_1, .slice A0_2 l0_2.length c0_2, .slice A0_3 l0_3.length c0_3, .slice A0_4 l0_4.length c0_4]] (by rfl) rfl rfl sa ?_
       with_reducible refine (laws_toDisk.calls kj13 a0_0 a0_1 _ _ l0_2 _ _ l0_3 _ _ l0_4 t435 t436 t437 t440 t443 _ ?side1 ?side2 ?side3 ?side4 ?side5 ?side6 A35.out).mono ?_
       (case side1 => exact ca (Kd.C_below HR0_2.out HB.out))
       (case side2 => exact HC0_2.out)
       (case side3 => exact ca (Kd.C_below HR0_3.out HB.out))
       (case side4 => exact HC0_3.out)
       (case side5 => exact ca (Kd.C_below HR0_4.out HB.out))
       (case side6 => exact HC0_4.out)
       rintro e w39 ⟨v438, v441, v444, rfl, ho0, ho1, ho2, hb⟩
       refine ⟨_, rfl, ?_⟩
       have HO439 := Aside0.mk (Kd.R_lower (Kd.R_new' ho0 (Kd.R_lt (rpR HO_433002.out))) (below_size bl)); replace HO_433002 := Aside0.mk (Kd.R_elder' (rpR HO_433002.out) (Kd.R_base ho0) hb); have HO442 := Aside0.mk (Kd.R_lower (Kd.R_new' ho1 (Kd.R_lt (rpR HO_433003.out))) (below_size bl)); replace HO_433003 := Aside0.mk (Kd.R_elder' (rpR HO_433003.out) (Kd.R_base ho1) hb); have HO445 := Aside0.mk (Kd.R_lower (Kd.R_new' ho2 (Kd.R_lt (rpR HO_433004.out))) (below_size bl)); replace HO_433004 := Aside0.mk (Kd.R_elder' (rpR HO_433004.out) (Kd.R_base ho2) hb); replace BK406 := bv BK406 hb; replace BK432 := bv BK432 hb; replace HB := bs (w := w) hb; (try clear hb hb2 hk hi ho0 ho1 ho2)
       obtain ⟨Ao40, co40, eo40⟩ := Kd.R_slice HO439.out
       (first | subst eo40 | (injection eo40 with f1_ f2_ f3_; have f4_ := f1_.symm; have f5_ := f3_.symm; clear f1_ f2_ f3_; subst f4_; subst f5_))
       obtain ⟨Ao41, co41, eo41⟩ := Kd.R_slice HO442.out
       (first | subst eo41 | (injection eo41 with f1_ f2_ f3_; have f4_ := f1_.symm; have f5_ := f3_.symm; clear f1_ f2_ f3_; subst f4_; subst f5_))
       obtain ⟨Ao42, co42, eo42⟩ := Kd.R_slice HO445.out
       (first | subst eo42 | (injection eo42 with f1_ f2_ f3_; have f4_ := f1_.symm; have f5_ := f3_.symm; clear f1_ f2_ f3_; subst f4_; subst f5_))
       refine hK.out _ _ ⟨cb 0 BK432, cb 1 BK432, cb 2 BK432, cb 3 BK432, cb 4 BK432, cb 0 BK406, cb 1 BK406, cb 2 BK406, cb 3 BK406, cb 4 BK406⟩ (fun hHeld => ?_)
       clear hK K
       refine norm_ (a' := ?_) ?_ ?_
       rotate_left
       ·show Act.put _ (some 44) _ = _
        simp only [Act.put, List.setIfInBounds_toArray, List.set_cons_zero, List.set_cons_succ, i64_w, i32_w]
        rfl
       refine one_ (i := 3) (N := some 45) #[true, true, true, true, false] rfl rfl (by kernel_rfl) (by decide) (fun K hK => ?_)
       refine goes_ Try.func17 (by kernel_rfl) rfl #[.agg #[.int .i64 t421, .int .i64 t422, .slice Ao29 t423.length co29, .slice Ao30 t426.length co30, .slice Ao31 t429.length co31], .agg #[.int .i64 t435, .int .i64 t436, .slice Ao40 t437.length co40, .slice Ao41 t440.length co41, .slice Ao42 t443.length co42]] (by rfl) rfl rfl sa ?_
       with_reducible refine (laws_eqDisk.calls kj13 t421 t422 _ _ t423 _ _ t426 _ _ t429 t435 t436 _ _ t437 _ _ t440 _ _ t443 true _ ?side1 ?side2 ?side3 ?side4 ?side5 ?side6 ?side7 ?side8 ?side9 ?side10 ?side11 ?side12 A36.out).mono ?_
       (case side1 => exact ca ((Kd.R_reads' HO_433002.out).2.2))
       (case side2 => exact (Kd.R_reads' HO_433002.out).2.1)
       (case side3 => exact ca ((Kd.R_reads' HO_433003.out).2.2))
       (case side4 => exact (Kd.R_reads' HO_433003.out).2.1)
       (case side5 => exact ca ((Kd.R_reads' HO_433004.out).2.2))
       (case side6 => exact (Kd.R_reads' HO_433004.out).2.1)
       (case side7 => exact ca ((Kd.R_reads' HO439.out).2.2))
       (case side8 => exact (Kd.R_reads' HO439.out).2.1)
       (case side9 => exact ca ((Kd.R_reads' HO442.out).2.2))
       (case side10 => exact (Kd.R_reads' HO442.out).2.1)
       (case side11 => exact ca ((Kd.R_reads' HO445.out).2.2))
       (case side12 => exact (Kd.R_reads' HO445.out).2.1)
       rintro e w43 ⟨rfl, hb⟩
       refine ⟨_, rfl, ?_⟩
       replace HO_433002 := Aside0.mk (Kd.R_below (rpR HO_433002.out) hb); replace HO_433003 := Aside0.mk (Kd.R_below (rpR HO_433003.out) hb); replace HO_433004 := Aside0.mk (Kd.R_below (rpR HO_433004.out) hb); replace HO439 := Aside0.mk (Kd.R_below (rpR HO439.out) hb); replace HO442 := Aside0.mk (Kd.R_below (rpR HO442.out) hb); replace HO445 := Aside0.mk (Kd.R_below (rpR HO445.out) hb); replace BK406 := bv BK406 hb; replace BK432 := bv BK432 hb; replace HB := bs (w := w) hb; (try clear hb hb2 hk hi)
       refine hK.out _ _ ⟨cb 0 BK432, cb 1 BK432, cb 2 BK432, cb 3 BK432, cb 4 BK432, cb 0 BK406, cb 1 BK406, cb 2 BK406, cb 3 BK406, cb 4 BK406⟩ (fun hHeld => ?_)
       clear hK K
       refine norm_ (a' := ?_) ?_ ?_
       rotate_left
       ·show Act.put _ (some 45) _ = _
        simp only [Act.put, List.setIfInBounds_toArray, List.set_cons_zero, List.set_cons_succ, i64_w, i32_w]
        rfl
       refine pV 4 46 #[true, true, true, true, true] ?_
       refine done_ (by kernel_rfl) ?_
       try go_wp2
       go_ret
       exact ⟨fe, bl⟩
      ·replace c37 := Bool.eq_false_iff.mpr c37
       subst c37
       replace H := iF H
       exact absurd ((Option.some.inj H).trans hr_) (by decide)
end Go.Proofs.Ytjcmcamijaelbaa.PFnExactLoad
